/-
  Texts put together (part 4): the walks and the plain laws on which the statement stands.
-/
import Derived.Shelf.Strings.Builder1
import Derived.Shelf.Strings.BuilderF
import Derived.Shelf.Strings.BuilderK
import Derived.Test.YtihbnmlinkbnkaaGreatDoorZ1
set_option maxRecDepth 100000
set_option maxHeartbeats 12800000
set_option linter.unusedVariables false
set_option linter.unusedSimpArgs false
open Go.Proofs.Tryz
open Go.Proofs.Tryz renaming prog->pG
open Go.Lib renaming OthersKept->IC,byteCells->pU
open List renaming eraseIdx_sublist->XC,ext_getElem?->lH,flatMap_cons->yR,getD_eq_getElem?_getD->bV,getElem?_eq_getElem->aN,getElem_mem->kK,length_pos_iff->gG,length_set->nW,mem_append->dK,mem_cons->jQ,mem_cons_of_mem->iQ,mem_cons_self->jK,mem_flatMap->aL1,mem_iff_getElem->yN,mem_map->eK,mem_singleton->cP,nodup_append->IP,nodup_cons->XB,pairwise_iff_getElem->DH,perm_append_comm->aLe,sum_cons->xB
open List.Perm renaming refl->GZ
open Nat renaming add_sub_cancel->oR,eq_zero_or_pos->jE,lt_trans->IL
namespace Go.Proofs.YtihbnmlinkbnkaaGreatDoor
section
def oD (f:Nat->Int):Nat->Nat
 |0=>0
 |k+1=>if f k<f (oD f k) then k else oD f k
theorem EQ (f:Nat->Int):∀k,0<k->oD f k<k/\(∀j,j<k->f (oD f k)<=f j)/\∀j,j<oD f k->f (oD f k)<f j
 |0,h=>by omega
 |1,_=>by simp[oD]
 |k+2,_=>by
  obtain⟨d,A,F⟩:=EQ f (k+1) (by omega)
  grind [oD]
inductive HT where
 |leaf (n:Nat)
 |node (n:Nat) (l r:HT)
def HT.root:HT->Nat
 |.leaf n=>n
 |.node n _ _=>n
def HT.leaves:HT->List Nat
 |.leaf n=>[n]
 |.node _ l r=>l.leaves++r.leaves
def HT.nums:HT->List Nat
 |.leaf n=>[n]
 |.node n l r=>n::(l.nums++r.nums)
def HT.high:HT->Nat
 |.leaf _=>0
 |.node _ l r=>max l.high r.high+1
def HT.deep:Nat->HT->List (Nat×Nat)
 |d,.leaf n=>[(n,d)]
 |d,.node _ l r=>l.deep (d+1)++r.deep (d+1)
theorem HT.leaves_sub:∀(t:HT),∀x∈t.leaves,x∈t.nums
 |.leaf _,x,h=>h
 |.node _ l r,x,h=>by
  unfold HT.leaves at h;unfold HT.nums;rcases dK.1 h with h|h
  ·exact iQ _ (dK.2 (.inl (HT.leaves_sub l x h)))
  ·exact iQ _ (dK.2 (.inr (HT.leaves_sub r x h)))
theorem HT.root_mem:∀t:HT,t.root∈t.nums
 |.leaf _=>cP.2 rfl
 |.node _ _ _=>jK ..
theorem HT.leaves_nodup:∀t:HT,t.nums.Nodup->t.leaves.Nodup
 |.leaf _,h=>h
 |.node _ l r,h=>by
  unfold HT.nums at h;obtain⟨_,h⟩:=XB.1 h;obtain⟨d,A,F⟩:=IP.1 h;unfold HT.leaves;exact IP.2 ⟨HT.leaves_nodup l d,HT.leaves_nodup r A,fun a G b H=>F a (HT.leaves_sub l a G) b (HT.leaves_sub r b H)⟩
theorem HT.deep_map:∀(t:HT) (d:Nat),(t.deep d).map (·.1)=t.leaves
 |.leaf _,_=>rfl
 |.node _ l r,d=>by simp[HT.deep,HT.leaves,HT.deep_map]
theorem HT.deep_add:∀(t:HT) (d e:Nat),t.deep (d+e)=(t.deep d).map (fun p=>(p.1,p.2+e))
 |.leaf _,_,_=>rfl
 |.node _ l r,d,e=>by
  unfold HT.deep;rw[List.map_append,show d+e+1=d+1+e by omega,HT.deep_add l,HT.deep_add r]
theorem HT.deep_bd:∀(t:HT) (d:Nat),∀p∈t.deep d,d<=p.2/\p.2<=d+t.high
 |.leaf _,d,p,h=>by
  obtain rfl:=cP.1 h;exact⟨Nat.le_refl _,Nat.le_add_right _ _⟩
 |.node _ l r,d,p,h=>by
  unfold HT.deep at h;unfold HT.high;rcases dK.1 h with h|h
  ·have:=HT.deep_bd l _ p h;omega
  ·have:=HT.deep_bd r _ p h;omega
abbrev cE:=List (Int×HT)
def cE.least (r:cE):Nat:=oD (fun i=>(r.getD i (0,.leaf 0)).1) r.length
def cA (r:cE):(Int×HT)×cE:=(r.getD (cE.least r) (0,.leaf 0),r.eraseIdx (cE.least r))
def qV (n:Nat) (r:cE):cE:=(cA (cA r).2).2++[((cA r).1.1+(cA (cA r).2).1.1,.node n (cA r).1.2 (cA (cA r).2).1.2)]
def bS (d:List Int):Nat->cE
 |0=>d.zipIdx.map (fun p=>(p.1,.leaf p.2))
 |t+1=>qV (d.length+t) (bS d t)
theorem zK (r:cE) (h:r≠[]):(cA r).1∈r/\(cA r).2.length+1=r.length/\((cA r).1::(cA r).2).Perm r/\(∀x∈r,(cA r).1.1<=x.1):=by
 have F:0<r.length:=gG.2 h;obtain⟨G,H,J⟩:=EQ (fun i=>(r.getD i (0,.leaf 0)).1) r.length F;have hi:cE.least r<r.length:=G;have d:(cA r).1=r[cE.least r]:=by unfold cA;rw[bV,aN hi];rfl
 refine⟨by grind,?_,?_,fun x I=>?_⟩
 ·show(r.eraseIdx (cE.least r)).length+1=_
  grind
 ·rw[d];show(r[cE.least r]::r.eraseIdx (cE.least r)).Perm r;rw[List.eraseIdx_eq_take_drop_succ];have:r=r.take (cE.least r)++r[cE.least r]::r.drop (cE.least r+1):=by simp
  conv=>rhs;rw[this]
  exact List.perm_middle.symm
 ·obtain⟨j,A,rfl⟩:=yN.1 I;have:=H j A;rw[d];simp only[bV] at this;rw[aN A] at this;have L:r[oD (fun i=>(r[i]?.getD (0,.leaf 0)).1) r.length]? =some r[cE.least r]:=by simp[cE.least,cE,cA]
  grind
theorem aS8 (n:Nat) (r:cE) (h:2<=r.length):(qV n r).length+1=r.length:=by
 have d:=(zK r (by grind)).2.1;have A:=(zK (cA r).2 (by grind)).2.1;unfold qV
 grind
theorem tS (d:List Int):∀t,t<d.length->(bS d t).length+t=d.length:=by
 intro t
 induction t with
 |zero=>intro _;unfold bS;simp
 |succ t A=>
  intro h;have:=A (by omega);have:=aS8 (d.length+t) (bS d t) (by omega);show(qV _ _).length+_=_;omega
structure mT (k n:Nat) (r:cE):Prop where
 nodup:(r.flatMap (fun p=>p.2.nums)).Nodup
 lt:∀p∈r,∀x∈p.2.nums,x<n
 leaves:∀j,j<k->∃p∈r,j∈p.2.leaves
 sorted:r.Pairwise (fun p q=>p.2.root<q.2.root)
theorem aB6 {α β:Type} {f:α->List β} {r s:List α} (h:r.Perm s):(r.flatMap f).Perm (s.flatMap f):=by
 induction h with
 |nil=>exact GZ _
 |cons x _ d=>simp only[yR];exact d.append_left _
 |swap x y l=>simp only[yR,<-List.append_assoc];exact aLe.append_right _
 |trans _ _ A F=>exact A.trans F
theorem uL (n:Nat) (r:cE) (h:2<=r.length):∃a b s,(a::b::s).Perm r/\qV n r=s++[(a.1+b.1,.node n a.2 b.2)]/\(cA r).1=a/\(cA (cA r).2).1=b/\(cA (cA r).2).2=s/\(∀x∈s,b.1<=x.1)/\a.1<=b.1:=by
 have d:=zK r (by grind);have A:=zK (cA r).2 (by grind);refine⟨_,_,_,?_,rfl,rfl,rfl,rfl,fun x F=>?_,?_⟩
 ·exact(List.Perm.cons _ A.2.2.1).trans d.2.2.1
 ·grind
 grind
theorem mT.step {k n:Nat} {r:cE} (A:mT k n r) (h:2<=r.length):mT k (n+1) (qV n r):=by
 obtain⟨a,b,s,G,I,_,_,_,_,_⟩:=uL n r h;have M:((a::b::s).flatMap (fun p=>p.2.nums)).Nodup:=(aB6 G).nodup_iff.2 A.nodup;simp only[yR] at M;have O:a∈r:=G.mem_iff.1 (by simp);have U:b∈r:=G.mem_iff.1 (by simp);have J:∀x∈s,x∈r:=fun x d=>G.mem_iff.1 (by simp[d])
 rw[I];refine⟨?_,?_,?_,?_⟩
 ·have V:(n::((a.2.nums++b.2.nums)++s.flatMap (fun p=>p.2.nums))).Perm ((s++[(a.1+b.1,HT.node n a.2 b.2)]).flatMap (fun p=>p.2.nums)):=by
   rw[List.flatMap_append,List.flatMap_singleton];show(n::((a.2.nums++b.2.nums)++_)).Perm (_++(n::(a.2.nums++b.2.nums)));rw[<-List.cons_append];exact aLe
  rw[<-V.nodup_iff,XB];refine⟨fun hm=>?_,by grind⟩;have:∃p∈r,n∈p.2.nums:=by grind
  obtain⟨p,H,F⟩:=this;have:=A.lt p H n F;omega
 ·intro p F x d;rcases dK.1 F with q|q
  ·have:=A.lt p (J p q) x d;omega
  ·obtain rfl:=cP.1 q;rcases jQ.1 d with rfl|d
   ·omega
   ·rcases dK.1 d with d|d
    ·have:=A.lt a O x d;omega
    ·have:=A.lt b U x d;omega
 ·intro j Z;obtain⟨p,H,F⟩:=A.leaves j Z;have:=G.mem_iff.2 H;simp only[jQ] at this;rcases this with rfl|rfl|q
  ·exact⟨_,dK.2 (.inr (cP.2 rfl)),dK.2 (.inl F)⟩
  ·exact⟨_,dK.2 (.inr (cP.2 rfl)),dK.2 (.inr F)⟩
  grind
 ·have a0:s.Sublist r:=by
   obtain⟨_,_,_,h3⟩:=uL n r h;have e:s=(r.eraseIdx (cE.least r)).eraseIdx (cE.least (r.eraseIdx (cE.least r))):=by
    have:=I;unfold qV at this;have L:=congrArg (fun l=>l.take (l.length-1)) this;simp only[List.length_append,List.length_singleton,oR,List.take_left'] at L;exact L.symm
   rw[e];exact(XC ..).trans (XC ..)
  rw[List.pairwise_append];refine⟨A.sorted.sublist a0,List.pairwise_singleton _ _,fun p H q hq=>?_⟩;obtain rfl:=cP.1 hq;exact A.lt p (J p H) _ (HT.root_mem _)
def lZ (A:List Int) (F:List Nat):List Int:=F.foldl (fun d j=>d.set j (d.getD j 0+1)) A
theorem KZ:∀(A:List Nat) (d:List Int),(lZ d A).length=d.length
 |[],_=>rfl
 |j::A,d=>by
  show(lZ (d.set j (d.getD j 0+1)) A).length=_;rw[KZ A,nW]
theorem BW:∀(A:List Nat) (d:List Int),A.Nodup->∀j,j<d.length->(lZ d A).getD j 0=d.getD j 0+if j∈A then 1 else 0
 |[],d,_,j,_=>by simp[lZ]
 |i::A,d,h,j,G=>by
  obtain⟨H,F⟩:=XB.1 h;show(lZ (d.set i (d.getD i 0+1)) A).getD j 0=_;rw[BW A _ F j (by grind)]
  grind
def tT (k:Nat) (r:cE) (d:List Int):Prop:=d.length=k/\∀p∈r,∀q∈p.2.deep 0,q.1<k/\d.getD q.1 0=(q.2:Int)
theorem HT.deep_leaf (t:HT) (d:Nat):∀q∈t.deep d,q.1∈t.leaves:=by grind [HT.deep_map]
theorem RM {r:cE} {a b:Int×HT} {s:cE} (I:(r.flatMap (fun p=>p.2.nums)).Nodup) (J:(a::b::s).Perm r):
  (a.2.leaves++b.2.leaves).Nodup/\(∀p∈s,∀x∈p.2.nums,x ∉ a.2.nums/\x ∉ b.2.nums)/\(∀x∈a.2.nums,x ∉ b.2.nums)/\a.2.nums.Nodup/\b.2.nums.Nodup/\∀p∈s,p.2.nums.Nodup:=by
 have h:((a::b::s).flatMap (fun p=>p.2.nums)).Nodup:=(aB6 J).nodup_iff.2 I;simp only[yR] at h;obtain⟨G,L,A⟩:=IP.1 h;obtain⟨H,V,M⟩:=IP.1 L;have O:∀p∈s,p.2.nums.Nodup:=fun p F=>by grind
 refine⟨?_,fun p F x d=>⟨fun q=>A x q x (dK.2 (.inr (aL1.2 ⟨p,F,d⟩))) rfl,fun q=>M x q x (aL1.2 ⟨p,F,d⟩) rfl⟩,fun x d q=>A x d x (dK.2 (.inl q)) rfl,G,H,O⟩;exact IP.2 ⟨HT.leaves_nodup _ G,HT.leaves_nodup _ H,fun x d y U=>A x (HT.leaves_sub _ x d) y (dK.2 (.inl (HT.leaves_sub _ y U)))⟩
theorem tT.step {k n:Nat} {r:cE} (hg:mT k n r) (h:2<=r.length) {L:List Int} (F:tT k r L):
  tT k (qV n r) (lZ L ((cA r).1.2.leaves++(cA (cA r).2).1.2.leaves)):=by
 obtain⟨a,b,s,M,he,ea,eb,_,_,_⟩:=uL n r h;obtain⟨O,V,_,_,_,_⟩:=RM hg.nodup M;have ha:a∈r:=M.mem_iff.1 (by simp);have hb:b∈r:=M.mem_iff.1 (by simp);rw[ea,eb,he];refine⟨by rw[KZ];exact F.1,fun p a1 q U=>?_⟩;rcases dK.1 a1 with H|H
 ·obtain⟨A,I⟩:=F.2 p (M.mem_iff.1 (by simp[H])) q U;refine⟨A,?_⟩;rw[BW _ _ O _ (by rw[F.1];exact A),aA,Int.add_zero,I];intro d;have Z:=HT.leaves_sub _ _ (HT.deep_leaf _ _ q U);rcases dK.1 d with d|d
  ·exact(V p H _ Z).1 (HT.leaves_sub _ _ d)
  ·exact(V p H _ Z).2 (HT.leaves_sub _ _ d)
 ·obtain rfl:=cP.1 H;have a0:q∈a.2.deep (0+1)++b.2.deep (0+1):=U;rw[HT.deep_add,HT.deep_add] at a0;rcases dK.1 a0 with d|d
  ·obtain⟨G,J,rfl⟩:=eK.1 d;obtain⟨A,I⟩:=F.2 a ha G J;refine⟨A,?_⟩;show(lZ L (a.2.leaves++b.2.leaves)).getD G.1 0=_;rw[BW _ _ O _ (by rw[F.1];exact A),aB (dK.2 (.inl (HT.deep_leaf _ _ G J))),I];rfl
  ·obtain⟨G,J,rfl⟩:=eK.1 d;obtain⟨A,I⟩:=F.2 b hb G J;refine⟨A,?_⟩;show(lZ L (a.2.leaves++b.2.leaves)).getD G.1 0=_;rw[BW _ _ O _ (by rw[F.1];exact A),aB (dK.2 (.inr (HT.deep_leaf _ _ G J))),I];rfl
def HT.upOk (d:Nat->Int):HT->Prop
 |.leaf _=>True
 |.node n l r=>d l.root=(n:Int)/\d r.root=(n:Int)/\l.upOk d/\r.upOk d
def HT.inc:HT->Prop
 |.leaf _=>True
 |.node n l r=>(∀x∈l.nums,x<n)/\(∀x∈r.nums,x<n)/\l.inc/\r.inc
theorem HT.upOk_congr {f g:Nat->Int}:∀t:HT,(∀x∈t.nums,x≠t.root->f x=g x)->t.nums.Nodup->t.upOk f->t.upOk g
 |.leaf _,_,_,_=>trivial
 |.node n l r,h,A,⟨U,V,G,H⟩=>by
  unfold HT.nums at A h;obtain⟨F,I⟩:=XB.1 A;obtain⟨J,L,Z⟩:=IP.1 I;have M:∀x∈l.nums,f x=g x:=fun x d=>h x (iQ _ (dK.2 (.inl d))) (fun e=>F (by rw[<-show x=n from e];exact dK.2 (.inl d)))
  have O:∀x∈r.nums,f x=g x:=fun x d=>h x (iQ _ (dK.2 (.inr d))) (fun e=>F (by rw[<-show x=n from e];exact dK.2 (.inr d)))
  exact⟨by grind [HT.root_mem],by grind [HT.root_mem],HT.upOk_congr l (fun x d _=>M x d) J G,HT.upOk_congr r (fun x d _=>O x d) L H⟩
def HUp (r:cE) (d:Nat->Int):Prop:=∀p∈r,p.2.upOk d/\p.2.inc
theorem HUp.step {k n:Nat} {r:cE} (G:mT k n r) (h:2<=r.length) {L:Nat->Int} (H:HUp r L):
  HUp (qV n r) (fun x=>if x=(cA (cA r).2).1.2.root then(n:Int) else if x=(cA r).1.2.root then(n:Int) else L x):=by
 obtain⟨a,b,s,F,V,Z,eb,_,_,_⟩:=uL n r h;obtain⟨_,M,I,h4,h5,h6⟩:=RM G.nodup F;have O:a∈r:=F.mem_iff.1 (by simp);have U:b∈r:=F.mem_iff.1 (by simp);rw[Z,eb,V];have a3:a.2.root≠b.2.root:=fun e=>I _ (HT.root_mem _) (by rw[e];exact HT.root_mem _)
 intro p a0;rcases dK.1 a0 with A|A
 ·obtain⟨k1,k2⟩:=H p (F.mem_iff.1 (by simp[A]));refine⟨HT.upOk_congr _ (fun x d _=>?_) (h6 p A) k1,k2⟩;rw[aA (fun e=>(M p A x d).2 (by rw[e];exact HT.root_mem _)),aA (fun e=>(M p A x d).1 (by rw[e];exact HT.root_mem _))]
 ·obtain rfl:=cP.1 A;obtain⟨a1,a2⟩:=H a O;obtain⟨b1,b2⟩:=H b U;refine⟨⟨?_,?_,?_,?_⟩,?_,?_,a2,b2⟩
  ·simp
  ·simp
  ·refine HT.upOk_congr _ (fun x d J=>?_) h4 a1;rw[aA (fun e=>I x d (by rw[e];exact HT.root_mem _)),aA J]
  ·refine HT.upOk_congr _ (fun x d J=>?_) h5 b1;rw[aA J,aA (fun e=>I _ (HT.root_mem _) (by grind))]
  ·exact fun x d=>G.lt a O x d
  ·exact fun x d=>G.lt b U x d
theorem HT.down {H D:Nat->Int}:∀(t:HT) (F:Nat),t.root<=F->t.upOk H->t.inc->(∀x,x<F->D x=D (H x).toNat+1)->∀d:Nat,D t.root=(d:Int)->∀q∈t.deep d,D q.1=(q.2:Int)
 |.leaf n,_,_,_,_,_,d,G,q,A=>by
  obtain rfl:=cP.1 A;exact G
 |.node n l r,F,J,⟨h1,h2,L,M⟩,⟨O,U,V,Z⟩,I,d,G,q,A=>by
  have hl:=O _ (HT.root_mem l);have hr:=U _ (HT.root_mem r);have a0:n<=F:=J;have a1:D n=(d:Int):=G;have e1:D l.root=((d+1:Nat):Int):=by grind
  have e2:D r.root=((d+1:Nat):Int):=by grind
  rcases dK.1 A with A|A
  ·exact HT.down l F (by omega) L V I (d+1) e1 q A
  ·exact HT.down r F (by omega) M Z I (d+1) e2 q A
theorem mT.start (d:List Int):mT d.length d.length (bS d 0):=by
 have e:(bS d 0).flatMap (fun p=>p.2.nums)=List.range d.length:=by
  unfold bS;rw[List.flatMap_map];have:(fun a:Int×Nat=>(HT.leaf a.2).nums)=fun a=>[a.2]:=rfl
  simp only[this];rw[<-List.map_eq_flatMap];apply lH
  grind
 have G:∀p∈bS d 0,∃j,j<d.length/\p=(d.getD j 0,.leaf j):=fun p F=>by grind [bS]
 refine⟨by grind,fun p F x H=>?_,fun j A=>?_,?_⟩
 ·obtain⟨j,A,rfl⟩:=G p F;obtain rfl:=cP.1 H;exact A
 ·refine⟨(d.getD j 0,.leaf j),?_,cP.2 rfl⟩;unfold bS;refine eK.2 ⟨(d.getD j 0,j),yN.2 ⟨j,by simpa using A,by simp[A]⟩,rfl⟩
 ·unfold bS;rw[DH];intro i j hi A I;simp at hi A ⊢;exact I
theorem cE.start_mem {d:List Int} {p:Int×HT} (A:p∈bS d 0):∃j,j<d.length/\p=(d.getD j 0,.leaf j):=by grind [bS]
theorem mT.all (d:List Int):∀t,t<d.length->mT d.length (d.length+t) (bS d t)
 |0,_=>mT.start d
 |t+1,h=>(mT.all d t (by omega)).step (by grind [tS,bS])
def jO (d:List Int):Nat->List Int
 |0=>List.replicate d.length 0
 |t+1=>lZ (jO d t) ((cA (bS d t)).1.2.leaves++(cA (cA (bS d t)).2).1.2.leaves)
theorem wD (d:List Int):∀t,(jO d t).length=d.length
 |0=>by simp[jO]
 |t+1=>by simp[jO,KZ,wD]
theorem tT.all (d:List Int):∀t,t<d.length->tT d.length (bS d t) (jO d t)
 |0,_=>⟨by simp[jO],fun p A q F=>by
   obtain⟨j,G,rfl⟩:=cE.start_mem A;obtain rfl:=cP.1 F
   grind [jO,tT,bS]⟩
 |t+1,h=>(tT.all d t (by omega)).step (mT.all d t (by omega)) (by have:=tS d t (by omega);omega)
def kQ (d:List Int):Nat->Nat->Int
 |0=>fun _=>0
 |t+1=>fun x=>if x=(cA (cA (bS d t)).2).1.2.root then((d.length+t:Nat):Int) else if x=(cA (bS d t)).1.2.root then((d.length+t:Nat):Int) else kQ d t x
theorem HUp.all (d:List Int):∀t,t<d.length->HUp (bS d t) (kQ d t)
 |0,_=>fun p A=>by
   obtain⟨j,F,rfl⟩:=cE.start_mem A;exact⟨trivial,trivial⟩
 |t+1,h=>(HUp.all d t (by omega)).step (mT.all d t (by omega)) (by grind [tS,HUp,bS,kQ])
def nK (d:List Int):List Int:=jO d (d.length-1)
theorem LA (d:List Int) (h:2<=d.length):∃p,bS d (d.length-1)=[p]/\p.2.root=2*d.length-2:=by
 obtain⟨t,F⟩:∃t,d.length=t+2:=⟨d.length-2,by omega⟩;have I:=tS d (d.length-1) (by omega);obtain⟨p,A⟩:=List.length_eq_one_iff.1 (show(bS d (d.length-1)).length=1 by omega);refine⟨p,A,?_⟩;rw[F,show t+2-1=t+1 by omega] at A;have G:bS d (t+1)=qV (d.length+t) (bS d t):=rfl;obtain⟨a,b,s,_,H,_⟩:=uL (d.length+t) (bS d t) (by grind [tS,bS]);rw[G,H] at A;have:s=[]:=by
  have:=congrArg List.length A;simp at this;exact this
 rw[this] at A;simp at A;rw[<-A];show d.length+t=_;omega
theorem aTc (d:List Int) (h:2<=d.length) {D:Nat->Int} (h0:D (2*d.length-2)=0) (L:∀x,x<2*d.length-2->D x=D (kQ d (d.length-1) x).toNat+1):∀j,j<d.length->D j=(nK d).getD j 0:=by
 obtain⟨p,M,hr⟩:=LA d h;have F:=mT.all d (d.length-1) (by omega);have G:=tT.all d (d.length-1) (by omega);have H:=HUp.all d (d.length-1) (by omega);rw[M] at F G H;intro j O;obtain⟨A,U,I⟩:=F.leaves j O;obtain rfl:=cP.1 U;obtain⟨V,Z⟩:=H A (cP.2 rfl);rw[<-HT.deep_map A.2 0] at I;obtain⟨q,J,rfl⟩:=eK.1 I;have e1:=HT.down A.2 (2*d.length-2) (by omega) V Z L 0 (by grind) q J;have e2:=(G.2 A (cP.2 rfl) q J).2;rw[e1];exact e2.symm
def HT.wt (f:Nat->Int):HT->Int
 |.leaf n=>f n
 |.node _ l r=>l.wt f+r.wt f
def HT.kids (f:Nat->Int) (x:Int):HT->Prop
 |.leaf _=>True
 |.node _ l r=>l.wt f<=x/\r.wt f<=x
def HT.even (f:Nat->Int):HT->Prop
 |.leaf n=>1<=f n
 |.node _ l r=>l.even f/\r.even f/\l.kids f (r.wt f)/\r.kids f (l.wt f)
def oE:Nat->Int
 |0=>1
 |1=>2
 |n+2=>oE (n+1)+oE n
theorem RN:∀n,1<=oE n
 |0=>by decide
 |1=>by decide
 |n+2=>by have:=RN (n+1);have:=RN n;unfold oE;omega
theorem aS9 (n:Nat):oE n<=oE (n+1):=by
 cases n with
 |zero=>decide
 |succ n=>have:=RN n;show _<=oE (n+1)+oE n;omega
theorem aB7 {m n:Nat} (h:m<=n):oE m<=oE n:=by
 induction h with
 |refl=>exact Int.le_refl _
 |step _ d=>exact Int.le_trans d (aS9 _)
theorem HT.wt_pos {f:Nat->Int}:∀t:HT,t.even f->1<=t.wt f
 |.leaf _,h=>h
 |.node _ l r,h=>by have:=HT.wt_pos l h.1;have:=HT.wt_pos r h.2.1;unfold HT.wt;omega
theorem HT.wt_high2 {f:Nat->Int}:∀t:HT,t.even f->oE t.high<=t.wt f/\∀x,1<=x->t.kids f x->oE (t.high+1)<=t.wt f+x
 |.leaf n,h=>⟨h,fun x G _=>by
   have H:1<=f n:=h;show(2:Int)<=f n+x;omega⟩
 |.node n l r,h=>by
  obtain⟨I,A⟩:=HT.wt_high2 l h.1;obtain⟨J,F⟩:=HT.wt_high2 r h.2.1;have L:=A _ (HT.wt_pos r h.2.1) h.2.2.1;have M:=F _ (HT.wt_pos l h.1) h.2.2.2;have first:oE (max l.high r.high+1)<=l.wt f+r.wt f:=by grind
  refine⟨first,fun x _ d=>?_⟩;show oE (max l.high r.high+1)+oE (max l.high r.high)<=l.wt f+r.wt f+x;have O:l.wt f<=x:=d.1;have U:r.wt f<=x:=d.2
  grind
theorem HT.wt_high {f:Nat->Int} (t:HT) (h:t.even f):oE t.high<=t.wt f:=(HT.wt_high2 t h).1
theorem aTa {l m:List Int} (h:l.Perm m):l.sum=m.sum:=by
 induction h with
 |nil=>rfl
 |cons x _ d=>simp only[xB];omega
 |swap x y l=>simp only[xB];omega
 |trans _ _ A F=>omega
structure wE (f:Nat->Int) (r:cE):Prop where
 wt:∀p∈r,p.1=p.2.wt f
 even:∀p∈r,p.2.even f
 kids:∀p∈r,∀q∈r,p.2.kids f (q.2.wt f)
theorem HT.kids_le {f:Nat->Int} {x y:Int} (h:x<=y):∀t:HT,t.kids f x->t.kids f y
 |.leaf _,_=>trivial
 |.node _ _ _,⟨d,A⟩=>⟨by omega,by omega⟩
theorem wE.step {f:Nat->Int} {n:Nat} {r:cE} (d:wE f r) (h:2<=r.length):wE f (qV n r)/\((qV n r).map (·.1)).sum=(r.map (·.1)).sum:=by
 obtain⟨a,b,s,H,O,ea,eb,es,U,a1⟩:=uL n r h;have A:a∈r:=H.mem_iff.1 (by simp);have F:b∈r:=H.mem_iff.1 (by simp);have I:∀x∈s,x∈r:=fun x V=>H.mem_iff.1 (by simp[V])
 have wa:=d.wt a A;have Z:=d.wt b F;have pa:=HT.wt_pos _ (d.even a A);have pb:=HT.wt_pos _ (d.even b F);rw[O];refine⟨⟨fun p G=>?_,fun p G=>?_,fun p G q L=>?_⟩,?_⟩
 ·rcases dK.1 G with q|q
  ·exact d.wt p (I p q)
  ·obtain rfl:=cP.1 q;show a.1+b.1=a.2.wt f+b.2.wt f;omega
 ·rcases dK.1 G with q|q
  ·exact d.even p (I p q)
  ·obtain rfl:=cP.1 q;exact⟨d.even a A,d.even b F,d.kids a A b F,d.kids b F a A⟩
 ·have a2:∀u∈r,u.2.kids f (q.2.wt f):=fun u M=>by
   rcases dK.1 L with k|k
   ·exact d.kids u M q (I q k)
   ·obtain rfl:=cP.1 k;exact HT.kids_le (show a.2.wt f<=a.2.wt f+b.2.wt f by omega) _ (d.kids u M a A)
  rcases dK.1 G with k|k
  ·grind
  ·obtain rfl:=cP.1 k;have a0:b.2.wt f<=q.2.wt f:=by
    rcases dK.1 L with J|J
    ·have:=U q J;rw[<-Z,<-d.wt q (I q J)];exact this
    ·obtain rfl:=cP.1 J;show _<=a.2.wt f+b.2.wt f;omega
   exact⟨by omega,a0⟩
 ·have:(r.map (·.1)).sum=((a::b::s).map (·.1)).sum:=(aTa (H.map _)).symm
  grind
theorem wE.all (d:List Int) (G:∀x∈d,1<=x):∀t,t<d.length->wE (fun j=>d.getD j 0) (bS d t)/\((bS d t).map (·.1)).sum=d.sum
 |0,_=>by
  refine⟨⟨fun p A=>?_,fun p A=>?_,fun p A q _=>?_⟩,?_⟩
  ·obtain⟨j,F,rfl⟩:=cE.start_mem A;rfl
  ·obtain⟨j,F,rfl⟩:=cE.start_mem A;show 1<=d.getD j 0
   grind [aN,kK,bS]
  ·obtain⟨j,F,rfl⟩:=cE.start_mem A;trivial
  ·congr 1
   unfold bS;rw[List.map_map];apply lH
   grind
 |t+1,h=>by
  obtain⟨H,I⟩:=wE.all d G t (by omega);obtain⟨J,L⟩:=H.step (n:=d.length+t) (by grind [tS,bS])
  grind [bS]
theorem aTb (d:List Int) (h:2<=d.length) (U:∀x∈d,1<=x) (hs:d.sum<28657):(nK d).length=d.length/\∀x∈nK d,1<=x/\x<=20:=by
 refine⟨wD _ _,fun x V=>?_⟩;obtain⟨p,Z,hr⟩:=LA d h;have G:=mT.all d (d.length-1) (by omega);have J:=tT.all d (d.length-1) (by omega);obtain⟨H,a0⟩:=wE.all d U (d.length-1) (by omega);rw[Z] at G J H a0;obtain⟨j,hj,rfl⟩:=yN.1 V;have a1:j<d.length:=by grind [wD,nK]
 obtain⟨A,a2,L⟩:=G.leaves j a1;obtain rfl:=cP.1 a2;rw[<-HT.deep_map A.2 0] at L;obtain⟨q,F,a3⟩:=eK.1 L;have e2:=(J.2 A (cP.2 rfl) q F).2;rw[show q.1=j from a3] at e2;have e3:(nK d)[j]=(q.2:Int):=by grind [jO,nK]
 rw[e3];have hb:=HT.deep_bd A.2 0 q F;have hw:=HT.wt_high A.2 (H.even A (cP.2 rfl));have a6:=H.wt A (cP.2 rfl);have a7:A.1=d.sum:=by grind
 have hh:A.2.high<=20:=by
  rcases Nat.lt_or_ge 20 A.2.high with k|k
  ·have:=aB7 (show 21<=A.2.high from k);have e:oE 21=28657:=by decide
   omega
  ·exact k
 refine⟨?_,by omega⟩;rcases jE q.2 with k|k
 ·exfalso
  cases I:A.2 with
  |leaf m=>
   have a8:m=2*d.length-2:=by rw[<-hr,I];rfl
   obtain⟨p0,a4,M⟩:=G.leaves 0 (by omega);obtain⟨p2,a5,O⟩:=G.leaves 1 (by omega);obtain rfl:=cP.1 a4;obtain rfl:=cP.1 a5;rw[I] at M O;have:=cP.1 M;have:=cP.1 O;omega
  |node m l r=>
   rw[I] at F;rcases dK.1 F with F|F
   ·have:=HT.deep_bd l _ q F;omega
   ·have:=HT.deep_bd r _ q F;omega
 ·omega
theorem aFr:∀(n:Nat) (l:List Nat),l.Nodup->(∀x∈l,x<n)->l.length<=n
 |0,l,_,h=>by
  cases l with
  |nil=>simp
  |cons x l=>have:=h x (jK ..);omega
 |n+1,l,d,h=>by
  have A:=aFr n (l.erase n) (d.erase n) (fun x F=>by grind)
  grind
theorem aFs (d:List Int) (t:Nat) (F:t<d.length) {p:Int×HT} (G:p∈bS d t):∀x∈p.2.leaves,x<d.length:=fun x A=>by
 rw[<-HT.deep_map p.2 0] at A;obtain⟨q,H,rfl⟩:=eK.1 A;exact((tT.all d t F).2 p G q H).1
def oY (d:List Int) (t:Nat):List Nat:=(cA (bS d t)).1.2.leaves++(cA (cA (bS d t)).2).1.2.leaves
theorem TH (d:List Int) (t:Nat) (O:t+1<d.length):(oY d t).Nodup/\(∀x∈oY d t,x<d.length)/\(oY d t).length<=d.length:=by
 have U:=tS d t (by omega);obtain⟨a,b,s,F,V,I,J,_,_,_⟩:=uL (d.length+t) (bS d t) (by omega);obtain⟨G,_⟩:=RM (mT.all d t (by omega)).nodup F;have L:a∈bS d t:=F.mem_iff.1 (by simp);have M:b∈bS d t:=F.mem_iff.1 (by simp);unfold oY;rw[I,J];have H:∀x∈a.2.leaves++b.2.leaves,x<d.length:=fun x A=>by
  rcases dK.1 A with A|A
  ·exact aFs d t (by omega) L x A
  ·exact aFs d t (by omega) M x A
 exact⟨G,H,aFr _ _ G H⟩
theorem aFt (d:List Int) (t:Nat):jO d (t+1)=lZ (jO d t) (oY d t):=rfl
theorem aFu (d:List Int):∀t,t<d.length->∀j,j<d.length->0<=(jO d t).getD j 0/\(jO d t).getD j 0<=(t:Int)
 |0,_,j,A=>by simp[jO,A]
 |t+1,F,j,A=>by
  have G:=aFu d t (by omega) j A
  grind [wD,aFt,BW,TH,jO]
theorem aX3 (d:List Int) (A:List Nat) (y:Nat):lZ d (A++[y])=(lZ d A).set y ((lZ d A).getD y 0+1):=by simp[lZ]
theorem aX4 (A:List Int) (t:Nat) (G:t+1<A.length) {j y:Nat} (H:(oY A t)[j]? =some y):y<A.length/\∃d:Int,(lZ (jO A t) ((oY A t).take j))[y]? =some d/\0<=d/\d<=1000+(A.length:Int)/\
  lZ (jO A t) ((oY A t).take (j+1))=(lZ (jO A t) ((oY A t).take j)).set y (d+1):=by
 obtain⟨I,J,L⟩:=TH A t G;have F:=J y (List.mem_of_getElem? H);have M:(lZ (jO A t) ((oY A t).take j)).length=A.length:=by rw[KZ,wD]
 have O:=BW ((oY A t).take j) (jO A t) (I.sublist (List.take_sublist _ _)) y (by rw[wD];exact F);have U:=aFu A t (by omega) y F
 grind [lZ,jO,oY,aN,List.take_add_one,Option.toList_some,aX3]
def ahd (a b:Int×Int):Prop:=a.1<b.1\/(a.1=b.1/\a.2<b.2)
instance (a b:Int×Int):Decidable (ahd a b):=inferInstanceAs (Decidable (_\/_))
theorem ML {a b c:Int×Int} (d:¬ahd b a) (A:¬ahd c b):¬ahd c a:=by unfold ahd at*;omega
theorem TR {a b:Int×Int} (h:ahd a b):¬ahd b a:=by unfold ahd at*;omega
def pR (l:List (Int×Int)) (i j:Nat):List (Int×Int):=(l.set i (l.getD j (0,0))).set j (l.getD i (0,0))
theorem CN (l:List (Int×Int)) (i j:Nat):(pR l i j).length=l.length:=by simp[pR]
theorem aGu {l:List (Int×Int)} {i j:Nat} (hi:i<l.length) (d:j<l.length) (k:Nat):(pR l i j).getD k (0,0)=if k=j then l.getD i (0,0) else if k=i then l.getD j (0,0) else l.getD k (0,0):=by grind [pR]
theorem aZg {l:List (Int×Int)} {i:Nat} (hi:i<l.length):l=l.take i++l[i]::l.drop (i+1):=by simp
theorem aGv {l:List (Int×Int)} {i j:Nat} (d:i<j) (A:j<l.length):(pR l i j).Perm l:=by grind [aZg,pR]
def oG (l:List (Int×Int)):Prop:=∀j,0<j->j<l.length->¬ahd (l.getD j (0,0)) (l.getD ((j-1)/2) (0,0))
def pS (l:List (Int×Int)) (i:Nat):Prop:=(∀j,0<j->j<l.length->j≠i->¬ahd (l.getD j (0,0)) (l.getD ((j-1)/2) (0,0)))/\
 (0<i->∀j,0<j->j<l.length->(j-1)/2=i->¬ahd (l.getD j (0,0)) (l.getD ((i-1)/2) (0,0)))
def tX (l:List (Int×Int)) (i:Nat):Prop:=(∀j,0<j->j<l.length->(j-1)/2≠i->¬ahd (l.getD j (0,0)) (l.getD ((j-1)/2) (0,0)))/\
 (0<i->∀j,0<j->j<l.length->(j-1)/2=i->¬ahd (l.getD j (0,0)) (l.getD ((i-1)/2) (0,0)))
theorem pS.start {l:List (Int×Int)} (h:oG l) (x:Int×Int):pS (l++[x]) l.length:=by grind [oG,pS]
theorem pS.top {l:List (Int×Int)} (h:pS l 0):oG l:=by grind [pS,oG]
theorem pS.stop {l:List (Int×Int)} {i:Nat} (h:pS l i) (d:¬ahd (l.getD i (0,0)) (l.getD ((i-1)/2) (0,0))):oG l:=by grind [pS,ahd,oG]
theorem pS.step {l:List (Int×Int)} {i:Nat} (h:pS l i) (O:0<i) (hi:i<l.length) (U:ahd (l.getD i (0,0)) (l.getD ((i-1)/2) (0,0))):pS (pR l i ((i-1)/2)) ((i-1)/2):=by
 have F:(i-1)/2<l.length:=by omega
 have J:i≠(i-1)/2:=by omega
 have g:=aGu hi F;generalize V:(i-1)/2=u at*
 refine⟨fun j G d Z=>?_,fun L j G d M=>?_⟩
 ·grind [CN,TR,ML,pS,ahd,pR]
 ·rw[CN] at d;have H:(u-1)/2≠u/\(u-1)/2≠i:=by omega
  rw[g,g,aA H.1,aA H.2,aA (show j≠u by omega)];have I:=h.1 u L F (fun e=>J e.symm)
  by_cases A:j=i
  ·rw[aB A];exact I
  ·rw[aA A];have:=h.1 j G d A;rw[M] at this;exact ML I this
theorem oG.least {l:List (Int×Int)} (h:oG l):∀j,j<l.length->¬ahd (l.getD j (0,0)) (l.getD 0 (0,0)):=by
 intro j
 induction j using Nat.strongRecOn with
 |ind j d=>
  intro A;rcases jE j with rfl|F
  ·unfold ahd;omega
  ·exact ML (d ((j-1)/2) (by omega) (by omega)) (h j F A)
theorem tX.start {l:List (Int×Int)} (h:oG l) (F:0<l.length):tX ((l.set 0 (l.getD (l.length-1) (0,0))).take (l.length-1)) 0:=by
 refine⟨fun j d A G=>?_,fun h=>by omega⟩;rw[List.length_take,nW] at A;have g:∀k,0<k->k<l.length-1->((l.set 0 (l.getD (l.length-1) (0,0))).take (l.length-1)).getD k (0,0)=l.getD k (0,0):=fun k H I=>by grind
 rw[g j d (by omega),g _ (by omega) (by omega)];exact h j d (by omega)
theorem aZh {l:List (Int×Int)} (d:0<l.length):(l.getD 0 (0,0)::(l.set 0 (l.getD (l.length-1) (0,0))).take (l.length-1)).Perm l:=by
 cases l with
 |nil=>simp at d
 |cons x l=>
  simp only[List.set_cons_zero,List.length_cons,oR];rcases jE l.length with e|e
  ·grind
  ·obtain⟨m,y,rfl⟩:∃m y,l=m++[y]:=⟨l.dropLast,l.getLast (by grind),(List.dropLast_concat_getLast _).symm⟩
   grind
theorem tX.stop {l:List (Int×Int)} {i:Nat} (h:tX l i) (d:∀j,0<j->j<l.length->(j-1)/2=i->¬ahd (l.getD j (0,0)) (l.getD i (0,0))):oG l:=by grind [tX,ahd,oG]
theorem tX.step {l:List (Int×Int)} {i f:Nat} (h:tX l i) (M:0<f) (G:f<l.length) (H:(f-1)/2=i) (O:ahd (l.getD f (0,0)) (l.getD i (0,0)))
  (U:∀j,0<j->j<l.length->(j-1)/2=i->¬ahd (l.getD j (0,0)) (l.getD f (0,0))):tX (pR l i f) f:=by
 have hi:i<l.length:=by omega
 have V:i≠f:=by omega
 have g:=aGu hi G;refine⟨fun j d A I=>?_,fun _ j d A I=>?_⟩
 ·rw[CN] at A;rw[g,g,aA I]
  by_cases J:j=f
  ·subst J;rw[aB rfl,aB H];exact TR O
  ·rw[aA J]
   by_cases L:j=i
   ·subst L;rw[aB rfl,aA (by omega)];exact h.2 d f M G H
   ·rw[aA L]
    by_cases F:(j-1)/2=i
    ·rw[aB F];exact U j d A F
    ·rw[aA F];exact h.1 j d A F
 grind [CN,tX,ahd,pR]
def rT (r:cE):List (Int×Int):=r.map (fun p=>(p.1,(p.2.root:Int)))
theorem aZj (r:cE) (h:r≠[]):∃i,∃hi:i<r.length,(cA r).1=r[i]/\(cA r).2=r.eraseIdx i/\(∀j (d:j<r.length),r[i].1<=r[j].1)/\∀j (d:j<i),r[i].1<(r[j]'(IL d hi)).1:=by
 have F:0<r.length:=gG.2 h;obtain⟨G,H,I⟩:=EQ (fun i=>(r.getD i (0,.leaf 0)).1) r.length F;have hi:cE.least r<r.length:=G;have A:∀j (d:j<r.length),r.getD j (0,.leaf 0)=r[j]:=fun j d=>by grind
 refine⟨cE.least r,hi,by unfold cA;rw[A _ hi],rfl,fun j d=>?_,fun j d=>?_⟩
 ·have:=H j d;rw[A j d,show oD (fun i=>(r.getD i (0,.leaf 0)).1) r.length=cE.least r from rfl,A _ hi] at this;exact this
 ·have J:j<r.length:=IL d hi;have:=I j d;rw[A j J,show oD (fun i=>(r.getD i (0,.leaf 0)).1) r.length=cE.least r from rfl,A _ hi] at this;exact this
theorem aZk {q:List (Int×Int)} {r:cE} (I:oG q) (F:q.Perm (rT r)) (h:r≠[]) (J:r.Pairwise (fun p q=>p.2.root<q.2.root)):q.getD 0 (0,0)=((cA r).1.1,((cA r).1.2.root:Int)):=by
 obtain⟨i,hi,L,_,M,h3⟩:=aZj r h;rw[L];have a1:0<q.length:=by
  rw[F.length_eq];unfold rT;rw[List.length_map];exact gG.2 h
 have O:q.getD 0 (0,0)∈rT r:=by grind
 obtain⟨p,U,V⟩:=eK.1 O;obtain⟨j,G,rfl⟩:=yN.1 U;have Z:(r[i].1,(r[i].2.root:Int))∈q:=F.mem_iff.2 (eK.2 ⟨r[i],kK hi,rfl⟩);obtain⟨k,H,a0⟩:=yN.1 Z;have d:=I.least k H;rw[bV,aN H] at d;simp only[Option.getD_some] at d;rw[a0,<-V] at d;unfold ahd at d;simp only at d;have a2:=M j G;rcases Nat.lt_trichotomy j i with A|A|A
 ·grind
 ·grind
 ·have:=DH.1 J i j hi G A;omega
theorem aZl {r:cE} (h:r≠[]):(((cA r).1.1,((cA r).1.2.root:Int))::rT (cA r).2).Perm (rT r):=by
 have:=(zK r h).2.2.1;exact this.map (fun p=>(p.1,(p.2.root:Int)))
theorem aZm {r:cE} (d:r.Pairwise (fun p q=>p.2.root<q.2.root)):(cA r).2.Pairwise (fun p q=>p.2.root<q.2.root):=d.sublist (XC ..)
end
section
open Go.Shelf Go.RowKit
def FU:Go.Shelf.Ren:=⟨fun|166=>66|167=>133|169=>67|170=>190|240=>112|276=>174|n=>n,fun|3=>3|4=>4|5=>5|9=>9|20=>20|37=>48|70=>103|72=>105|75=>107|80=>110|127=>158|164=>226|n=>n,fun|n=>n⟩
theorem bAi:Go.Proofs.Lays.n166 pG FU:={
 mixed:=by kernel_rfl
 f166:=func66.trans (congrArg some (by kernel_rfl))
 f240:=func112.trans (congrArg some (by kernel_rfl))
 f276:=func174.trans (congrArg some (by kernel_rfl))
 t0:=underlying0
 a0:=Tryz.isAgg0
 z0:=Tryz.sizeOf0
 v0:=Tryz.zeroValue0
 t3:=underlying3
 a3:=Tryz.isAgg3
 z3:=Tryz.sizeOf3
 v3:=Tryz.zeroValue3
 t4:=underlying4
 a4:=Tryz.isAgg4
 z4:=Tryz.sizeOf4
 v4:=Tryz.zeroValue4
 t9:=underlying9
 a9:=Tryz.isAgg9
 z9:=Tryz.sizeOf9
 v9:=Tryz.zeroValue9
 t20:=underlying20
 a20:=Tryz.isAgg20
 z20:=Tryz.sizeOf20
 v20:=Tryz.zeroValue20
 t37:=underlying48
 a37:=Tryz.isAgg48
 z37:=Tryz.sizeOf48
 v37:=Tryz.zeroValue48
 t70:=underlying103
 a70:=Tryz.isAgg103
 z70:=Tryz.sizeOf103
 v70:=Tryz.zeroValue103
 t72:=underlying105
 a72:=Tryz.isAgg105
 z72:=Tryz.sizeOf105
 v72:=Tryz.zeroValue105
 t75:=underlying107
 a75:=Tryz.isAgg107
 z75:=Tryz.sizeOf107
 v75:=Tryz.zeroValue107
 t164:=underlying226
 a164:=Tryz.isAgg226
 z164:=Tryz.sizeOf226
 v164:=Tryz.zeroValue226}
theorem bAj:Go.Proofs.Lays.n167 pG FU:={
 mixed:=by kernel_rfl
 f167:=func133.trans (congrArg some (by kernel_rfl))
 f240:=func112.trans (congrArg some (by kernel_rfl))
 f276:=func174.trans (congrArg some (by kernel_rfl))
 t0:=underlying0
 a0:=Tryz.isAgg0
 z0:=Tryz.sizeOf0
 v0:=Tryz.zeroValue0
 t4:=underlying4
 a4:=Tryz.isAgg4
 z4:=Tryz.sizeOf4
 v4:=Tryz.zeroValue4
 t5:=underlying5
 a5:=Tryz.isAgg5
 z5:=Tryz.sizeOf5
 v5:=Tryz.zeroValue5
 t9:=underlying9
 a9:=Tryz.isAgg9
 z9:=Tryz.sizeOf9
 v9:=Tryz.zeroValue9
 t20:=underlying20
 a20:=Tryz.isAgg20
 z20:=Tryz.sizeOf20
 v20:=Tryz.zeroValue20
 t37:=underlying48
 a37:=Tryz.isAgg48
 z37:=Tryz.sizeOf48
 v37:=Tryz.zeroValue48
 t70:=underlying103
 a70:=Tryz.isAgg103
 z70:=Tryz.sizeOf103
 v70:=Tryz.zeroValue103
 t72:=underlying105
 a72:=Tryz.isAgg105
 z72:=Tryz.sizeOf105
 v72:=Tryz.zeroValue105
 t75:=underlying107
 a75:=Tryz.isAgg107
 z75:=Tryz.sizeOf107
 v75:=Tryz.zeroValue107
 t164:=underlying226
 a164:=Tryz.isAgg226
 z164:=Tryz.sizeOf226
 v164:=Tryz.zeroValue226}
theorem bAk:Go.Proofs.Lays.n169 pG FU:={
 mixed:=by kernel_rfl
 f169:=func67.trans (congrArg some (by kernel_rfl))
 t0:=underlying0
 a0:=Tryz.isAgg0
 z0:=Tryz.sizeOf0
 v0:=Tryz.zeroValue0
 t3:=underlying3
 a3:=Tryz.isAgg3
 z3:=Tryz.sizeOf3
 v3:=Tryz.zeroValue3
 t9:=underlying9
 a9:=Tryz.isAgg9
 z9:=Tryz.sizeOf9
 v9:=Tryz.zeroValue9
 t37:=underlying48
 a37:=Tryz.isAgg48
 z37:=Tryz.sizeOf48
 v37:=Tryz.zeroValue48
 t70:=underlying103
 a70:=Tryz.isAgg103
 z70:=Tryz.sizeOf103
 v70:=Tryz.zeroValue103
 t72:=underlying105
 a72:=Tryz.isAgg105
 z72:=Tryz.sizeOf105
 v72:=Tryz.zeroValue105
 t127:=underlying158
 a127:=Tryz.isAgg158
 z127:=Tryz.sizeOf158
 v127:=Tryz.zeroValue158}
theorem bAl:Go.Proofs.Lays.n170 pG FU:={
 mixed:=by kernel_rfl
 f170:=func190.trans (congrArg some (by kernel_rfl))
 t0:=underlying0
 a0:=Tryz.isAgg0
 z0:=Tryz.sizeOf0
 v0:=Tryz.zeroValue0
 t3:=underlying3
 a3:=Tryz.isAgg3
 z3:=Tryz.sizeOf3
 v3:=Tryz.zeroValue3
 t37:=underlying48
 a37:=Tryz.isAgg48
 z37:=Tryz.sizeOf48
 v37:=Tryz.zeroValue48
 t70:=underlying103
 a70:=Tryz.isAgg103
 z70:=Tryz.sizeOf103
 v70:=Tryz.zeroValue103
 t72:=underlying105
 a72:=Tryz.isAgg105
 z72:=Tryz.sizeOf105
 v72:=Tryz.zeroValue105}
theorem UB:Builder.Extra pG FU:={
 sizeBuilder:=by kernel_rfl
 liesBuilder:=by kernel_rfl
 t5:=underlying5
 a5:=Tryz.isAgg5
 z5:=Tryz.sizeOf5
 v5:=Tryz.zeroValue5
 infoByte:=by kernel_rfl
 cellsByte:=by kernel_rfl
 sizeByte:=by kernel_rfl
 neB5:=by decide}
def Bld (w:World) (B b:Nat) (l:List UInt8):Prop:=Lib.IsBuilderF 105 5 B b (pU l) w
theorem UC (B b:Nat) (l:List UInt8) (s:ByteArray) (w:World) (h:Bld w B b l) (d:l.length+s.size<=140737488355328) (A:B<=w.heap.size):
  Calls pG 66 #[.pointer (some ⟨b,0,none⟩),.string s] w fun e w'=>e=.returned (.tuple #[.int .i64 (s.size:Int),.nilIface])/\Bld w' B b (l++s.data.toList)/\Below B w w'/\IC 5 (some b) w w':=by
 refine(Any.Builder_WriteString_k bAi UB B b (pU l) s w h (by simpa [pU] using d) A).mono ?_;rintro e w' ⟨rfl,F,G,H⟩;refine⟨rfl,.inr ?_,G,H⟩;have e:pU (l++s.data.toList)=pU l++Lib.strCells s:=by simp[pU,Lib.strCells]
 rw[e];exact F
theorem aHi (B b:Nat) (l:List UInt8) (c:UInt8) (w:World) (h:Bld w B b l) (d:l.length+1<=140737488355328) (A:B<=w.heap.size):
  Calls pG 133 #[.pointer (some ⟨b,0,none⟩),.int .u8 (c.toNat:Int)] w fun e w'=>e=.returned .nilIface/\Bld w' B b (l++[c])/\Below B w w'/\IC 5 (some b) w w':=by
 refine(Any.Builder_WriteByte_k bAj UB B b (pU l) (c.toNat:Int) w h (by simpa [pU] using d) A).mono ?_;rintro e w' ⟨rfl,F,G,H⟩;refine⟨rfl,.inr ?_,G,H⟩;have e:pU (l++[c])=pU l++[Value.int .u8 (c.toNat:Int)]:=by simp[pU]
 rw[e];exact F
theorem MP (B b:Nat) (l:List UInt8) (w:World) (h:Bld w B b l) (d:B<=w.heap.size):
  Calls pG 67 #[.pointer (some ⟨b,0,none⟩)] w fun e w'=>e=.returned (.string (mkS l))/\Bld w' B b l/\Below B w w'/\IC 5 (some b) w w':=
 Any.Builder_String_any_k bAk UB B b l w h d
theorem MQ (B b:Nat) (l:List UInt8) (w:World) (h:Bld w B b l):
  Calls pG 190 #[.pointer (some ⟨b,0,none⟩)] w fun e w'=>e=.returned (.int .i64 (l.length:Int))/\w'=w:=by
 refine(Any.Builder_Len_f bAl B b (pU l) w h).mono ?_;rintro e w' ⟨rfl,rfl⟩;refine⟨?_,rfl⟩;simp[pU]
end
end Go.Proofs.YtihbnmlinkbnkaaGreatDoor
