/-
  Texts put together (part 4): the walks and the plain laws on which the statement stands.
-/
import Derived.Deep.RegionHeld
import Derived.Laws.BitsAllLaws
import Derived.Laws.Bits64
import Derived.Test.YtfplbbphficcjaaGreatDoorZ1
set_option maxRecDepth 100000
set_option maxHeartbeats 12800000
set_option linter.unusedVariables false
set_option linter.unusedSimpArgs false
open Go.Proofs.Tryz
open Go.Proofs.Tryz renaming prog->pG
open BitVec renaming ofNat->pZ,toNat_shiftLeft->IR,toNat_ushiftRight->XF
open Bool renaming and_eq_true->DF
open Go.IntKind renaming u32->sH,wrap_u32'->aL4
open List renaming append_assoc->bU,cons_append->fF,eraseIdx_sublist->XC,ext_getElem?->lH,flatMap_cons->yR,getD_eq_getElem?_getD->bV,getElem?_eq_getElem->aN,length_append->aL,length_eq_zero_iff->nX,length_singleton->fQ,length_take->aQ,mem_append->dK,mem_cons->jQ,mem_cons_of_mem->iQ,mem_cons_self->jK,mem_flatMap->aL1,mem_iff_getElem->yN,mem_map->eK,mem_singleton->cP,nodup_append->IP,nodup_cons->XB,perm_append_comm->aLe,replicate->aX,replicate_append_replicate->bGn,replicate_succ->GX,sum_cons->xB,take_left'->rH,take_of_length_le->cD
open Nat renaming le_refl->aD,mod_eq_of_lt->jT,shiftLeft_eq->IS,shiftRight_eq_div_pow->AW
open Option renaming map_map->XJ
namespace Go.Proofs.YtfplbbphficcjaaGreatDoor
section
open Go
theorem fV {P:Program} {e:Array Oper} {Q:Exit->Act->World->Prop} {md:Region.Mode} {S:World->Prop} {i:Nat} {A:Oper} {v:Value} {G:Nat} {D:Array Bool} {a:Act} {w:World}
  (d c:Nat) (_:e.size+d-(G+1+c)=i) (H:e[i]? =some A) (F:(Region.noSelect e&&Region.free md e D i&&(Region.ready md e D).contains i)=true)
  (I:∀c a w,Q (.panic c) (a.put A.dst v) w->Q (.panic c) a w) (J:YieldsIf P e S A v a) (L:S w)
  (h:wpAnyH P md e Q S G (D.setIfInBounds i true) (a.put A.dst v) w):wpAnyH P md e Q S (G+1) D a w:=by
 rw[DF,DF] at F;exact wpAnyH_take H F.1.1 F.1.2 F.2 I J L h
theorem dJ {P:Program} {d:Array Oper} {Q:Exit->Act->World->Prop} {md:Region.Mode} {S:World->Prop} {i:Nat} {o:Oper} {D:Nat} {e:Array Bool} {a:Act} {w:World}
  (F:Region.ready md d e=[i]) (G:d[i]? =some o)
  (h:∀A:Act->World->Prop,Shut (∀a w,S w->(S w->wpAnyH P md d Q S D (e.setIfInBounds i true) a w)->A a w)->if Region.wanted o (yielded d a.tmps)=true then Oper.wp P o a w A Q else A (a.put o.dst undef) w):wpAnyH P md d Q S (D+1) e a w:=
 wpAnyH_ready F (by simp) (AllReadyH.cons G h AllReadyH.nil)
end
section
def oD (f:Nat->Int):Nat->Nat
 |0=>0
 |k+1=>if f k<f (oD f k) then k else oD f k
theorem EQ (f:Nat->Int):∀k,0<k->oD f k<k/\(∀j,j<k->f (oD f k)<=f j)/\∀j,j<oD f k->f (oD f k)<f j
 |0,h=>by omega
 |1,_=>by simp[oD]
 |k+2,_=>by
  obtain⟨d,e,A⟩:=EQ f (k+1) (by omega)
  grind [oD]
inductive HT where
 |leaf (n:Nat)
 |node (n:Nat) (l r:HT)
def HT.root:HT->Nat
 |.leaf n=>n
 |.node n _ _=>n
def HT.leaves:HT->List Nat
 |.leaf n=>[n]
 |.node _ l r=>l.leaves++r.leaves
def HT.nums:HT->List Nat
 |.leaf n=>[n]
 |.node n l r=>n::(l.nums++r.nums)
def HT.high:HT->Nat
 |.leaf _=>0
 |.node _ l r=>max l.high r.high+1
def HT.deep:Nat->HT->List (Nat×Nat)
 |d,.leaf n=>[(n,d)]
 |d,.node _ l r=>l.deep (d+1)++r.deep (d+1)
theorem HT.leaves_sub:∀(t:HT),∀x∈t.leaves,x∈t.nums
 |.leaf _,x,h=>h
 |.node _ l r,x,h=>by
  unfold HT.leaves at h;unfold HT.nums;rcases dK.1 h with h|h
  ·exact iQ _ (dK.2 (.inl (HT.leaves_sub l x h)))
  ·exact iQ _ (dK.2 (.inr (HT.leaves_sub r x h)))
theorem HT.root_mem:∀t:HT,t.root∈t.nums
 |.leaf _=>cP.2 rfl
 |.node _ _ _=>jK ..
theorem HT.leaves_nodup:∀t:HT,t.nums.Nodup->t.leaves.Nodup
 |.leaf _,h=>h
 |.node _ l r,h=>by
  unfold HT.nums at h;obtain⟨_,h⟩:=XB.1 h;obtain⟨d,e,A⟩:=IP.1 h;unfold HT.leaves;exact IP.2 ⟨HT.leaves_nodup l d,HT.leaves_nodup r e,fun a D b F=>A a (HT.leaves_sub l a D) b (HT.leaves_sub r b F)⟩
theorem HT.deep_map:∀(t:HT) (d:Nat),(t.deep d).map (·.1)=t.leaves
 |.leaf _,_=>rfl
 |.node _ l r,d=>by simp[HT.deep,HT.leaves,HT.deep_map]
theorem HT.deep_add:∀(t:HT) (d e:Nat),t.deep (d+e)=(t.deep d).map (fun p=>(p.1,p.2+e))
 |.leaf _,_,_=>rfl
 |.node _ l r,d,e=>by
  unfold HT.deep;rw[List.map_append,show d+e+1=d+1+e by omega,HT.deep_add l,HT.deep_add r]
theorem HT.deep_bd:∀(t:HT) (d:Nat),∀p∈t.deep d,d<=p.2/\p.2<=d+t.high
 |.leaf _,d,p,h=>by
  obtain rfl:=cP.1 h;exact⟨aD _,Nat.le_add_right _ _⟩
 |.node _ l r,d,p,h=>by
  unfold HT.deep at h;unfold HT.high;rcases dK.1 h with h|h
  ·have:=HT.deep_bd l _ p h;omega
  ·have:=HT.deep_bd r _ p h;omega
abbrev cE:=List (Int×HT)
def cE.least (r:cE):Nat:=oD (fun i=>(r.getD i (0,.leaf 0)).1) r.length
def cA (r:cE):(Int×HT)×cE:=(r.getD (cE.least r) (0,.leaf 0),r.eraseIdx (cE.least r))
def qV (n:Nat) (r:cE):cE:=(cA (cA r).2).2++[((cA r).1.1+(cA (cA r).2).1.1,.node n (cA r).1.2 (cA (cA r).2).1.2)]
def bS (d:List Int):Nat->cE
 |0=>d.zipIdx.map (fun p=>(p.1,.leaf p.2))
 |t+1=>qV (d.length+t) (bS d t)
theorem zK (r:cE) (h:r≠[]):(cA r).1∈r/\(cA r).2.length+1=r.length/\((cA r).1::(cA r).2).Perm r/\(∀x∈r,(cA r).1.1<=x.1):=by
 have A:0<r.length:=List.length_pos_iff.2 h;obtain⟨D,F,I⟩:=EQ (fun i=>(r.getD i (0,.leaf 0)).1) r.length A;have G:cE.least r<r.length:=D;have d:(cA r).1=r[cE.least r]:=by unfold cA;rw[bV,aN G];rfl
 refine⟨by grind,?_,?_,fun x H=>?_⟩
 ·show(r.eraseIdx (cE.least r)).length+1=_
  grind
 ·rw[d];show(r[cE.least r]::r.eraseIdx (cE.least r)).Perm r;rw[List.eraseIdx_eq_take_drop_succ];have:r=r.take (cE.least r)++r[cE.least r]::r.drop (cE.least r+1):=by simp
  conv=>rhs;rw[this]
  exact List.perm_middle.symm
 ·obtain⟨j,e,rfl⟩:=yN.1 H;have:=F j e;rw[d];simp only[bV] at this;rw[aN e] at this;have J:r[oD (fun i=>(r[i]?.getD (0,.leaf 0)).1) r.length]? =some r[cE.least r]:=by simp[cE.least,cE,cA]
  grind
theorem aS8 (n:Nat) (r:cE) (h:2<=r.length):(qV n r).length+1=r.length:=by
 have d:=(zK r (by grind)).2.1;have e:=(zK (cA r).2 (by grind)).2.1;unfold qV
 grind
theorem tS (d:List Int):∀t,t<d.length->(bS d t).length+t=d.length:=by
 intro t
 induction t with
 |zero=>intro _;unfold bS;simp
 |succ t e=>
  intro h;have:=e (by omega);have:=aS8 (d.length+t) (bS d t) (by omega);show(qV _ _).length+_=_;omega
structure mT (k n:Nat) (r:cE):Prop where
 nodup:(r.flatMap (fun p=>p.2.nums)).Nodup
 lt:∀p∈r,∀x∈p.2.nums,x<n
 leaves:∀j,j<k->∃p∈r,j∈p.2.leaves
 sorted:r.Pairwise (fun p q=>p.2.root<q.2.root)
theorem aB6 {α β:Type} {f:α->List β} {r s:List α} (h:r.Perm s):(r.flatMap f).Perm (s.flatMap f):=by
 induction h with
 |nil=>exact List.Perm.refl _
 |cons x _ d=>simp only[yR];exact d.append_left _
 |swap x y l=>simp only[yR,<-bU];exact aLe.append_right _
 |trans _ _ e A=>exact e.trans A
theorem uL (n:Nat) (r:cE) (h:2<=r.length):∃a b s,(a::b::s).Perm r/\qV n r=s++[(a.1+b.1,.node n a.2 b.2)]/\(cA r).1=a/\(cA (cA r).2).1=b/\(cA (cA r).2).2=s/\(∀x∈s,b.1<=x.1)/\a.1<=b.1:=by
 have d:=zK r (by grind);have e:=zK (cA r).2 (by grind);refine⟨_,_,_,?_,rfl,rfl,rfl,rfl,fun x A=>?_,?_⟩
 ·exact(List.Perm.cons _ e.2.2.1).trans d.2.2.1
 ·grind
 grind
theorem mT.step {k n:Nat} {r:cE} (A:mT k n r) (h:2<=r.length):mT k (n+1) (qV n r):=by
 obtain⟨a,b,s,F,H,_,_,_,_,_⟩:=uL n r h;have L:((a::b::s).flatMap (fun p=>p.2.nums)).Nodup:=(aB6 F).nodup_iff.2 A.nodup;simp only[yR] at L;have M:a∈r:=F.mem_iff.1 (by simp);have O:b∈r:=F.mem_iff.1 (by simp);have I:∀x∈s,x∈r:=fun x d=>F.mem_iff.1 (by simp[d])
 rw[H];refine⟨?_,?_,?_,?_⟩
 ·have T:(n::((a.2.nums++b.2.nums)++s.flatMap (fun p=>p.2.nums))).Perm ((s++[(a.1+b.1,HT.node n a.2 b.2)]).flatMap (fun p=>p.2.nums)):=by
   rw[List.flatMap_append,List.flatMap_singleton];show(n::((a.2.nums++b.2.nums)++_)).Perm (_++(n::(a.2.nums++b.2.nums)));rw[<-fF];exact aLe
  rw[<-T.nodup_iff,XB];refine⟨fun Z=>?_,by grind⟩;have:∃p∈r,n∈p.2.nums:=by grind
  obtain⟨p,G,D⟩:=this;have:=A.lt p G n D;omega
 ·intro p D x d;rcases dK.1 D with q|q
  ·have:=A.lt p (I p q) x d;omega
  ·obtain rfl:=cP.1 q;rcases jQ.1 d with rfl|d
   ·omega
   ·rcases dK.1 d with d|d
    ·have:=A.lt a M x d;omega
    ·have:=A.lt b O x d;omega
 ·intro j U;obtain⟨p,G,D⟩:=A.leaves j U;have:=F.mem_iff.2 G;simp only[jQ] at this;rcases this with rfl|rfl|q
  ·exact⟨_,dK.2 (.inr (cP.2 rfl)),dK.2 (.inl D)⟩
  ·exact⟨_,dK.2 (.inr (cP.2 rfl)),dK.2 (.inr D)⟩
  grind
 ·have V:s.Sublist r:=by
   obtain⟨_,_,_,h3⟩:=uL n r h;have e:s=(r.eraseIdx (cE.least r)).eraseIdx (cE.least (r.eraseIdx (cE.least r))):=by
    have:=H;unfold qV at this;have J:=congrArg (fun l=>l.take (l.length-1)) this;simp only[aL,fQ,Nat.add_sub_cancel,rH] at J;exact J.symm
   rw[e];exact(XC ..).trans (XC ..)
  rw[List.pairwise_append];refine⟨A.sorted.sublist V,List.pairwise_singleton _ _,fun p G q Y=>?_⟩;obtain rfl:=cP.1 Y;exact A.lt p (I p G) _ (HT.root_mem _)
def lZ (e:List Int) (h:List Nat):List Int:=h.foldl (fun d j=>d.set j (d.getD j 0+1)) e
theorem KZ:∀(e:List Nat) (d:List Int),(lZ d e).length=d.length
 |[],_=>rfl
 |j::e,d=>by
  show(lZ (d.set j (d.getD j 0+1)) e).length=_;rw[KZ e,List.length_set]
theorem BW:∀(e:List Nat) (d:List Int),e.Nodup->∀j,j<d.length->(lZ d e).getD j 0=d.getD j 0+if j∈e then 1 else 0
 |[],d,_,j,_=>by simp[lZ]
 |i::e,d,h,j,D=>by
  obtain⟨F,A⟩:=XB.1 h;show(lZ (d.set i (d.getD i 0+1)) e).getD j 0=_;rw[BW e _ A j (by grind)]
  grind
def tT (k:Nat) (r:cE) (d:List Int):Prop:=d.length=k/\∀p∈r,∀q∈p.2.deep 0,q.1<k/\d.getD q.1 0=(q.2:Int)
theorem HT.deep_leaf (t:HT) (d:Nat):∀q∈t.deep d,q.1∈t.leaves:=by grind [HT.deep_map]
theorem RM {r:cE} {a b:Int×HT} {s:cE} (G:(r.flatMap (fun p=>p.2.nums)).Nodup) (H:(a::b::s).Perm r):
  (a.2.leaves++b.2.leaves).Nodup/\(∀p∈s,∀x∈p.2.nums,x ∉ a.2.nums/\x ∉ b.2.nums)/\(∀x∈a.2.nums,x ∉ b.2.nums)/\a.2.nums.Nodup/\b.2.nums.Nodup/\∀p∈s,p.2.nums.Nodup:=by
 have h:((a::b::s).flatMap (fun p=>p.2.nums)).Nodup:=(aB6 H).nodup_iff.2 G;simp only[yR] at h;obtain⟨D,I,e⟩:=IP.1 h;obtain⟨F,O,J⟩:=IP.1 I;have L:∀p∈s,p.2.nums.Nodup:=fun p A=>by grind
 refine⟨?_,fun p A x d=>⟨fun q=>e x q x (dK.2 (.inr (aL1.2 ⟨p,A,d⟩))) rfl,fun q=>J x q x (aL1.2 ⟨p,A,d⟩) rfl⟩,fun x d q=>e x d x (dK.2 (.inl q)) rfl,D,F,L⟩;exact IP.2 ⟨HT.leaves_nodup _ D,HT.leaves_nodup _ F,fun x d y M=>e x (HT.leaves_sub _ x d) y (dK.2 (.inl (HT.leaves_sub _ y M)))⟩
theorem tT.step {k n:Nat} {r:cE} (V:mT k n r) (h:2<=r.length) {I:List Int} (A:tT k r I):
  tT k (qV n r) (lZ I ((cA r).1.2.leaves++(cA (cA r).2).1.2.leaves)):=by
 obtain⟨a,b,s,J,Y,Z,eb,_,_,_⟩:=uL n r h;obtain⟨L,O,_,_,_,_⟩:=RM V.nodup J;have ha:a∈r:=J.mem_iff.1 (by simp);have hb:b∈r:=J.mem_iff.1 (by simp);rw[Z,eb,Y];refine⟨by rw[KZ];exact A.1,fun p a0 q M=>?_⟩;rcases dK.1 a0 with F|F
 ·obtain⟨e,G⟩:=A.2 p (J.mem_iff.1 (by simp[F])) q M;refine⟨e,?_⟩;rw[BW _ _ L _ (by rw[A.1];exact e),aA,Int.add_zero,G];intro d;have T:=HT.leaves_sub _ _ (HT.deep_leaf _ _ q M);rcases dK.1 d with d|d
  ·exact(O p F _ T).1 (HT.leaves_sub _ _ d)
  ·exact(O p F _ T).2 (HT.leaves_sub _ _ d)
 ·obtain rfl:=cP.1 F;have U:q∈a.2.deep (0+1)++b.2.deep (0+1):=M;rw[HT.deep_add,HT.deep_add] at U;rcases dK.1 U with d|d
  ·obtain⟨D,H,rfl⟩:=eK.1 d;obtain⟨e,G⟩:=A.2 a ha D H;refine⟨e,?_⟩;show(lZ I (a.2.leaves++b.2.leaves)).getD D.1 0=_;rw[BW _ _ L _ (by rw[A.1];exact e),aB (dK.2 (.inl (HT.deep_leaf _ _ D H))),G];rfl
  ·obtain⟨D,H,rfl⟩:=eK.1 d;obtain⟨e,G⟩:=A.2 b hb D H;refine⟨e,?_⟩;show(lZ I (a.2.leaves++b.2.leaves)).getD D.1 0=_;rw[BW _ _ L _ (by rw[A.1];exact e),aB (dK.2 (.inr (HT.deep_leaf _ _ D H))),G];rfl
def HT.upOk (d:Nat->Int):HT->Prop
 |.leaf _=>True
 |.node n l r=>d l.root=(n:Int)/\d r.root=(n:Int)/\l.upOk d/\r.upOk d
def HT.inc:HT->Prop
 |.leaf _=>True
 |.node n l r=>(∀x∈l.nums,x<n)/\(∀x∈r.nums,x<n)/\l.inc/\r.inc
theorem HT.upOk_congr {f g:Nat->Int}:∀t:HT,(∀x∈t.nums,x≠t.root->f x=g x)->t.nums.Nodup->t.upOk f->t.upOk g
 |.leaf _,_,_,_=>trivial
 |.node n l r,h,A,⟨O,T,F,G⟩=>by
  unfold HT.nums at A h;obtain⟨D,H⟩:=XB.1 A;obtain⟨I,J,U⟩:=IP.1 H;have L:∀x∈l.nums,f x=g x:=fun x d=>h x (iQ _ (dK.2 (.inl d))) (fun e=>D (by rw[<-show x=n from e];exact dK.2 (.inl d)))
  have M:∀x∈r.nums,f x=g x:=fun x d=>h x (iQ _ (dK.2 (.inr d))) (fun e=>D (by rw[<-show x=n from e];exact dK.2 (.inr d)))
  exact⟨by grind [HT.root_mem],by grind [HT.root_mem],HT.upOk_congr l (fun x d _=>L x d) I F,HT.upOk_congr r (fun x d _=>M x d) J G⟩
def HUp (r:cE) (d:Nat->Int):Prop:=∀p∈r,p.2.upOk d/\p.2.inc
theorem HUp.step {k n:Nat} {r:cE} (F:mT k n r) (h:2<=r.length) {J:Nat->Int} (G:HUp r J):
  HUp (qV n r) (fun x=>if x=(cA (cA r).2).1.2.root then(n:Int) else if x=(cA r).1.2.root then(n:Int) else J x):=by
 obtain⟨a,b,s,D,T,U,V,_,_,_⟩:=uL n r h;obtain⟨_,L,H,Y,Z,h6⟩:=RM F.nodup D;have M:a∈r:=D.mem_iff.1 (by simp);have O:b∈r:=D.mem_iff.1 (by simp);rw[U,V,T];have a3:a.2.root≠b.2.root:=fun e=>H _ (HT.root_mem _) (by rw[e];exact HT.root_mem _)
 intro p a0;rcases dK.1 a0 with A|A
 ·obtain⟨k1,k2⟩:=G p (D.mem_iff.1 (by simp[A]));refine⟨HT.upOk_congr _ (fun x d _=>?_) (h6 p A) k1,k2⟩;rw[aA (fun e=>(L p A x d).2 (by rw[e];exact HT.root_mem _)),aA (fun e=>(L p A x d).1 (by rw[e];exact HT.root_mem _))]
 ·obtain rfl:=cP.1 A;obtain⟨a1,a2⟩:=G a M;obtain⟨b1,b2⟩:=G b O;refine⟨⟨?_,?_,?_,?_⟩,?_,?_,a2,b2⟩
  ·simp
  ·simp
  ·refine HT.upOk_congr _ (fun x d I=>?_) Y a1;rw[aA (fun e=>H x d (by rw[e];exact HT.root_mem _)),aA I]
  ·refine HT.upOk_congr _ (fun x d I=>?_) Z b1;rw[aA I,aA (fun e=>H _ (HT.root_mem _) (by grind))]
  ·exact fun x d=>F.lt a M x d
  ·exact fun x d=>F.lt b O x d
theorem mT.start (d:List Int):mT d.length d.length (bS d 0):=by
 have e:(bS d 0).flatMap (fun p=>p.2.nums)=List.range d.length:=by
  unfold bS;rw[List.flatMap_map];have:(fun a:Int×Nat=>(HT.leaf a.2).nums)=fun a=>[a.2]:=rfl
  simp only[this];rw[<-List.map_eq_flatMap];apply lH
  grind
 have D:∀p∈bS d 0,∃j,j<d.length/\p=(d.getD j 0,.leaf j):=fun p A=>by grind [bS]
 refine⟨by grind,fun p A x F=>?_,fun j h=>?_,?_⟩
 ·obtain⟨j,h,rfl⟩:=D p A;obtain rfl:=cP.1 F;exact h
 ·refine⟨(d.getD j 0,.leaf j),?_,cP.2 rfl⟩;unfold bS;refine eK.2 ⟨(d.getD j 0,j),yN.2 ⟨j,by simpa using h,by simp[h]⟩,rfl⟩
 ·unfold bS;rw[List.pairwise_iff_getElem];intro i j G h H;simp at G h ⊢;exact H
theorem cE.start_mem {d:List Int} {p:Int×HT} (e:p∈bS d 0):∃j,j<d.length/\p=(d.getD j 0,.leaf j):=by grind [bS]
theorem mT.all (d:List Int):∀t,t<d.length->mT d.length (d.length+t) (bS d t)
 |0,_=>mT.start d
 |t+1,h=>(mT.all d t (by omega)).step (by grind [tS,bS])
def jO (d:List Int):Nat->List Int
 |0=>aX d.length 0
 |t+1=>lZ (jO d t) ((cA (bS d t)).1.2.leaves++(cA (cA (bS d t)).2).1.2.leaves)
theorem wD (d:List Int):∀t,(jO d t).length=d.length
 |0=>by simp[jO]
 |t+1=>by simp[jO,KZ,wD]
theorem tT.all (d:List Int):∀t,t<d.length->tT d.length (bS d t) (jO d t)
 |0,_=>⟨by simp[jO],fun p e q A=>by
   obtain⟨j,D,rfl⟩:=cE.start_mem e;obtain rfl:=cP.1 A
   grind [jO,tT,bS]⟩
 |t+1,h=>(tT.all d t (by omega)).step (mT.all d t (by omega)) (by have:=tS d t (by omega);omega)
def kQ (d:List Int):Nat->Nat->Int
 |0=>fun _=>0
 |t+1=>fun x=>if x=(cA (cA (bS d t)).2).1.2.root then((d.length+t:Nat):Int) else if x=(cA (bS d t)).1.2.root then((d.length+t:Nat):Int) else kQ d t x
theorem HUp.all (d:List Int):∀t,t<d.length->HUp (bS d t) (kQ d t)
 |0,_=>fun p e=>by
   obtain⟨j,A,rfl⟩:=cE.start_mem e;exact⟨trivial,trivial⟩
 |t+1,h=>(HUp.all d t (by omega)).step (mT.all d t (by omega)) (by grind [tS,HUp,bS,kQ])
def nK (d:List Int):List Int:=jO d (d.length-1)
theorem LA (d:List Int) (h:2<=d.length):∃p,bS d (d.length-1)=[p]/\p.2.root=2*d.length-2:=by
 obtain⟨t,A⟩:∃t,d.length=t+2:=⟨d.length-2,by omega⟩;have G:=tS d (d.length-1) (by omega);obtain⟨p,e⟩:=List.length_eq_one_iff.1 (show(bS d (d.length-1)).length=1 by omega);refine⟨p,e,?_⟩;rw[A,show t+2-1=t+1 by omega] at e;have D:bS d (t+1)=qV (d.length+t) (bS d t):=rfl;obtain⟨a,b,s,_,F,_⟩:=uL (d.length+t) (bS d t) (by grind [tS,bS]);rw[D,F] at e;have:s=[]:=by
  have:=congrArg List.length e;simp at this;exact this
 rw[this] at e;simp at e;rw[<-e];show d.length+t=_;omega
def HT.wt (f:Nat->Int):HT->Int
 |.leaf n=>f n
 |.node _ l r=>l.wt f+r.wt f
def HT.kids (f:Nat->Int) (x:Int):HT->Prop
 |.leaf _=>True
 |.node _ l r=>l.wt f<=x/\r.wt f<=x
def HT.even (f:Nat->Int):HT->Prop
 |.leaf n=>1<=f n
 |.node _ l r=>l.even f/\r.even f/\l.kids f (r.wt f)/\r.kids f (l.wt f)
def oE:Nat->Int
 |0=>1
 |1=>2
 |n+2=>oE (n+1)+oE n
theorem RN:∀n,1<=oE n
 |0=>by decide
 |1=>by decide
 |n+2=>by have:=RN (n+1);have:=RN n;unfold oE;omega
theorem aS9 (n:Nat):oE n<=oE (n+1):=by
 cases n with
 |zero=>decide
 |succ n=>have:=RN n;show _<=oE (n+1)+oE n;omega
theorem aB7 {m n:Nat} (h:m<=n):oE m<=oE n:=by
 induction h with
 |refl=>exact Int.le_refl _
 |step _ d=>exact Int.le_trans d (aS9 _)
theorem HT.wt_pos {f:Nat->Int}:∀t:HT,t.even f->1<=t.wt f
 |.leaf _,h=>h
 |.node _ l r,h=>by have:=HT.wt_pos l h.1;have:=HT.wt_pos r h.2.1;unfold HT.wt;omega
theorem HT.wt_high2 {f:Nat->Int}:∀t:HT,t.even f->oE t.high<=t.wt f/\∀x,1<=x->t.kids f x->oE (t.high+1)<=t.wt f+x
 |.leaf n,h=>⟨h,fun x D _=>by
   have F:1<=f n:=h;show(2:Int)<=f n+x;omega⟩
 |.node n l r,h=>by
  obtain⟨G,e⟩:=HT.wt_high2 l h.1;obtain⟨H,A⟩:=HT.wt_high2 r h.2.1;have I:=e _ (HT.wt_pos r h.2.1) h.2.2.1;have J:=A _ (HT.wt_pos l h.1) h.2.2.2;have first:oE (max l.high r.high+1)<=l.wt f+r.wt f:=by grind
  refine⟨first,fun x _ d=>?_⟩;show oE (max l.high r.high+1)+oE (max l.high r.high)<=l.wt f+r.wt f+x;have L:l.wt f<=x:=d.1;have M:r.wt f<=x:=d.2
  grind
theorem HT.wt_high {f:Nat->Int} (t:HT) (h:t.even f):oE t.high<=t.wt f:=(HT.wt_high2 t h).1
theorem aTa {l m:List Int} (h:l.Perm m):l.sum=m.sum:=by
 induction h with
 |nil=>rfl
 |cons x _ d=>simp only[xB];omega
 |swap x y l=>simp only[xB];omega
 |trans _ _ e A=>omega
structure wE (f:Nat->Int) (r:cE):Prop where
 wt:∀p∈r,p.1=p.2.wt f
 even:∀p∈r,p.2.even f
 kids:∀p∈r,∀q∈r,p.2.kids f (q.2.wt f)
theorem HT.kids_le {f:Nat->Int} {x y:Int} (h:x<=y):∀t:HT,t.kids f x->t.kids f y
 |.leaf _,_=>trivial
 |.node _ _ _,⟨d,e⟩=>⟨by omega,by omega⟩
theorem wE.step {f:Nat->Int} {n:Nat} {r:cE} (d:wE f r) (h:2<=r.length):wE f (qV n r)/\((qV n r).map (·.1)).sum=(r.map (·.1)).sum:=by
 obtain⟨a,b,s,F,L,V,Y,Z,M,a0⟩:=uL n r h;have e:a∈r:=F.mem_iff.1 (by simp);have A:b∈r:=F.mem_iff.1 (by simp);have G:∀x∈s,x∈r:=fun x O=>F.mem_iff.1 (by simp[O])
 have wa:=d.wt a e;have T:=d.wt b A;have pa:=HT.wt_pos _ (d.even a e);have pb:=HT.wt_pos _ (d.even b A);rw[L];refine⟨⟨fun p D=>?_,fun p D=>?_,fun p D q I=>?_⟩,?_⟩
 ·rcases dK.1 D with q|q
  ·exact d.wt p (G p q)
  ·obtain rfl:=cP.1 q;show a.1+b.1=a.2.wt f+b.2.wt f;omega
 ·rcases dK.1 D with q|q
  ·exact d.even p (G p q)
  ·obtain rfl:=cP.1 q;exact⟨d.even a e,d.even b A,d.kids a e b A,d.kids b A a e⟩
 ·have a1:∀u∈r,u.2.kids f (q.2.wt f):=fun u J=>by
   rcases dK.1 I with k|k
   ·exact d.kids u J q (G q k)
   ·obtain rfl:=cP.1 k;exact HT.kids_le (show a.2.wt f<=a.2.wt f+b.2.wt f by omega) _ (d.kids u J a e)
  rcases dK.1 D with k|k
  ·grind
  ·obtain rfl:=cP.1 k;have U:b.2.wt f<=q.2.wt f:=by
    rcases dK.1 I with H|H
    ·have:=M q H;rw[<-T,<-d.wt q (G q H)];exact this
    ·obtain rfl:=cP.1 H;show _<=a.2.wt f+b.2.wt f;omega
   exact⟨by omega,U⟩
 ·have:(r.map (·.1)).sum=((a::b::s).map (·.1)).sum:=(aTa (F.map _)).symm
  grind
theorem wE.all (d:List Int) (D:∀x∈d,1<=x):∀t,t<d.length->wE (fun j=>d.getD j 0) (bS d t)/\((bS d t).map (·.1)).sum=d.sum
 |0,_=>by
  refine⟨⟨fun p e=>?_,fun p e=>?_,fun p e q _=>?_⟩,?_⟩
  ·obtain⟨j,A,rfl⟩:=cE.start_mem e;rfl
  ·obtain⟨j,A,rfl⟩:=cE.start_mem e;show 1<=d.getD j 0
   grind [aN,List.getElem_mem,bS]
  ·obtain⟨j,A,rfl⟩:=cE.start_mem e;trivial
  ·congr 1
   unfold bS;rw[List.map_map];apply lH
   grind
 |t+1,h=>by
  obtain⟨F,G⟩:=wE.all d D t (by omega);obtain⟨H,I⟩:=F.step (n:=d.length+t) (by grind [tS,bS])
  grind [bS]
theorem aTb (d:List Int) (h:2<=d.length) (O:∀x∈d,1<=x) (hs:d.sum<28657):(nK d).length=d.length/\∀x∈nK d,1<=x/\x<=20:=by
 refine⟨wD _ _,fun x T=>?_⟩;obtain⟨p,U,V⟩:=LA d h;have F:=mT.all d (d.length-1) (by omega);have I:=tT.all d (d.length-1) (by omega);obtain⟨G,Y⟩:=wE.all d O (d.length-1) (by omega);rw[U] at F I G Y;obtain⟨j,hj,rfl⟩:=yN.1 T;have Z:j<d.length:=by grind [wD,nK]
 obtain⟨A,a0,J⟩:=F.leaves j Z;obtain rfl:=cP.1 a0;rw[<-HT.deep_map A.2 0] at J;obtain⟨q,D,a1⟩:=eK.1 J;have e2:=(I.2 A (cP.2 rfl) q D).2;rw[show q.1=j from a1] at e2;have e3:(nK d)[j]=(q.2:Int):=by grind [jO,nK]
 rw[e3];have hb:=HT.deep_bd A.2 0 q D;have hw:=HT.wt_high A.2 (G.even A (cP.2 rfl));have a4:=G.wt A (cP.2 rfl);have a5:A.1=d.sum:=by grind
 have hh:A.2.high<=20:=by
  rcases Nat.lt_or_ge 20 A.2.high with k|k
  ·have:=aB7 (show 21<=A.2.high from k);have e:oE 21=28657:=by decide
   omega
  ·exact k
 refine⟨?_,by omega⟩;rcases Nat.eq_zero_or_pos q.2 with k|k
 ·exfalso
  cases H:A.2 with
  |leaf m=>
   have a6:m=2*d.length-2:=by rw[<-V,H];rfl
   obtain⟨p0,a2,L⟩:=F.leaves 0 (by omega);obtain⟨p2,a3,M⟩:=F.leaves 1 (by omega);obtain rfl:=cP.1 a2;obtain rfl:=cP.1 a3;rw[H] at L M;have:=cP.1 L;have:=cP.1 M;omega
  |node m l r=>
   rw[H] at D;rcases dK.1 D with D|D
   ·have:=HT.deep_bd l _ q D;omega
   ·have:=HT.deep_bd r _ q D;omega
 ·omega
def wH (x:BitVec 32):BitVec 32:=if x.msb then(x<<<1)^^^79764919#32 else x<<<1
def wI (x:BitVec 32) (b:Bool):BitVec 32:=if x.msb != b then(x<<<1)^^^79764919#32 else x<<<1
def mB:Nat->BitVec 32->BitVec 32
 |0,x=>x
 |k+1,x=>wH (mB k x)
theorem aCd (x y:BitVec 32):wH (x^^^y)=wH x^^^wH y:=by grind [wH]
theorem RQ (k:Nat) (x y:BitVec 32):mB k (x^^^y)=mB k x^^^mB k y:=by
 induction k with
 |zero=>rfl
 |succ k d=>unfold mB;rw[d,aCd]
def nL (i:Nat):BitVec 32:=mB 8 (pZ 32 i<<<24)
def rP (x:BitVec 32) (b:Nat):Nat->BitVec 32
 |0=>x
 |k+1=>wI (rP x b k) (b.testBit (7-k))
theorem aTe:∀b:Fin 256,∀k:Fin 8,wI (0#32) (b.val.testBit (7-k.val))^^^(pZ 32 b.val<<<(24+k.val+1))=wH (pZ 32 b.val<<<(24+k.val)):=by decide+kernel
theorem aTf (x:BitVec 32) (b:Bool):wI x b=wH x^^^wI (0#32) b:=by grind [wI,wH]
theorem aTg (x:BitVec 32) (b:Nat) (d:b<256):∀k,k<=8->rP x b k^^^(pZ 32 b<<<(24+k))=mB k (x^^^(pZ 32 b<<<24)):=by
 intro k
 induction k with
 |zero=>intro _;rfl
 |succ k e=>
  intro A;have h:=e (by omega);unfold mB rP;rw[<-h,aCd,aTf,BitVec.xor_assoc]
  congr 1
  exact aTe ⟨b,d⟩ ⟨k,by omega⟩
theorem aTh:∀b:Fin 256,pZ 32 b.val<<<32=0#32:=by decide+kernel
theorem aTi (x:BitVec 32) (b:Nat) (d:b<256):rP x b 8=mB 8 (x^^^(pZ 32 b<<<24)):=by grind [aTg,aTh,rP,mB]
theorem aTj:∀k (x:BitVec 32),x.toNat*2^k<4294967296->(mB k x).toNat=x.toNat*2^k:=by
 intro k
 induction k with
 |zero=>intro x _;simp[mB]
 |succ k d=>
  intro x e;rw[Nat.pow_succ,<-Nat.mul_assoc] at e ⊢;have h:=d x (by omega);unfold mB wH;have A:(mB k x).msb=false:=by grind
  rw[A,aA (by decide),IR,h,IS];rw[jT (by simp;omega)]
theorem aTk (x:BitVec 32):x=(x&&&0xffffff#32)^^^((x>>>24)<<<24):=by
 apply BitVec.eq_of_getLsbD_eq;intro i d;simp only[BitVec.getLsbD_xor,BitVec.getLsbD_and,BitVec.getLsbD_shiftLeft,BitVec.getLsbD_ushiftRight]
 by_cases h:i<24
 ·have:(0xffffff#32).getLsbD i=true:=by
   rcases(show ∃j:Fin 24,j.val=i from⟨⟨i,h⟩,rfl⟩) with⟨j,rfl⟩;exact(by decide+kernel:∀j:Fin 24,(0xffffff#32).getLsbD j.val=true) j
  simp[h,this]
 ·have:(0xffffff#32).getLsbD i=false:=by
   rcases(show ∃j:Fin 8,j.val+24=i from⟨⟨i-24,by omega⟩,by simp;omega⟩) with⟨j,rfl⟩;exact(by decide+kernel:∀j:Fin 8,(0xffffff#32).getLsbD (j.val+24)=false) j
  grind
theorem aTl (c:BitVec 32) (b:Nat) (e:b<256):rP c b 8=(c<<<8)^^^nL ((c>>>24).toNat^^^b):=by
 rw[aTi c b e];have h:=aTk c;have A:mB 8 (c&&&0xffffff#32)=c<<<8:=by
  apply BitVec.eq_of_toNat_eq;have d:(c&&&0xffffff#32).toNat=c.toNat%16777216:=by
   rw[BitVec.toNat_and];exact Nat.and_two_pow_sub_one_eq_mod c.toNat 24
  rw[aTj 8 _ (by rw[d];omega),d,IR,IS];omega
 grind [pZ,BitVec.eq_of_toNat_eq,XF,AW,Nat.xor_lt_two_pow,BitVec.toNat_ofNat,BitVec.toNat_xor,jT,nL,BitVec.shiftLeft_xor_distrib,RQ,BitVec.xor_assoc,rP]
def nM (c:BitVec 32) (s:List UInt8):BitVec 32:=s.foldl (fun c b=>rP c b.toNat 8) c
def cH (s:List UInt8):BitVec 32:= ~~~ nM (0xffffffff#32) s
theorem aTm (c:BitVec 32) (s:List UInt8) (b:UInt8):nM c (s++[b])=rP (nM c s) b.toNat 8:=by simp[nM,rP]
def mG (c:UInt8):Nat->List UInt8->Nat
 |0,_=>0
 |_+1,[]=>0
 |n+1,b::s=>if b=c then mG c n s+1 else 0
theorem aCe (c:UInt8):∀n s,mG c n s<=n/\mG c n s<=s.length
 |0,_=>by simp[mG]
 |n+1,[]=>by simp[mG]
 |n+1,b::s=>by
  have:=aCe c n s
  grind [mG]
theorem aCf (c:UInt8):∀n s k,k<mG c n s->s[k]? =some c
 |0,_,k,h=>by simp[mG] at h
 |n+1,[],k,h=>by simp[mG] at h
 |n+1,b::s,k,h=>by
  unfold mG at h;split at h
  ·next e=>
   cases k with
   |zero=>simp[e]
   |succ k=>simpa using aCf c n s k (by omega)
  ·omega
theorem aCg (c:UInt8):∀n s,mG c n s<n->s[mG c n s]?≠some c
 |0,_,h=>by omega
 |n+1,[],h=>by simp[mG]
 |n+1,b::s,h=>by
  unfold mG at h ⊢;split
  ·next e=>
   rw[aB e] at h
   simpa using aCg c n s (by omega)
  grind
theorem aCh (c:UInt8):∀n s k,k<=n->(∀j,j<k->s[j]? =some c)->(k=n\/s[k]?≠some c)->mG c n s=k
 |0,_,k,h,_,_=>by simp[mG];omega
 |n+1,[],k,h,e,d=>by
  cases k with
  |zero=>rfl
  |succ k=>have:=e 0 (by omega);simp at this
 |n+1,b::s,k,h,e,d=>by
  unfold mG
  cases k with
  |zero=>
   rw[aA];rintro rfl;rcases d with d|d
   ·omega
   ·simp at d
  |succ k=>
   have A:=e 0 (by omega);rw[aB (by simpa using A),aCh c n s k (by omega) (fun j D=>by grind)];rcases d with d|d
   ·grind
   ·grind
def bF (s:List UInt8):Nat:=match s with
 |[]=>0
 |c::r=>mG c 255 (c::r)
theorem mH (s:List UInt8) (h:s≠[]):1<=bF s/\bF s<=255/\bF s<=s.length:=by
 cases s with
 |nil=>exact absurd rfl h
 |cons c r=>
  have:=aCe c 255 (c::r);refine⟨?_,this.1,this.2⟩;show 1<=mG c 255 (c::r);unfold mG;rw[aB rfl];omega
def pP (s:List UInt8) (n:Nat):List UInt8:=s.take (min n 4)++if 4<=n then[UInt8.ofNat (n-4)] else[]
def xP:Nat->List UInt8->List UInt8
 |0,_=>[]
 |_+1,[]=>[]
 |f+1,c::r=>pP (c::r) (bF (c::r))++xP f ((c::r).drop (bF (c::r)))
theorem aCi:∀f g s,s.length<=f->s.length<=g->xP f s=xP g s
 |0,g,s,d,e=>by
  have:s=[]:=nX.1 (by omega);subst this
  cases g<;>rfl
 |f+1,0,s,d,e=>by grind [xP]
 |f+1,g+1,[],_,_=>rfl
 |f+1,g+1,c::r,d,e=>by
  unfold xP;have:=mH (c::r) (by simp);rw[aCi f g _ (by grind) (by grind)]
def bT (s:List UInt8):List UInt8:=xP s.length s
theorem LD:bT []=[]:=rfl
theorem CB (s:List UInt8) (h:s≠[]):bT s=pP s (bF s)++bT (s.drop (bF s)):=by
 cases s with
 |nil=>exact absurd rfl h
 |cons c r=>
  have:=mH (c::r) h;show xP (r.length+1) (c::r)=_;unfold xP bT;rw[aCi r.length ((c::r).drop (bF (c::r))).length _ (by grind) (aD _)]
theorem RR (s:List UInt8) (n:Nat) (h:n<=s.length):(pP s n).length=if n<4 then n else 5:=by grind [pP]
theorem aTn {s:List UInt8} {out:List UInt8} (h:s≠[]) {d:List UInt8} (e:out++bT s=d):(out++pP s (bF s))++bT (s.drop (bF s))=d:=by grind [CB,bT,pP,bF]
def unS:Nat->UInt8->List UInt8->Option (List UInt8)
 |r,_,[]=>if r=4 then none else some []
 |r,c,b::s=>if r=4 then(unS 0 c s).map (aX b.toNat c++·)
  else if 0<r/\b=c then(unS (r+1) c s).map (b::·)
  else(unS 1 b s).map (b::·)
def eX (s:List UInt8):Option (List UInt8):=unS 0 0 s
theorem aTo (c d:UInt8):∀s,unS 0 c s=unS 0 d s
 |[]=>rfl
 |b::s=>by simp[unS]
theorem aTp {r:Nat} {c:UInt8} {s:List UInt8} (d:r<4) (h:∀b,s.head? =some b->b≠c):unS r c s=unS 0 0 s:=by
 cases s with
 |nil=>unfold unS;rw[aA (by omega),aA (by decide)]
 |cons b s=>
  have:=h b rfl;unfold unS;rw[aA (by omega),aA (by grind),aA (by decide),aA (by simp)]
theorem RS (c:UInt8):∀(n r:Nat) (s:List UInt8),0<r->r+n<=4->unS r c (aX n c++s)=(unS (r+n) c s).map (aX n c++·)
 |0,r,s,_,_=>by simp
 |n+1,r,s,d,e=>by
  rw[GX,fF]
  conv=>lhs;unfold unS
  rw[aA (by omega),aB ⟨d,rfl⟩,RS c n (r+1) s (by omega) (by omega),XJ,show r+1+n=r+(n+1) by omega];rfl
theorem aCj {c:UInt8} {n:Nat} {s:List UInt8} (d:1<=n) (e:n<4) (h:∀b,s.head? =some b->b≠c):eX (aX n c++s)=(eX s).map (aX n c++·):=by
 obtain⟨k,rfl⟩:∃k,n=k+1:=⟨n-1,by omega⟩;unfold eX;rw[GX,fF]
 conv=>lhs;unfold unS
 rw[aA (by decide),aA (by simp),RS c k 1 s (by decide) (by omega),aTp (r:=1+k) (by omega) h,XJ];rfl
theorem RT (c:UInt8) (s:List UInt8):eX (aX 4 c++s)=match s with
  |[]=>none
  |b::r=>(eX r).map (aX 4 c++aX b.toNat c++·):=by
 unfold eX;rw[show aX 4 c=c::aX 3 c from rfl,fF]
 conv=>lhs;unfold unS
 rw[aA (by decide),aA (by simp),RS c 3 1 s (by decide) (by decide),XJ]
 cases s with
 |nil=>unfold unS;rfl
 |cons b r=>
  show Option.map _ (unS 4 c (b::r))=_
  conv=>lhs;unfold unS
  rw[aB rfl,XJ,aTo c 0]
  congr 1
theorem RU {s:List UInt8} {c:UInt8} (h:s.head? =some c):s.take (bF s)=aX (bF s) c/\(bF s<255->(s.drop (bF s)).head?≠some c):=by
 cases s with
 |nil=>simp at h
 |cons d r=>
  obtain rfl:d=c:=by simpa using h
  have e:=(mH (d::r) (by simp)).2.2;have A:=aCf d 255 (d::r);constructor
  ·apply lH
   grind [bF]
  ·grind [List.head?_drop,aCg,bF]
theorem aTq {s:List UInt8} (h:s≠[]):(bT s).head? =s.head? :=by
 rw[CB s h];have e:=mH s h
 cases s with
 |nil=>exact absurd rfl h
 |cons c r=>
  unfold pP;obtain⟨k,d⟩:∃k,min (bF (c::r)) 4=k+1:=⟨min (bF (c::r)) 4-1,by omega⟩;rw[d,List.take_succ_cons];rfl
theorem aCk:∀(n:Nat) (s:List UInt8),s.length<=n->eX (bT s)=some s
 |0,s,h=>by
  have:s=[]:=nX.1 (by omega);subst this;rfl
 |n+1,s,h=>by
  cases d:s with
  |nil=>rfl
  |cons c r=>
   rw[<-d];have A:s≠[]:=by rw[d];simp
   have I:=mH s A;obtain⟨D,J⟩:=RU (s:=s) (c:=c) (by rw[d];rfl);have F:=aCk n (s.drop (bF s)) (by grind);have G:aX (bF s) c++s.drop (bF s)=s:=by rw[<-D,List.take_append_drop]
   rw[CB s A];unfold pP
   by_cases H:4<=bF s
   ·rw[aB H,show min (bF s) 4=4 by omega];have e:s.take 4=aX 4 c:=by grind
    rw[e,bU,RT];simp only[List.singleton_append];rw[F,Option.map_some,UInt8.toNat_ofNat',jT (by omega),bGn,show 4+(bF s-4)=bF s by omega,G]
   ·grind [bF,aCj,LD,aTq,eX,bT]
theorem uM:∀(n:Nat) (s:List UInt8),s.length<=n->(bT s).length<=2*s.length/\(s≠[]->bT s≠[])/\s.length<=52*(bT s).length
 |0,s,h=>by
  have:s=[]:=nX.1 (by omega);subst this;exact⟨by simp[LD],fun q=>absurd rfl q,by simp⟩
 |n+1,s,h=>by
  by_cases d:s=[]
  ·grind [LD,bT]
  ·have e:=mH s d;obtain⟨A,_,D⟩:=uM n (s.drop (bF s)) (by grind)
   grind [CB,RR,bT]
theorem aUx (d:List UInt8):eX d=(unS 0 0 d).map ([]++·):=by simp[eX,unS]
theorem EU {o m:List UInt8} (x:Option (List UInt8)):(x.map (m++·)).map (o++·)=x.map ((o++m)++·):=by
 cases x with
 |none=>rfl
 |some y=>simp
theorem aUy {d o s:List UInt8} {c b:UInt8} (h:eX d=(unS 4 c (b::s)).map (o++·)):eX d=(unS 0 c s).map ((o++aX b.toNat c)++·):=by grind [unS,EU,eX]
theorem aUz {d o s:List UInt8} {r:Nat} {c:UInt8} (h:eX d=(unS r c (c::s)).map (o++·)) (e:0<r) (A:r≠4):eX d=(unS (r+1) c s).map ((o++[c])++·):=by
 rw[h]
 conv=>lhs;unfold unS
 rw[aA A,aB ⟨e,rfl⟩];exact EU (m:=[c]) _
theorem aDg {d o s:List UInt8} {r:Nat} {c b:UInt8} (h:eX d=(unS r c (b::s)).map (o++·)) (e:r≠4) (A:¬(0<r/\b=c)):eX d=(unS 1 b s).map ((o++[b])++·):=by
 rw[h]
 conv=>lhs;unfold unS
 rw[aA e,aA A];exact EU (m:=[b]) _
theorem aU0 {d o:List UInt8} {r:Nat} {c:UInt8} (h:eX d=(unS r c []).map (o++·)):eX d=if r=4 then none else some o:=by grind [unS,eX]
theorem LN {α:Type} (o l:List α) (k:Nat):(o.take k++l).take k=(o++l).take k:=by grind [Nat.le_total,aQ,Nat.min_self,cD]
def jX (p:List UInt8) (most:Int):List UInt8×Int:=match eX p with
 |none=>([],3)
 |some o=>if most<(o.length:Int) then([],4) else(o,0)
theorem aDh {p:List UInt8} {most:Int} (h:eX p=none):jX p most=([],3):=by unfold jX;rw[h]
theorem SJ {p o:List UInt8} {most:Int} (h:eX p=some o):jX p most=if most<(o.length:Int) then([],4) else(o,0):=by unfold jX;rw[h]
theorem aU1:∀(s:List UInt8) (r:Nat) (c:UInt8) (o:List UInt8),unS r c s=some o->s≠[]->r≠4->o≠[]
 |[],_,_,_,_,h,_=>absurd rfl h
 |b::s,r,c,o,h,_,d=>by
  unfold unS at h;rw[aA d] at h;split at h
  ·cases q:unS (r+1) c s with
   |none=>rw[q] at h;simp at h
   |some y=>rw[q] at h;simp at h;rw[<-h];simp
  ·cases q:unS 1 b s with
   |none=>rw[q] at h;simp at h
   |some y=>rw[q] at h;simp at h;rw[<-h];simp
theorem aU2 {p:List UInt8} {most:Int} (d:p≠[]) (h:(jX p most).2=0):(jX p most).1≠[]/\((jX p most).1.length:Int)<=most:=by grind [jX,eX,aU1]
theorem zL {s:List UInt8} {k:Nat} (e:k<=255) (d:k<=s.length) (D:∀j,j<k->s[j]? =s[0]?) (A:k=255\/k=s.length\/s[k]?≠s[0]?):bF s=k:=by
 cases s with
 |nil=>simp at d;subst d;rfl
 |cons c r=>
  show mG c 255 (c::r)=k;refine aCh c 255 _ k e (fun j F=>by grind) ?_;rcases A with h|h|h
  ·exact .inl h
  ·grind
  ·grind
theorem SK {r:List UInt8} {c:UInt8} {n:Nat} (h:∀j,j<n->r[j]? =some c):r=aX n c++r.drop n:=by
 apply lH
 grind
theorem aU5 {d o r:List UInt8} {c:UInt8} {n:Nat} (h:eX d=(eX r).map (o++·)) (e:∀j,j<n->r[j]? =some c) (A:1<=n) (D:n<4) (H:n=r.length\/r[n]?≠some c):
  eX d=(eX (r.drop n)).map ((o++r.take n)++·):=by
 have F:=SK e;have G:r.take n=aX n c:=by grind
 rw[G]
 conv at h=>rhs;rw[F]
 rw[aCj A D (fun b I=>by grind [List.drop_eq_nil_of_le,List.head?_drop,eX])] at h;rw[h,EU]
theorem aU6 {d o r:List UInt8} {c:UInt8} (h:eX d=(eX r).map (o++·)) (A:r.length=4) (e:∀j,j<4->r[j]? =some c):eX d=none:=by
 have D:=SK e
 grind [RT,eX]
theorem aU7 {d o r:List UInt8} {c b:UInt8} (h:eX d=(eX r).map (o++·)) (e:∀j,j<4->r[j]? =some c) (A:r[4]? =some b):eX d=(eX (r.drop 5)).map ((o++r.take 4++aX b.toNat c)++·):=by
 have D:=SK e
 grind [aX,rH,List.getElem?_eq_some_iff,List.drop_eq_getElem_cons,RT,EU,bU,eX]
theorem aU3 {α:Type} {X Y:List α} {c:α} {k n M:Nat} (d:k<=n) (h:Y=(X++aX k c).take (M+1)) (A:M<Y.length):(X++aX n c).take (M+1)=Y:=by
 have D:M+1<=(X++aX k c).length:=by grind
 have e:aX n c=aX k c++aX (n-k) c:=by grind [bGn]
 grind
theorem aU4 {α:Type} {X Y:List α} {c:α} {k M:Nat} (d:Y=(X++aX k c).take (M+1)) (e:Y.length<=M):Y++[c]=(X++aX (k+1) c).take (M+1):=by grind [aX,aQ,cD,List.replicate_succ',bU,aL,fQ]
end
section
open Go.RowKit Go
theorem CG (a b:BitVec 32):bits .xor .u32 (a.toNat:Int) (b.toNat:Int)=((a^^^b).toNat:Int):=by
 rw[u32_xor_nat _ _ a.isLt b.isLt,BitVec.toNat_xor]
theorem SZ (a:BitVec 32):sH.wrap ((a.toNat:Int)*2)=((a<<<1).toNat:Int):=by
 rw[aL4,IR,IS];omega
theorem aWk (a:BitVec 32):sH.wrap ((a.toNat:Int)*256)=((a<<<8).toNat:Int):=by
 rw[aL4,IR,IS];omega
theorem aWl (a:Nat) (_h:a<256):sH.wrap ((a:Int)*16777216)=((pZ 32 a<<<24).toNat:Int):=by
 rw[aL4,IR,IS,BitVec.toNat_ofNat];omega
theorem aWm (a:BitVec 32):(a.toNat:Int)/16777216=((a>>>24).toNat:Int):=by
 rw[XF,AW];omega
theorem aEl (a:BitVec 32):(a.toNat:Int)/2147483648=(a.msb.toNat:Int):=by
 rw[BitVec.msb_eq_decide];have:=a.isLt
 by_cases h:2^(32-1)<=a.toNat
 ·grind
 grind
theorem aWn (a:BitVec 32):bits .and .u32 (a.toNat:Int) 2147483648=if a.msb then 2147483648 else 0:=by
 rw[show(2147483648:Int)=((2147483648:Nat):Int) from rfl,u32_and_nat _ _ a.isLt (by decide),show(2147483648:Nat)=2^31 from rfl,Go.nat_bit 31 a.toNat]
 grind [aEl]
end
section
theorem aFr:∀(n:Nat) (l:List Nat),l.Nodup->(∀x∈l,x<n)->l.length<=n
 |0,l,_,h=>by
  cases l with
  |nil=>simp
  |cons x l=>have:=h x (jK ..);omega
 |n+1,l,d,h=>by
  have e:=aFr n (l.erase n) (d.erase n) (fun x A=>by grind)
  grind
theorem aFs (d:List Int) (t:Nat) (h:t<d.length) {p:Int×HT} (A:p∈bS d t):∀x∈p.2.leaves,x<d.length:=fun x e=>by
 rw[<-HT.deep_map p.2 0] at e;obtain⟨q,D,rfl⟩:=eK.1 e;exact((tT.all d t h).2 p A q D).1
def oY (d:List Int) (t:Nat):List Nat:=(cA (bS d t)).1.2.leaves++(cA (cA (bS d t)).2).1.2.leaves
theorem TH (d:List Int) (t:Nat) (J:t+1<d.length):(oY d t).Nodup/\(∀x∈oY d t,x<d.length)/\(oY d t).length<=d.length:=by
 have L:=tS d t (by omega);obtain⟨a,b,s,h,M,F,G,_,_,_⟩:=uL (d.length+t) (bS d t) (by omega);obtain⟨A,_⟩:=RM (mT.all d t (by omega)).nodup h;have H:a∈bS d t:=h.mem_iff.1 (by simp);have I:b∈bS d t:=h.mem_iff.1 (by simp);unfold oY;rw[F,G];have D:∀x∈a.2.leaves++b.2.leaves,x<d.length:=fun x e=>by
  rcases dK.1 e with e|e
  ·exact aFs d t (by omega) H x e
  ·exact aFs d t (by omega) I x e
 exact⟨A,D,aFr _ _ A D⟩
theorem aFt (d:List Int) (t:Nat):jO d (t+1)=lZ (jO d t) (oY d t):=rfl
theorem aFu (d:List Int):∀t,t<d.length->∀j,j<d.length->0<=(jO d t).getD j 0/\(jO d t).getD j 0<=(t:Int)
 |0,_,j,e=>by simp[jO,e]
 |t+1,h,j,e=>by
  have A:=aFu d t (by omega) j e
  grind [wD,aFt,BW,TH,jO]
theorem aX3 (d:List Int) (e:List Nat) (y:Nat):lZ d (e++[y])=(lZ d e).set y ((lZ d e).getD y 0+1):=by simp[lZ]
theorem aX4 (e:List Int) (t:Nat) (A:t+1<e.length) {j y:Nat} (D:(oY e t)[j]? =some y):y<e.length/\∃d:Int,(lZ (jO e t) ((oY e t).take j))[y]? =some d/\0<=d/\d<=1000+(e.length:Int)/\
  lZ (jO e t) ((oY e t).take (j+1))=(lZ (jO e t) ((oY e t).take j)).set y (d+1):=by
 obtain⟨F,G,H⟩:=TH e t A;have h:=G y (List.mem_of_getElem? D);have I:(lZ (jO e t) ((oY e t).take j)).length=e.length:=by rw[KZ,wD]
 have J:=BW ((oY e t).take j) (jO e t) (F.sublist (List.take_sublist _ _)) y (by rw[wD];exact h);have L:=aFu e t (by omega) y h
 grind [lZ,jO,oY,aN,List.take_add_one,Option.toList_some,aX3]
end
end Go.Proofs.YtfplbbphficcjaaGreatDoor
