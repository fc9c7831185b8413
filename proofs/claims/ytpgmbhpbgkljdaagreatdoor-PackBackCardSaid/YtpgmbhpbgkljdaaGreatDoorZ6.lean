/-
  Texts put together (part 6): the walks and the plain laws on which the statement stands.
-/
import Derived.Test.YtpgmbhpbgkljdaaGreatDoorZ5
set_option maxRecDepth 100000
set_option maxHeartbeats 12800000
open Go.IntKind renaming i64->aI,wrap_i64->aM
open Go.Lib renaming OthersKept->GY,byteCells->nS
open Go.RowKit.Below renaming refl->aB
open Int renaming le_refl->lJ,toNat_natCast->eG
open List renaming append_assoc->cF,append_nil->eE,cons_append->gE,eraseIdx_sublist->NY,ext_getElem?->jA,flatMap_append->pZ,flatMap_cons->sH,getD_eq_getElem?_getD->aV,getElem?_eq_getElem->aN,getElem_cons_drop->NM,getElem_mem->gT,length->tM,length_append->aL,length_cons->cR,length_drop->cI,length_eq_zero_iff->mV,length_pos_iff->kV,length_set->mW,length_singleton->fK,length_take->aX,map_append->fI,mem_append->cU,mem_cons->kD,mem_cons_of_mem->jD,mem_cons_self->lY,mem_flatMap->NW,mem_iff_getElem->qA,mem_map->dU,mem_singleton->dC,nodup_append->vM,nodup_cons->NX,pairwise_iff_getElem->xO,perm_append_comm->NR,replicate->bB,replicate_append_replicate->aTh,replicate_succ->AE,sum_cons->pV,take_add_one->cQ,take_append_drop->jE,take_append_of_le_length->GO,take_of_length_le->cS,take_take->AG
open List.Perm renaming cons->GK,refl->xP
open Nat renaming le_refl->aA,lt_or_ge->bT,lt_trans->AX,min_eq_left->gU,zero_le->aU
open Option renaming map_map->OH,map_some->xW
open UInt8 renaming ofNat->eK,toNat_ofNat'->nP
namespace Go.Proofs.YtpgmbhpbgkljdaaGreatDoor
section
def iV (f:Nat->Int):Nat->Nat
 |0=>0
 |k+1=>if f k<f (iV f k) then k else iV f k
theorem yN (f:Nat->Int):∀k,0<k->iV f k<k/\(∀j,j<k->f (iV f k)<=f j)/\∀j,j<iV f k->f (iV f k)<f j
 |0,h=>by omega
 |1,_=>by
  have e:iV f 1=0:=by unfold iV;split<;>rfl
  rw[e];refine⟨by omega,fun j hj=>?_,fun j hj=>by omega⟩;rw[show j=0 by omega];exact lJ _
 |k+2,_=>by
  obtain⟨h1,h2,h3⟩:=yN f (k+1) (by omega);have e:iV f (k+2)=if f (k+1)<f (iV f (k+1)) then k+1 else iV f (k+1):=rfl;rw[e]
  by_cases h:f (k+1)<f (iV f (k+1))
  ·rw[if_pos h];refine⟨by omega,fun j hj=>?_,fun j hj=>?_⟩
   ·by_cases hj2:j=k+1
    ·rw[hj2];exact lJ _
    ·have:=h2 j (by omega);omega
   ·have:=h2 j (by omega);omega
  ·rw[if_neg h];refine⟨by omega,fun j hj=>?_,h3⟩
   by_cases hj2:j=k+1
   ·rw[hj2];omega
   ·exact h2 j (by omega)
inductive HT where
 |leaf (n:Nat)
 |node (n:Nat) (l r:HT)
def HT.root:HT->Nat
 |.leaf n=>n
 |.node n _ _=>n
def HT.leaves:HT->List Nat
 |.leaf n=>[n]
 |.node _ l r=>l.leaves++r.leaves
def HT.nums:HT->List Nat
 |.leaf n=>[n]
 |.node n l r=>n::(l.nums++r.nums)
def HT.high:HT->Nat
 |.leaf _=>0
 |.node _ l r=>max l.high r.high+1
def HT.deep:Nat->HT->List (Nat×Nat)
 |d,.leaf n=>[(n,d)]
 |d,.node _ l r=>l.deep (d+1)++r.deep (d+1)
theorem HT.leaves_sub:∀(t:HT),∀x∈t.leaves,x∈t.nums
 |.leaf _,x,h=>h
 |.node _ l r,x,h=>by
  unfold HT.leaves at h;unfold HT.nums;rcases cU.1 h with h|h
  ·exact jD _ (cU.2 (.inl (HT.leaves_sub l x h)))
  ·exact jD _ (cU.2 (.inr (HT.leaves_sub r x h)))
theorem HT.root_mem:∀t:HT,t.root∈t.nums
 |.leaf _=>dC.2 rfl
 |.node _ _ _=>lY ..
theorem HT.leaves_nodup:∀t:HT,t.nums.Nodup->t.leaves.Nodup
 |.leaf _,h=>h
 |.node _ l r,h=>by
  unfold HT.nums at h;obtain⟨_,h⟩:=NX.1 h;obtain⟨h1,h2,h3⟩:=vM.1 h;unfold HT.leaves;exact vM.2 ⟨HT.leaves_nodup l h1,HT.leaves_nodup r h2,fun a ha b hb=>h3 a (HT.leaves_sub l a ha) b (HT.leaves_sub r b hb)⟩
theorem HT.deep_map:∀(t:HT) (d:Nat),(t.deep d).map (·.1)=t.leaves
 |.leaf _,_=>rfl
 |.node _ l r,d=>by unfold HT.deep HT.leaves;rw[fI,HT.deep_map l,HT.deep_map r]
theorem HT.deep_add:∀(t:HT) (d e:Nat),t.deep (d+e)=(t.deep d).map (fun p=>(p.1,p.2+e))
 |.leaf _,_,_=>rfl
 |.node _ l r,d,e=>by
  unfold HT.deep;rw[fI,show d+e+1=d+1+e by omega,HT.deep_add l,HT.deep_add r]
theorem HT.deep_bd:∀(t:HT) (d:Nat),∀p∈t.deep d,d<=p.2/\p.2<=d+t.high
 |.leaf _,d,p,h=>by
  obtain rfl:=dC.1 h;exact⟨aA _,Nat.le_add_right _ _⟩
 |.node _ l r,d,p,h=>by
  unfold HT.deep at h;unfold HT.high;rcases cU.1 h with h|h
  ·have:=HT.deep_bd l _ p h;omega
  ·have:=HT.deep_bd r _ p h;omega
abbrev bQ:=List (Int×HT)
def bQ.least (r:bQ):Nat:=iV (fun i=>(r.getD i (0,.leaf 0)).1) r.length
def bM (r:bQ):(Int×HT)×bQ:=(r.getD (bQ.least r) (0,.leaf 0),r.eraseIdx (bQ.least r))
def nH (n:Nat) (r:bQ):bQ:=(bM (bM r).2).2++[((bM r).1.1+(bM (bM r).2).1.1,.node n (bM r).1.2 (bM (bM r).2).1.2)]
def bP (ws:List Int):Nat->bQ
 |0=>ws.zipIdx.map (fun p=>(p.1,.leaf p.2))
 |t+1=>nH (ws.length+t) (bP ws t)
theorem uO (r:bQ) (h:r≠[]):(bM r).1∈r/\(bM r).2.length+1=r.length/\((bM r).1::(bM r).2).Perm r/\(∀x∈r,(bM r).1.1<=x.1):=by
 have hl:0<r.length:=kV.2 h;obtain⟨h1,h2,h3⟩:=yN (fun i=>(r.getD i (0,.leaf 0)).1) r.length hl;have hi:bQ.least r<r.length:=h1;have e1:(bM r).1=r[bQ.least r]:=by unfold bM;rw[aV,aN hi];rfl
 refine⟨by rw[e1];exact gT hi,?_,?_,fun x hx=>?_⟩
 ·show(r.eraseIdx (bQ.least r)).length+1=_;rw[List.length_eraseIdx,if_pos hi];omega
 ·rw[e1];show(r[bQ.least r]::r.eraseIdx (bQ.least r)).Perm r;rw[List.eraseIdx_eq_take_drop_succ];have:r=r.take (bQ.least r)++r[bQ.least r]::r.drop (bQ.least r+1):=by rw[NM,jE]
  conv=>rhs;rw[this]
  exact List.perm_middle.symm
 ·obtain⟨j,hj,rfl⟩:=qA.1 hx;have:=h2 j hj;rw[e1];simp only[aV] at this;rw[aN hj] at this;have e2:r[iV (fun i=>(r[i]?.getD (0,.leaf 0)).1) r.length]? =some r[bQ.least r]:=by
   rw[<-aN hi];unfold bQ.least;simp only[aV]
  rw[e2] at this;exact this
theorem aGd (n:Nat) (r:bQ) (h:2<=r.length):(nH n r).length+1=r.length:=by
 have h1:=(uO r (by intro e;rw[e] at h;simp at h)).2.1;have h2:=(uO (bM r).2 (by intro e;rw[e] at h1;simp at h1;omega)).2.1;unfold nH;rw[aL,fK];omega
theorem pR (ws:List Int):∀t,t<ws.length->(bP ws t).length+t=ws.length:=by
 intro t
 induction t with
 |zero=>intro _;unfold bP;simp
 |succ t ih=>
  intro h;have:=ih (by omega);have:=aGd (ws.length+t) (bP ws t) (by omega);show(nH _ _).length+_=_;omega
structure jT (k n:Nat) (r:bQ):Prop where
 nodup:(r.flatMap (fun p=>p.2.nums)).Nodup
 lt:∀p∈r,∀x∈p.2.nums,x<n
 leaves:∀j,j<k->∃p∈r,j∈p.2.leaves
 sorted:r.Pairwise (fun p q=>p.2.root<q.2.root)
theorem RM {α β:Type} {f:α->List β} {r s:List α} (h:r.Perm s):(r.flatMap f).Perm (s.flatMap f):=by
 induction h with
 |nil=>exact xP _
 |cons x _ ih=>simp only[sH];exact ih.append_left _
 |swap x y l=>simp only[sH,<-cF];exact NR.append_right _
 |trans _ _ ih1 ih2=>exact ih1.trans ih2
theorem qL (n:Nat) (r:bQ) (h:2<=r.length):∃a b s,(a::b::s).Perm r/\nH n r=s++[(a.1+b.1,.node n a.2 b.2)]/\(bM r).1=a/\(bM (bM r).2).1=b/\(bM (bM r).2).2=s/\(∀x∈s,b.1<=x.1)/\a.1<=b.1:=by
 have hp:=uO r (by intro e;rw[e] at h;simp at h);have hq:=uO (bM r).2 (by intro e;have:=hp.2.1;rw[e] at this;simp at this;omega);refine⟨_,_,_,?_,rfl,rfl,rfl,rfl,fun x hx=>?_,?_⟩
 ·exact(GK _ hq.2.2.1).trans hp.2.2.1
 ·exact hq.2.2.2 x (hq.2.2.1.mem_iff.1 (jD _ hx))
 ·exact hp.2.2.2 _ (hp.2.2.1.mem_iff.1 (jD _ hq.1))
theorem jT.step {k n:Nat} {r:bQ} (hg:jT k n r) (h:2<=r.length):jT k (n+1) (nH n r):=by
 obtain⟨a,b,s,hp,he,_,_,_,_,_⟩:=qL n r h;have hnd:((a::b::s).flatMap (fun p=>p.2.nums)).Nodup:=(RM hp).nodup_iff.2 hg.nodup;simp only[sH] at hnd;have ha:a∈r:=hp.mem_iff.1 (by simp);have hb:b∈r:=hp.mem_iff.1 (by simp);have hs:∀x∈s,x∈r:=fun x hx=>hp.mem_iff.1 (by simp[hx])
 rw[he];refine⟨?_,?_,?_,?_⟩
 ·have hpm:(n::((a.2.nums++b.2.nums)++s.flatMap (fun p=>p.2.nums))).Perm ((s++[(a.1+b.1,HT.node n a.2 b.2)]).flatMap (fun p=>p.2.nums)):=by
   rw[pZ,List.flatMap_singleton];show(n::((a.2.nums++b.2.nums)++_)).Perm (_++(n::(a.2.nums++b.2.nums)));rw[<-gE];exact NR
  rw[<-hpm.nodup_iff,NX];refine⟨fun hm=>?_,by rw[cF];exact hnd⟩;have:∃p∈r,n∈p.2.nums:=by
   rcases cU.1 hm with hm|hm
   ·rcases cU.1 hm with hm|hm
    ·exact⟨a,ha,hm⟩
    ·exact⟨b,hb,hm⟩
   ·obtain⟨p,hp1,hp2⟩:=NW.1 hm;exact⟨p,hs p hp1,hp2⟩
  obtain⟨p,hp1,hp2⟩:=this;have:=hg.lt p hp1 n hp2;omega
 ·intro p hp2 x hx;rcases cU.1 hp2 with q|q
  ·have:=hg.lt p (hs p q) x hx;omega
  ·obtain rfl:=dC.1 q;rcases kD.1 hx with rfl|hx
   ·omega
   ·rcases cU.1 hx with hx|hx
    ·have:=hg.lt a ha x hx;omega
    ·have:=hg.lt b hb x hx;omega
 ·intro j hj;obtain⟨p,hp1,hp2⟩:=hg.leaves j hj;have:=hp.mem_iff.2 hp1;simp only[kD] at this;rcases this with rfl|rfl|q
  ·exact⟨_,cU.2 (.inr (dC.2 rfl)),cU.2 (.inl hp2)⟩
  ·exact⟨_,cU.2 (.inr (dC.2 rfl)),cU.2 (.inr hp2)⟩
  ·exact⟨p,cU.2 (.inl q),hp2⟩
 ·have hsub:s.Sublist r:=by
   obtain⟨_,_,_,h3⟩:=qL n r h;have e:s=(r.eraseIdx (bQ.least r)).eraseIdx (bQ.least (r.eraseIdx (bQ.least r))):=by
    have:=he;unfold nH at this;have e2:=congrArg (fun l=>l.take (l.length-1)) this;simp only[aL,fK,Nat.add_sub_cancel,List.take_left'] at e2;exact e2.symm
   rw[e];exact(NY ..).trans (NY ..)
  rw[List.pairwise_append];refine⟨hg.sorted.sublist hsub,List.pairwise_singleton _ _,fun p hp1 q hq=>?_⟩;obtain rfl:=dC.1 hq;exact hg.lt p (hs p hp1) _ (HT.root_mem _)
def jJ (deep:List Int) (all:List Nat):List Int:=all.foldl (fun d j=>d.set j (d.getD j 0+1)) deep
theorem CS:∀(all:List Nat) (deep:List Int),(jJ deep all).length=deep.length
 |[],_=>rfl
 |j::all,deep=>by
  show(jJ (deep.set j (deep.getD j 0+1)) all).length=_;rw[CS all,mW]
theorem vZ:∀(all:List Nat) (deep:List Int),all.Nodup->∀j,j<deep.length->(jJ deep all).getD j 0=deep.getD j 0+if j∈all then 1 else 0
 |[],deep,_,j,_=>by simp[jJ]
 |i::all,deep,h,j,hj=>by
  obtain⟨h1,h2⟩:=NX.1 h;show(jJ (deep.set i (deep.getD i 0+1)) all).getD j 0=_;rw[vZ all _ h2 j (by rw[mW];exact hj)]
  by_cases e:j=i
  ·subst e;rw[if_neg h1,if_pos (lY ..),aV,List.getElem?_set_self hj];simp
  ·rw[aV,List.getElem?_set_ne (fun q=>e q.symm),<-aV]
   congr 1
   by_cases h3:j∈all
   ·rw[if_pos h3,if_pos (jD _ h3)]
   ·rw[if_neg h3,if_neg (fun q=>by rcases kD.1 q with q|q;exact e q;exact h3 q)]
def qM (k:Nat) (r:bQ) (deep:List Int):Prop:=deep.length=k/\∀p∈r,∀q∈p.2.deep 0,q.1<k/\deep.getD q.1 0=(q.2:Int)
theorem HT.deep_leaf (t:HT) (d:Nat):∀q∈t.deep d,q.1∈t.leaves:=fun q hq=>by
 rw[<-HT.deep_map t d];exact dU.2 ⟨q,hq,rfl⟩
theorem JM {r:bQ} {a b:Int×HT} {s:bQ} (hnd:(r.flatMap (fun p=>p.2.nums)).Nodup) (hp:(a::b::s).Perm r):
  (a.2.leaves++b.2.leaves).Nodup/\(∀p∈s,∀x∈p.2.nums,x ∉ a.2.nums/\x ∉ b.2.nums)/\(∀x∈a.2.nums,x ∉ b.2.nums)/\a.2.nums.Nodup/\b.2.nums.Nodup/\∀p∈s,p.2.nums.Nodup:=by
 have h:((a::b::s).flatMap (fun p=>p.2.nums)).Nodup:=(RM hp).nodup_iff.2 hnd;simp only[sH] at h;obtain⟨h1,h2,h3⟩:=vM.1 h;obtain⟨h4,h5,h6⟩:=vM.1 h2;have hs:∀p∈s,p.2.nums.Nodup:=fun p hp2=>by
  obtain⟨i,hi,rfl⟩:=qA.1 hp2;have e:s=s.take i++s[i]::s.drop (i+1):=by rw[NM,jE]
  rw[e,pZ,sH] at h5;exact(vM.1 (vM.1 h5).2.1).1
 refine⟨?_,fun p hp2 x hx=>⟨fun q=>h3 x q x (cU.2 (.inr (NW.2 ⟨p,hp2,hx⟩))) rfl,fun q=>h6 x q x (NW.2 ⟨p,hp2,hx⟩) rfl⟩,fun x hx q=>h3 x hx x (cU.2 (.inl q)) rfl,h1,h4,hs⟩;exact vM.2 ⟨HT.leaves_nodup _ h1,HT.leaves_nodup _ h4,fun x hx y hy=>h3 x (HT.leaves_sub _ x hx) y (cU.2 (.inl (HT.leaves_sub _ y hy)))⟩
theorem qM.step {k n:Nat} {r:bQ} (hg:jT k n r) (h:2<=r.length) {deep:List Int} (hd:qM k r deep):
  qM k (nH n r) (jJ deep ((bM r).1.2.leaves++(bM (bM r).2).1.2.leaves)):=by
 obtain⟨a,b,s,hp,he,ea,eb,_,_,_⟩:=qL n r h;obtain⟨h1,h2,_,_,_,_⟩:=JM hg.nodup hp;have ha:a∈r:=hp.mem_iff.1 (by simp);have hb:b∈r:=hp.mem_iff.1 (by simp);rw[ea,eb,he];refine⟨by rw[CS];exact hd.1,fun p hp2 q hq=>?_⟩;rcases cU.1 hp2 with q2|q2
 ·obtain⟨k1,k2⟩:=hd.2 p (hp.mem_iff.1 (by simp[q2])) q hq;refine⟨k1,?_⟩;rw[vZ _ _ h1 _ (by rw[hd.1];exact k1),if_neg,Int.add_zero,k2];intro hm;have hx:=HT.leaves_sub _ _ (HT.deep_leaf _ _ q hq);rcases cU.1 hm with hm|hm
  ·exact(h2 p q2 _ hx).1 (HT.leaves_sub _ _ hm)
  ·exact(h2 p q2 _ hx).2 (HT.leaves_sub _ _ hm)
 ·obtain rfl:=dC.1 q2;have hq':q∈a.2.deep (0+1)++b.2.deep (0+1):=hq;rw[HT.deep_add,HT.deep_add] at hq';rcases cU.1 hq' with hm|hm
  ·obtain⟨q0,hq0,rfl⟩:=dU.1 hm;obtain⟨k1,k2⟩:=hd.2 a ha q0 hq0;refine⟨k1,?_⟩;show(jJ deep (a.2.leaves++b.2.leaves)).getD q0.1 0=_;rw[vZ _ _ h1 _ (by rw[hd.1];exact k1),if_pos (cU.2 (.inl (HT.deep_leaf _ _ q0 hq0))),k2];rfl
  ·obtain⟨q0,hq0,rfl⟩:=dU.1 hm;obtain⟨k1,k2⟩:=hd.2 b hb q0 hq0;refine⟨k1,?_⟩;show(jJ deep (a.2.leaves++b.2.leaves)).getD q0.1 0=_;rw[vZ _ _ h1 _ (by rw[hd.1];exact k1),if_pos (cU.2 (.inr (HT.deep_leaf _ _ q0 hq0))),k2];rfl
def HT.upOk (up:Nat->Int):HT->Prop
 |.leaf _=>True
 |.node n l r=>up l.root=(n:Int)/\up r.root=(n:Int)/\l.upOk up/\r.upOk up
def HT.inc:HT->Prop
 |.leaf _=>True
 |.node n l r=>(∀x∈l.nums,x<n)/\(∀x∈r.nums,x<n)/\l.inc/\r.inc
theorem HT.upOk_congr {f g:Nat->Int}:∀t:HT,(∀x∈t.nums,x≠t.root->f x=g x)->t.nums.Nodup->t.upOk f->t.upOk g
 |.leaf _,_,_,_=>trivial
 |.node n l r,h,hn,⟨h1,h2,h3,h4⟩=>by
  unfold HT.nums at hn h;obtain⟨k0,k1⟩:=NX.1 hn;obtain⟨k2,k3,k4⟩:=vM.1 k1;have hl:∀x∈l.nums,f x=g x:=fun x hx=>h x (jD _ (cU.2 (.inl hx))) (fun e=>k0 (by rw[<-show x=n from e];exact cU.2 (.inl hx)))
  have hr:∀x∈r.nums,f x=g x:=fun x hx=>h x (jD _ (cU.2 (.inr hx))) (fun e=>k0 (by rw[<-show x=n from e];exact cU.2 (.inr hx)))
  exact⟨by rw[<-hl _ (HT.root_mem l)];exact h1,by rw[<-hr _ (HT.root_mem r)];exact h2,HT.upOk_congr l (fun x hx _=>hl x hx) k2 h3,HT.upOk_congr r (fun x hx _=>hr x hx) k3 h4⟩
def HUp (r:bQ) (up:Nat->Int):Prop:=∀p∈r,p.2.upOk up/\p.2.inc
theorem HUp.step {k n:Nat} {r:bQ} (hg:jT k n r) (h:2<=r.length) {up:Nat->Int} (hu:HUp r up):
  HUp (nH n r) (fun x=>if x=(bM (bM r).2).1.2.root then(n:Int) else if x=(bM r).1.2.root then(n:Int) else up x):=by
 obtain⟨a,b,s,hp,he,ea,eb,_,_,_⟩:=qL n r h;obtain⟨_,h2,h3,h4,h5,h6⟩:=JM hg.nodup hp;have ha:a∈r:=hp.mem_iff.1 (by simp);have hb:b∈r:=hp.mem_iff.1 (by simp);rw[ea,eb,he];have hab:a.2.root≠b.2.root:=fun e=>h3 _ (HT.root_mem _) (by rw[e];exact HT.root_mem _)
 intro p hp2;rcases cU.1 hp2 with q2|q2
 ·obtain⟨k1,k2⟩:=hu p (hp.mem_iff.1 (by simp[q2]));refine⟨HT.upOk_congr _ (fun x hx _=>?_) (h6 p q2) k1,k2⟩;rw[if_neg (fun e=>(h2 p q2 x hx).2 (by rw[e];exact HT.root_mem _)),if_neg (fun e=>(h2 p q2 x hx).1 (by rw[e];exact HT.root_mem _))]
 ·obtain rfl:=dC.1 q2;obtain⟨a1,a2⟩:=hu a ha;obtain⟨b1,b2⟩:=hu b hb;refine⟨⟨?_,?_,?_,?_⟩,?_,?_,a2,b2⟩
  ·show(if a.2.root=_ then _ else _)=_;rw[if_neg hab,if_pos rfl]
  ·show(if b.2.root=_ then _ else _)=_;rw[if_pos rfl]
  ·refine HT.upOk_congr _ (fun x hx hne=>?_) h4 a1;rw[if_neg (fun e=>h3 x hx (by rw[e];exact HT.root_mem _)),if_neg hne]
  ·refine HT.upOk_congr _ (fun x hx hne=>?_) h5 b1;rw[if_neg hne,if_neg (fun e=>h3 _ (HT.root_mem _) (by rw[<-e];exact hx))]
  ·exact fun x hx=>hg.lt a ha x hx
  ·exact fun x hx=>hg.lt b hb x hx
theorem HT.down {up D:Nat->Int}:∀(t:HT) (top:Nat),t.root<=top->t.upOk up->t.inc->(∀x,x<top->D x=D (up x).toNat+1)->∀d:Nat,D t.root=(d:Int)->∀q∈t.deep d,D q.1=(q.2:Int)
 |.leaf n,_,_,_,_,_,d,hd,q,hq=>by
  obtain rfl:=dC.1 hq;exact hd
 |.node n l r,top,ht,⟨h1,h2,h3,h4⟩,⟨i1,i2,i3,i4⟩,hD,d,hd,q,hq=>by
  have hl:=i1 _ (HT.root_mem l);have hr:=i2 _ (HT.root_mem r);have ht':n<=top:=ht;have hd':D n=(d:Int):=hd;have e1:D l.root=((d+1:Nat):Int):=by rw[hD _ (by omega),h1,eG,hd'];omega
  have e2:D r.root=((d+1:Nat):Int):=by rw[hD _ (by omega),h2,eG,hd'];omega
  rcases cU.1 hq with hq|hq
  ·exact HT.down l top (by omega) h3 i3 hD (d+1) e1 q hq
  ·exact HT.down r top (by omega) h4 i4 hD (d+1) e2 q hq
theorem jT.start (ws:List Int):jT ws.length ws.length (bP ws 0):=by
 have e:(bP ws 0).flatMap (fun p=>p.2.nums)=List.range ws.length:=by
  unfold bP;rw[List.flatMap_map];have:(fun a:Int×Nat=>(HT.leaf a.2).nums)=fun a=>[a.2]:=rfl
  simp only[this];rw[<-List.map_eq_flatMap];apply jA;intro i
  by_cases h:i<ws.length<;>simp[h]
 have hmem:∀p∈bP ws 0,∃j,j<ws.length/\p=(ws.getD j 0,.leaf j):=fun p hp=>by
  unfold bP at hp;obtain⟨q,hq,rfl⟩:=dU.1 hp;obtain⟨i,hi,he⟩:=qA.1 hq;simp at hi he;refine⟨i,hi,?_⟩;rw[<-he];simp[hi]
 refine⟨by rw[e];exact List.nodup_range,fun p hp x hx=>?_,fun j hj=>?_,?_⟩
 ·obtain⟨j,hj,rfl⟩:=hmem p hp;obtain rfl:=dC.1 hx;exact hj
 ·refine⟨(ws.getD j 0,.leaf j),?_,dC.2 rfl⟩;unfold bP;refine dU.2 ⟨(ws.getD j 0,j),qA.2 ⟨j,by simpa using hj,by simp[hj]⟩,rfl⟩
 ·unfold bP;rw[xO];intro i j hi hj hij;simp at hi hj ⊢;exact hij
theorem bQ.start_mem {ws:List Int} {p:Int×HT} (hp:p∈bP ws 0):∃j,j<ws.length/\p=(ws.getD j 0,.leaf j):=by
 unfold bP at hp;obtain⟨q,hq,rfl⟩:=dU.1 hp;obtain⟨i,hi,he⟩:=qA.1 hq;simp at hi he;refine⟨i,hi,?_⟩;rw[<-he];simp[hi]
theorem jT.all (ws:List Int):∀t,t<ws.length->jT ws.length (ws.length+t) (bP ws t)
 |0,_=>jT.start ws
 |t+1,h=>(jT.all ws t (by omega)).step (by have:=pR ws t (by omega);omega)
def gO (ws:List Int):Nat->List Int
 |0=>bB ws.length 0
 |t+1=>jJ (gO ws t) ((bM (bP ws t)).1.2.leaves++(bM (bM (bP ws t)).2).1.2.leaves)
theorem rN (ws:List Int):∀t,(gO ws t).length=ws.length
 |0=>by simp[gO]
 |t+1=>by unfold gO;rw[CS,rN ws t]
theorem qM.all (ws:List Int):∀t,t<ws.length->qM ws.length (bP ws t) (gO ws t)
 |0,_=>⟨by simp[gO],fun p hp q hq=>by
   obtain⟨j,hj,rfl⟩:=bQ.start_mem hp;obtain rfl:=dC.1 hq;exact⟨hj,by simp[gO,hj]⟩⟩
 |t+1,h=>(qM.all ws t (by omega)).step (jT.all ws t (by omega)) (by have:=pR ws t (by omega);omega)
def iJ (ws:List Int):Nat->Nat->Int
 |0=>fun _=>0
 |t+1=>fun x=>if x=(bM (bM (bP ws t)).2).1.2.root then((ws.length+t:Nat):Int) else if x=(bM (bP ws t)).1.2.root then((ws.length+t:Nat):Int) else iJ ws t x
theorem HUp.all (ws:List Int):∀t,t<ws.length->HUp (bP ws t) (iJ ws t)
 |0,_=>fun p hp=>by
   obtain⟨j,hj,rfl⟩:=bQ.start_mem hp;exact⟨trivial,trivial⟩
 |t+1,h=>(HUp.all ws t (by omega)).step (jT.all ws t (by omega)) (by have:=pR ws t (by omega);omega)
def kL (ws:List Int):List Int:=gO ws (ws.length-1)
theorem CT (ws:List Int) (h:2<=ws.length):∃p,bP ws (ws.length-1)=[p]/\p.2.root=2*ws.length-2:=by
 obtain⟨t,ht⟩:∃t,ws.length=t+2:=⟨ws.length-2,by omega⟩;have hl:=pR ws (ws.length-1) (by omega);obtain⟨p,hp⟩:=List.length_eq_one_iff.1 (show(bP ws (ws.length-1)).length=1 by omega);refine⟨p,hp,?_⟩;rw[ht,show t+2-1=t+1 by omega] at hp;have he:bP ws (t+1)=nH (ws.length+t) (bP ws t):=rfl;obtain⟨a,b,s,_,h2,_⟩:=qL (ws.length+t) (bP ws t) (by have:=pR ws t (by omega);omega);rw[he,h2] at hp;have:s=[]:=by
  have:=congrArg tM hp;simp at this;exact this
 rw[this] at hp;simp at hp;rw[<-hp];show ws.length+t=_;omega
theorem aGe (ws:List Int) (h:2<=ws.length) {D:Nat->Int} (h0:D (2*ws.length-2)=0) (hD:∀x,x<2*ws.length-2->D x=D (iJ ws (ws.length-1) x).toNat+1):∀j,j<ws.length->D j=(kL ws).getD j 0:=by
 obtain⟨p,hp,hr⟩:=CT ws h;have hg:=jT.all ws (ws.length-1) (by omega);have hd:=qM.all ws (ws.length-1) (by omega);have hu:=HUp.all ws (ws.length-1) (by omega);rw[hp] at hg hd hu;intro j hj;obtain⟨p',hp',hj'⟩:=hg.leaves j hj;obtain rfl:=dC.1 hp';obtain⟨k1,k2⟩:=hu p' (dC.2 rfl);rw[<-HT.deep_map p'.2 0] at hj';obtain⟨q,hq,rfl⟩:=dU.1 hj';have e1:=HT.down p'.2 (2*ws.length-2) (by omega) k1 k2 hD 0 (by rw[hr];exact h0) q hq;have e2:=(hd.2 p' (dC.2 rfl) q hq).2;rw[e1];exact e2.symm
def HT.wt (f:Nat->Int):HT->Int
 |.leaf n=>f n
 |.node _ l r=>l.wt f+r.wt f
def HT.kids (f:Nat->Int) (x:Int):HT->Prop
 |.leaf _=>True
 |.node _ l r=>l.wt f<=x/\r.wt f<=x
def HT.even (f:Nat->Int):HT->Prop
 |.leaf n=>1<=f n
 |.node _ l r=>l.even f/\r.even f/\l.kids f (r.wt f)/\r.kids f (l.wt f)
def kM:Nat->Int
 |0=>1
 |1=>2
 |n+2=>kM (n+1)+kM n
theorem JN:∀n,1<=kM n
 |0=>by decide
 |1=>by decide
 |n+2=>by have:=JN (n+1);have:=JN n;unfold kM;omega
theorem aGf (n:Nat):kM n<=kM (n+1):=by
 cases n with
 |zero=>decide
 |succ n=>have:=JN n;show _<=kM (n+1)+kM n;omega
theorem RN {m n:Nat} (h:m<=n):kM m<=kM n:=by
 induction h with
 |refl=>exact lJ _
 |step _ ih=>exact Int.le_trans ih (aGf _)
theorem HT.wt_pos {f:Nat->Int}:∀t:HT,t.even f->1<=t.wt f
 |.leaf _,h=>h
 |.node _ l r,h=>by have:=HT.wt_pos l h.1;have:=HT.wt_pos r h.2.1;unfold HT.wt;omega
theorem HT.wt_high2 {f:Nat->Int}:∀t:HT,t.even f->kM t.high<=t.wt f/\∀x,1<=x->t.kids f x->kM (t.high+1)<=t.wt f+x
 |.leaf n,h=>⟨h,fun x hx _=>by
   have h1:1<=f n:=h;show(2:Int)<=f n+x;omega⟩
 |.node n l r,h=>by
  obtain⟨hl,hl2⟩:=HT.wt_high2 l h.1;obtain⟨hr,hr2⟩:=HT.wt_high2 r h.2.1;have e1:=hl2 _ (HT.wt_pos r h.2.1) h.2.2.1;have e2:=hr2 _ (HT.wt_pos l h.1) h.2.2.2;have first:kM (max l.high r.high+1)<=l.wt f+r.wt f:=by
   rcases Nat.le_total l.high r.high with q|q
   ·rw[Nat.max_eq_right q];omega
   ·rw[Nat.max_eq_left q];omega
  refine⟨first,fun x _ hk=>?_⟩;show kM (max l.high r.high+1)+kM (max l.high r.high)<=l.wt f+r.wt f+x;have k1:l.wt f<=x:=hk.1;have k2:r.wt f<=x:=hk.2;have:kM (max l.high r.high)<=x:=by
   rcases Nat.le_total l.high r.high with q|q
   ·rw[Nat.max_eq_right q];omega
   ·rw[Nat.max_eq_left q];omega
  omega
theorem HT.wt_high {f:Nat->Int} (t:HT) (h:t.even f):kM t.high<=t.wt f:=(HT.wt_high2 t h).1
theorem aGg {l m:List Int} (h:l.Perm m):l.sum=m.sum:=by
 induction h with
 |nil=>rfl
 |cons x _ ih=>simp only[pV];omega
 |swap x y l=>simp only[pV];omega
 |trans _ _ h1 h2=>omega
structure rO (f:Nat->Int) (r:bQ):Prop where
 wt:∀p∈r,p.1=p.2.wt f
 even:∀p∈r,p.2.even f
 kids:∀p∈r,∀q∈r,p.2.kids f (q.2.wt f)
theorem HT.kids_le {f:Nat->Int} {x y:Int} (h:x<=y):∀t:HT,t.kids f x->t.kids f y
 |.leaf _,_=>trivial
 |.node _ _ _,⟨h1,h2⟩=>⟨by omega,by omega⟩
theorem rO.step {f:Nat->Int} {n:Nat} {r:bQ} (hg:rO f r) (h:2<=r.length):rO f (nH n r)/\((nH n r).map (·.1)).sum=(r.map (·.1)).sum:=by
 obtain⟨a,b,s,hp,he,ea,eb,es,hlast,hab⟩:=qL n r h;have ha:a∈r:=hp.mem_iff.1 (by simp);have hb:b∈r:=hp.mem_iff.1 (by simp);have hs:∀x∈s,x∈r:=fun x hx=>hp.mem_iff.1 (by simp[hx])
 have wa:=hg.wt a ha;have wb:=hg.wt b hb;have pa:=HT.wt_pos _ (hg.even a ha);have pb:=HT.wt_pos _ (hg.even b hb);rw[he];refine⟨⟨fun p hp2=>?_,fun p hp2=>?_,fun p hp2 q hq=>?_⟩,?_⟩
 ·rcases cU.1 hp2 with q|q
  ·exact hg.wt p (hs p q)
  ·obtain rfl:=dC.1 q;show a.1+b.1=a.2.wt f+b.2.wt f;omega
 ·rcases cU.1 hp2 with q|q
  ·exact hg.even p (hs p q)
  ·obtain rfl:=dC.1 q;exact⟨hg.even a ha,hg.even b hb,hg.kids a ha b hb,hg.kids b hb a ha⟩
 ·have hq1:∀u∈r,u.2.kids f (q.2.wt f):=fun u hu=>by
   rcases cU.1 hq with k|k
   ·exact hg.kids u hu q (hs q k)
   ·obtain rfl:=dC.1 k;exact HT.kids_le (show a.2.wt f<=a.2.wt f+b.2.wt f by omega) _ (hg.kids u hu a ha)
  rcases cU.1 hp2 with k|k
  ·exact hq1 p (hs p k)
  ·obtain rfl:=dC.1 k;have hbq:b.2.wt f<=q.2.wt f:=by
    rcases cU.1 hq with k2|k2
    ·have:=hlast q k2;rw[<-wb,<-hg.wt q (hs q k2)];exact this
    ·obtain rfl:=dC.1 k2;show _<=a.2.wt f+b.2.wt f;omega
   exact⟨by omega,hbq⟩
 ·have:(r.map (·.1)).sum=((a::b::s).map (·.1)).sum:=(aGg (hp.map _)).symm;rw[this];simp only[fI,List.map_cons,List.map_nil,List.sum_append,pV,List.sum_nil];omega
theorem rO.all (ws:List Int) (h1:∀x∈ws,1<=x):∀t,t<ws.length->rO (fun j=>ws.getD j 0) (bP ws t)/\((bP ws t).map (·.1)).sum=ws.sum
 |0,_=>by
  refine⟨⟨fun p hp=>?_,fun p hp=>?_,fun p hp q _=>?_⟩,?_⟩
  ·obtain⟨j,hj,rfl⟩:=bQ.start_mem hp;rfl
  ·obtain⟨j,hj,rfl⟩:=bQ.start_mem hp;show 1<=ws.getD j 0;rw[aV,aN hj];exact h1 _ (gT hj)
  ·obtain⟨j,hj,rfl⟩:=bQ.start_mem hp;trivial
  ·congr 1
   unfold bP;rw[List.map_map];apply jA;intro i
   by_cases h:i<ws.length<;>simp[h]
 |t+1,h=>by
  obtain⟨k1,k2⟩:=rO.all ws h1 t (by omega);obtain⟨k3,k4⟩:=k1.step (n:=ws.length+t) (by have:=pR ws t (by omega);omega);exact⟨k3,by rw[<-k2];exact k4⟩
theorem aGh (ws:List Int) (h:2<=ws.length) (h1:∀x∈ws,1<=x) (hs:ws.sum<28657):(kL ws).length=ws.length/\∀x∈kL ws,1<=x/\x<=20:=by
 refine⟨rN _ _,fun x hx=>?_⟩;obtain⟨p,hp,hr⟩:=CT ws h;have hg:=jT.all ws (ws.length-1) (by omega);have hd:=qM.all ws (ws.length-1) (by omega);obtain⟨he,hsum⟩:=rO.all ws h1 (ws.length-1) (by omega);rw[hp] at hg hd he hsum;obtain⟨j,hj,rfl⟩:=qA.1 hx;have hj2:j<ws.length:=by have:=rN ws (ws.length-1);unfold kL at hj;omega
 obtain⟨p',hp',hj'⟩:=hg.leaves j hj2;obtain rfl:=dC.1 hp';rw[<-HT.deep_map p'.2 0] at hj';obtain⟨q,hq,hqj⟩:=dU.1 hj';have e2:=(hd.2 p' (dC.2 rfl) q hq).2;rw[show q.1=j from hqj] at e2;have e3:(kL ws)[j]=(q.2:Int):=by
  rw[<-e2,aV,show(gO ws (ws.length-1))[j]? =some (kL ws)[j] from aN hj];rfl
 rw[e3];have hb:=HT.deep_bd p'.2 0 q hq;have hw:=HT.wt_high p'.2 (he.even p' (dC.2 rfl));have hwt:=he.wt p' (dC.2 rfl);have hsum':p'.1=ws.sum:=by simpa using hsum
 have hh:p'.2.high<=20:=by
  rcases bT 20 p'.2.high with k|k
  ·have:=RN (show 21<=p'.2.high from k);have e:kM 21=28657:=by decide
   omega
  ·exact k
 refine⟨?_,by omega⟩;rcases Nat.eq_zero_or_pos q.2 with k|k
 ·exfalso
  cases ht:p'.2 with
  |leaf m=>
   have hroot:m=2*ws.length-2:=by rw[<-hr,ht];rfl
   obtain⟨p0,hp0,h0⟩:=hg.leaves 0 (by omega);obtain⟨p2,hp2,h2⟩:=hg.leaves 1 (by omega);obtain rfl:=dC.1 hp0;obtain rfl:=dC.1 hp2;rw[ht] at h0 h2;have:=dC.1 h0;have:=dC.1 h2;omega
  |node m l r=>
   rw[ht] at hq;rcases cU.1 hq with hq|hq
   ·have:=HT.deep_bd l _ q hq;omega
   ·have:=HT.deep_bd r _ q hq;omega
 ·omega
def jM (c:UInt8):Nat->List UInt8->Nat
 |0,_=>0
 |_+1,[]=>0
 |n+1,b::s=>if b=c then jM c n s+1 else 0
theorem TT (c:UInt8):∀n s,jM c n s<=n/\jM c n s<=s.length
 |0,_=>by simp[jM]
 |n+1,[]=>by simp[jM]
 |n+1,b::s=>by
  have:=TT c n s;unfold jM;split<;>simp<;>omega
theorem TU (c:UInt8):∀n s k,k<jM c n s->s[k]? =some c
 |0,_,k,h=>by simp[jM] at h
 |n+1,[],k,h=>by simp[jM] at h
 |n+1,b::s,k,h=>by
  unfold jM at h;split at h
  ·next e=>
   cases k with
   |zero=>simp[e]
   |succ k=>simpa using TU c n s k (by omega)
  ·omega
theorem TV (c:UInt8):∀n s,jM c n s<n->s[jM c n s]?≠some c
 |0,_,h=>by omega
 |n+1,[],h=>by simp[jM]
 |n+1,b::s,h=>by
  unfold jM at h ⊢;split
  ·next e=>
   rw[if_pos e] at h
   simpa using TV c n s (by omega)
  ·next e=>simpa using e
theorem TW (c:UInt8):∀n s k,k<=n->(∀j,j<k->s[j]? =some c)->(k=n\/s[k]?≠some c)->jM c n s=k
 |0,_,k,h,_,_=>by simp[jM];omega
 |n+1,[],k,h,h1,h2=>by
  cases k with
  |zero=>rfl
  |succ k=>have:=h1 0 (by omega);simp at this
 |n+1,b::s,k,h,h1,h2=>by
  unfold jM
  cases k with
  |zero=>
   rw[if_neg];rintro rfl;rcases h2 with h2|h2
   ·omega
   ·simp at h2
  |succ k=>
   have h0:=h1 0 (by omega);rw[if_pos (by simpa using h0),TW c n s k (by omega) (fun j hj=>by have:=h1 (j+1) (by omega);simpa using this)];rcases h2 with h2|h2
   ·exact .inl (by omega)
   ·exact .inr (by simpa using h2)
def dX (s:List UInt8):Nat:=match s with
 |[]=>0
 |c::r=>jM c 255 (c::r)
theorem pS (s:List UInt8) (h:s≠[]):1<=dX s/\dX s<=255/\dX s<=s.length:=by
 cases s with
 |nil=>exact absurd rfl h
 |cons c r=>
  have:=TT c 255 (c::r);refine⟨?_,this.1,this.2⟩;show 1<=jM c 255 (c::r);unfold jM;rw[if_pos rfl];omega
def mN (s:List UInt8) (n:Nat):List UInt8:=s.take (min n 4)++if 4<=n then[eK (n-4)] else[]
def uT:Nat->List UInt8->List UInt8
 |0,_=>[]
 |_+1,[]=>[]
 |f+1,c::r=>mN (c::r) (dX (c::r))++uT f ((c::r).drop (dX (c::r)))
theorem TX:∀f g s,s.length<=f->s.length<=g->uT f s=uT g s
 |0,g,s,hf,hg=>by
  have:s=[]:=mV.1 (by omega);subst this
  cases g<;>rfl
 |f+1,0,s,hf,hg=>by
  have:s=[]:=mV.1 (by omega);subst this;rfl
 |f+1,g+1,[],_,_=>rfl
 |f+1,g+1,c::r,hf,hg=>by
  unfold uT;have:=pS (c::r) (by simp);rw[TX f g _ (by rw[cI];simp only[cR] at*;omega) (by rw[cI];simp only[cR] at*;omega)]
def bC (s:List UInt8):List UInt8:=uT s.length s
theorem DL:bC []=[]:=rfl
theorem yU (s:List UInt8) (h:s≠[]):bC s=mN s (dX s)++bC (s.drop (dX s)):=by
 cases s with
 |nil=>exact absurd rfl h
 |cons c r=>
  have:=pS (c::r) h;show uT (r.length+1) (c::r)=_;unfold uT bC;rw[TX r.length ((c::r).drop (dX (c::r))).length _ (by rw[cI];simp only[cR] at*;omega) (aA _)]
theorem TY (s:List UInt8) (n:Nat) (h:n<=s.length):(mN s n).length=if n<4 then n else 5:=by
 unfold mN;rw[aL,aX]
 by_cases h4:4<=n
 ·rw[if_pos h4,if_neg (by omega)];simp;omega
 ·rw[if_neg h4,if_pos (by omega)];simp;omega
theorem aI1 {s:List UInt8} {out:List UInt8} (h:s≠[]) {all:List UInt8} (ho:out++bC s=all):(out++mN s (dX s))++bC (s.drop (dX s))=all:=by
 rw[<-ho,yU s h,cF]
def unS:Nat->UInt8->List UInt8->Option (List UInt8)
 |r,_,[]=>if r=4 then none else some []
 |r,c,b::s=>if r=4 then(unS 0 c s).map (bB b.toNat c++·)
  else if 0<r/\b=c then(unS (r+1) c s).map (b::·)
  else(unS 1 b s).map (b::·)
def dT (s:List UInt8):Option (List UInt8):=unS 0 0 s
theorem aIx (c d:UInt8):∀s,unS 0 c s=unS 0 d s
 |[]=>rfl
 |b::s=>by unfold unS;simp
theorem aIy {r:Nat} {c:UInt8} {s:List UInt8} (hr:r<4) (h:∀b,s.head? =some b->b≠c):unS r c s=unS 0 0 s:=by
 cases s with
 |nil=>unfold unS;rw[if_neg (by omega),if_neg (by decide)]
 |cons b s=>
  have:=h b rfl;unfold unS;rw[if_neg (by omega),if_neg (by rintro⟨_,e⟩;exact this e),if_neg (by decide),if_neg (by simp)]
theorem KJ (c:UInt8):∀(n r:Nat) (s:List UInt8),0<r->r+n<=4->unS r c (bB n c++s)=(unS (r+n) c s).map (bB n c++·)
 |0,r,s,_,_=>by simp
 |n+1,r,s,h0,h4=>by
  rw[AE,gE]
  conv=>lhs;unfold unS
  rw[if_neg (by omega),if_pos ⟨h0,rfl⟩,KJ c n (r+1) s (by omega) (by omega),OH,show r+1+n=r+(n+1) by omega];rfl
theorem TZ {c:UInt8} {n:Nat} {s:List UInt8} (h1:1<=n) (h4:n<4) (h:∀b,s.head? =some b->b≠c):dT (bB n c++s)=(dT s).map (bB n c++·):=by
 obtain⟨k,rfl⟩:∃k,n=k+1:=⟨n-1,by omega⟩;unfold dT;rw[AE,gE]
 conv=>lhs;unfold unS
 rw[if_neg (by decide),if_neg (by simp),KJ c k 1 s (by decide) (by omega),aIy (r:=1+k) (by omega) h,OH];rfl
theorem KK (c:UInt8) (s:List UInt8):dT (bB 4 c++s)=match s with
  |[]=>none
  |b::r=>(dT r).map (bB 4 c++bB b.toNat c++·):=by
 unfold dT;rw[show bB 4 c=c::bB 3 c from rfl,gE]
 conv=>lhs;unfold unS
 rw[if_neg (by decide),if_neg (by simp),KJ c 3 1 s (by decide) (by decide),OH]
 cases s with
 |nil=>unfold unS;rfl
 |cons b r=>
  show Option.map _ (unS 4 c (b::r))=_
  conv=>lhs;unfold unS
  rw[if_pos rfl,OH,aIx c 0]
  congr 1
theorem aIz {s:List UInt8} {c:UInt8} (h:s.head? =some c):s.take (dX s)=bB (dX s) c/\(dX s<255->(s.drop (dX s)).head?≠some c):=by
 cases s with
 |nil=>simp at h
 |cons d r=>
  obtain rfl:d=c:=by simpa using h
  have hle:=(pS (d::r) (by simp)).2.2;have hs:=TU d 255 (d::r);constructor
  ·apply jA;intro k;rw[List.getElem?_take,List.getElem?_replicate]
   by_cases hk:k<dX (d::r)
   ·rw[if_pos hk,if_pos hk];exact hs k hk
   ·rw[if_neg hk,if_neg hk]
  ·intro hlt;rw[List.head?_drop];exact TV d 255 (d::r) hlt
theorem aI0 {s:List UInt8} (h:s≠[]):(bC s).head? =s.head? :=by
 rw[yU s h];have hb:=pS s h
 cases s with
 |nil=>exact absurd rfl h
 |cons c r=>
  unfold mN;obtain⟨k,hk⟩:∃k,min (dX (c::r)) 4=k+1:=⟨min (dX (c::r)) 4-1,by omega⟩;rw[hk,List.take_succ_cons];rfl
theorem UA:∀(n:Nat) (s:List UInt8),s.length<=n->dT (bC s)=some s
 |0,s,h=>by
  have:s=[]:=mV.1 (by omega);subst this;rfl
 |n+1,s,h=>by
  cases hs:s with
  |nil=>rfl
  |cons c r=>
   rw[<-hs];have hne:s≠[]:=by rw[hs];simp
   have hb:=pS s hne;obtain⟨h1,h2⟩:=aIz (s:=s) (c:=c) (by rw[hs];rfl);have ih:=UA n (s.drop (dX s)) (by rw[cI];omega);have hall:bB (dX s) c++s.drop (dX s)=s:=by rw[<-h1,jE]
   rw[yU s hne];unfold mN
   by_cases h4:4<=dX s
   ·rw[if_pos h4,show min (dX s) 4=4 by omega];have e:s.take 4=bB 4 c:=by
     have:=congrArg (List.take 4) h1;rw[AG,gU h4,List.take_replicate,gU h4] at this;exact this
    rw[e,cF,KK];simp only[List.singleton_append];rw[ih,xW,nP,Nat.mod_eq_of_lt (by omega),aTh,show 4+(dX s-4)=dX s by omega,hall]
   ·rw[if_neg h4,eE,show min (dX s) 4=dX s by omega,h1,TZ hb.1 (by omega),ih,xW,hall];intro b hb2 e;subst e
    by_cases hd:s.drop (dX s)=[]
    ·rw[hd] at hb2;simp[DL] at hb2
    ·rw[aI0 hd] at hb2;exact h2 (by omega) hb2
theorem oS:∀(n:Nat) (s:List UInt8),s.length<=n->(bC s).length<=2*s.length/\(s≠[]->bC s≠[])/\s.length<=52*(bC s).length
 |0,s,h=>by
  have:s=[]:=mV.1 (by omega);subst this;exact⟨by simp[DL],fun q=>absurd rfl q,by simp⟩
 |n+1,s,h=>by
  by_cases hne:s=[]
  ·subst hne;exact⟨by simp[DL],fun q=>absurd rfl q,by simp⟩
  ·have hb:=pS s hne;obtain⟨i1,_,i3⟩:=oS n (s.drop (dX s)) (by rw[cI];omega);have hl:=congrArg tM (yU s hne);rw[aL,TY s _ hb.2.2] at hl;rw[cI] at i1 i3;refine⟨?_,fun _ e=>?_,?_⟩
   ·split at hl<;>omega
   ·rw[e] at hl;simp at hl;split at hl<;>omega
   ·split at hl<;>omega
theorem aJ6 (all:List UInt8):dT all=(unS 0 0 all).map ([]++·):=by
 unfold dT
 cases unS 0 0 all<;>rfl
theorem zF {o m:List UInt8} (x:Option (List UInt8)):(x.map (m++·)).map (o++·)=x.map ((o++m)++·):=by
 cases x with
 |none=>rfl
 |some y=>simp
theorem aJ7 {all o s:List UInt8} {c b:UInt8} (h:dT all=(unS 4 c (b::s)).map (o++·)):dT all=(unS 0 c s).map ((o++bB b.toNat c)++·):=by
 rw[h]
 conv=>lhs;unfold unS
 rw[if_pos rfl,zF]
theorem aJ8 {all o s:List UInt8} {r:Nat} {c:UInt8} (h:dT all=(unS r c (c::s)).map (o++·)) (h0:0<r) (h4:r≠4):dT all=(unS (r+1) c s).map ((o++[c])++·):=by
 rw[h]
 conv=>lhs;unfold unS
 rw[if_neg h4,if_pos ⟨h0,rfl⟩];exact zF (m:=[c]) _
theorem VY {all o s:List UInt8} {r:Nat} {c b:UInt8} (h:dT all=(unS r c (b::s)).map (o++·)) (h4:r≠4) (hn:¬(0<r/\b=c)):dT all=(unS 1 b s).map ((o++[b])++·):=by
 rw[h]
 conv=>lhs;unfold unS
 rw[if_neg h4,if_neg hn];exact zF (m:=[b]) _
theorem aJ9 {all o:List UInt8} {r:Nat} {c:UInt8} (h:dT all=(unS r c []).map (o++·)):dT all=if r=4 then none else some o:=by
 rw[h];unfold unS
 by_cases h4:r=4
 ·rw[if_pos h4,if_pos h4];rfl
 ·rw[if_neg h4,if_neg h4];simp
theorem DU {α:Type} (o l:List α) (k:Nat):(o.take k++l).take k=(o++l).take k:=by
 rcases Nat.le_total k o.length with h|h
 ·rw[GO (by rw[aX];omega),AG,Nat.min_self,GO h]
 ·rw[cS h]
def fR (p:List UInt8) (most:Int):List UInt8×Int:=match dT p with
 |none=>([],3)
 |some o=>if most<(o.length:Int) then([],4) else(o,0)
theorem VZ {p:List UInt8} {most:Int} (h:dT p=none):fR p most=([],3):=by unfold fR;rw[h]
theorem LI {p o:List UInt8} {most:Int} (h:dT p=some o):fR p most=if most<(o.length:Int) then([],4) else(o,0):=by unfold fR;rw[h]
theorem aKa:∀(s:List UInt8) (r:Nat) (c:UInt8) (o:List UInt8),unS r c s=some o->s≠[]->r≠4->o≠[]
 |[],_,_,_,_,h,_=>absurd rfl h
 |b::s,r,c,o,h,_,h4=>by
  unfold unS at h;rw[if_neg h4] at h;split at h
  ·cases q:unS (r+1) c s with
   |none=>rw[q] at h;simp at h
   |some y=>rw[q] at h;simp at h;rw[<-h];simp
  ·cases q:unS 1 b s with
   |none=>rw[q] at h;simp at h
   |some y=>rw[q] at h;simp at h;rw[<-h];simp
theorem aKb {p:List UInt8} {most:Int} (hp:p≠[]) (h:(fR p most).2=0):(fR p most).1≠[]/\((fR p most).1.length:Int)<=most:=by
 unfold fR at h ⊢
 cases q:dT p with
 |none=>rw[q] at h;simp at h
 |some o=>
  rw[q] at h;simp only at h ⊢
  by_cases hm:most<(o.length:Int)
  ·rw[if_pos hm] at h;simp at h
  ·rw[if_neg hm];exact⟨aKa p 0 0 o q hp (by decide),by show(o.length:Int)<=most;omega⟩
theorem DV {s:List UInt8} {k:Nat} (h1:k<=255) (h2:k<=s.length) (h3:∀j,j<k->s[j]? =s[0]?) (h4:k=255\/k=s.length\/s[k]?≠s[0]?):dX s=k:=by
 cases s with
 |nil=>simp at h2;subst h2;rfl
 |cons c r=>
  show jM c 255 (c::r)=k;refine TW c 255 _ k h1 (fun j hj=>by rw[h3 j hj];rfl) ?_;rcases h4 with h|h|h
  ·exact .inl h
  ·right;rw[List.getElem?_eq_none (by omega)];simp
  ·right;exact fun e=>h (by rw[e];rfl)
theorem aKd {α:Type} {X Y:List α} {c:α} {k n M:Nat} (hk:k<=n) (hY:Y=(X++bB k c).take (M+1)) (hf:M<Y.length):(X++bB n c).take (M+1)=Y:=by
 have h1:M+1<=(X++bB k c).length:=by
  rw[hY,aX] at hf;omega
 have e:bB n c=bB k c++bB (n-k) c:=by rw[aTh,show k+(n-k)=n by omega]
 rw[e,<-cF,GO h1,hY]
theorem aKe {α:Type} {X Y:List α} {c:α} {k M:Nat} (hY:Y=(X++bB k c).take (M+1)) (hf:Y.length<=M):Y++[c]=(X++bB (k+1) c).take (M+1):=by
 have h1:(X++bB k c).length<=M:=by
  rw[hY,aX] at hf;omega
 rw[cS (by omega)] at hY;rw[List.replicate_succ',<-cF,<-hY,cS (by rw[aL,fK];omega)]
end
section
open Go.RowKit Go
theorem aKi (s:ByteArray) (w:World) (hs:s.size<=140737488355328):
  Calls Tryz.prog 122 #[.string s] w fun e w'=>e=.returned (.int .i64 ((dX s.data.toList:Nat):Int))/\Below w.heap.size w w':=by
 have HL:=hid (show s.data.toList.length=s.size by simp);go_enter Tryz.func122,Tryz.ntmps122;go_wp2_with fail
 go_loopg [3] 256 (fun g s3 wr=>∃k:Nat,k<=s.size/\k<=255/\g=256-k/\s3=.int .i64 (k:Int)/\Hid (∀j,j<k->s.data.toList[j]? =s.data.toList[0]?)/\Below w.heap.size w wr)
 case atStart=>exact⟨0,aU _,by omega,rfl,rfl,hid (fun j hj=>by omega),aB _ _⟩
 case round=>
  obtain⟨k,hk,hk2,hg,rfl,HJ,hbel⟩:=hrel;have HG:=hid hg;clear hg
  by_cases hlt:k<s.size
  ·have t1:decide ((k:Int)<(s.size:Int))=true:=decide_eq_true (by omega)
   by_cases h255:k<255
   ·have t2:decide ((k:Int)<255)=true:=decide_eq_true (by omega);have h0:0<s.size:=by omega
    have eb:=eW s k hlt;have e0:=eW s 0 h0;obtain⟨b,hb⟩:∃b,b=s[k].toNat:=⟨_,rfl⟩;obtain⟨c,hc⟩:∃c,c=s[0].toNat:=⟨_,rfl⟩
    by_cases hbc:b=c
    ·have t3:((b:Int)==(c:Int))=true:=by rw[hbc];simp
     have t4:decide ((b:Int)=(c:Int))=true:=decide_eq_true (by omega);have HS:=hid (show s.data.toList[k]? =s.data.toList[0]? by rw[eb,e0];congr 1;exact UInt8.toNat_inj.1 (by rw[<-hb,<-hc];exact hbc));have e1:(s[k].toNat:Int)=(b:Int):=by rw[hb]
     have e2:(s[0].toNat:Int)=(c:Int):=by rw[hc]
     clear eb e0 hb hc;go_wp2_with fail
     go_quiet (fail)
     go_wp2_with fail;have hg:=HG.out
     go_roundg (256-(k+1))
     case measure=>omega
     case rel=>exact⟨k+1,by omega,by omega,rfl,by go_num,hid (fun j hj=>by rcases bT j k with q|q;exact HJ.out j q;rw[show j=k by omega];exact HS.out),iI hbel _⟩
    ·have t3:((b:Int)==(c:Int))=false:=by rw[beq_eq_false_iff_ne];omega
     have t4:decide ((b:Int)=(c:Int))=false:=decide_eq_false (by omega);have HP:=hid (show dX s.data.toList=k from DV hk2 (by rw[HL.out];exact hk) HJ.out (.inr (.inr (by rw[eb,e0];intro e;injection e with e;exact hbc (by rw[hb,hc,e])))));have e1:(s[k].toNat:Int)=(b:Int):=by rw[hb]
     have e2:(s[0].toNat:Int)=(c:Int):=by rw[hc]
     clear eb e0 hb hc;go_wp2_with fail
     go_quiet (fail)
     go_wp2_with fail;go_ret;exact⟨fX (by rw[HP.out]),iI hbel _⟩
   ·have t2:decide ((k:Int)<255)=false:=decide_eq_false (by omega);have HP:=hid (show dX s.data.toList=k from DV hk2 (by rw[HL.out];exact hk) HJ.out (.inl (by omega)));go_wp2_with fail
    go_quiet (fail)
    go_wp2_with fail;go_ret;exact⟨fX (by rw[HP.out]),iI hbel _⟩
  ·have t1:decide ((k:Int)<(s.size:Int))=false:=decide_eq_false (by omega);have HP:=hid (show dX s.data.toList=k from DV hk2 (by rw[HL.out];exact hk) HJ.out (.inr (.inl (by rw[HL.out];omega))));go_wp2_with fail
   go_quiet (fail)
   go_wp2_with fail;go_ret;exact⟨fX (by rw[HP.out]),iI hbel _⟩
theorem aKj (b:UInt8) (W:World):(convert 75 9 (.slice (some ⟨W.heap.size,0,none⟩) 1 1)).run Tryz.prog (W.alloc (.cells #[.int .u8 (b.toNat:Int)] 5)).drew=.ok (.string (mkS [b])) (W.alloc (.cells #[.int .u8 (b.toNat:Int)] 5)).drew:=
 lQ (l:=[b]) (Arr.rdB (w:=(W.alloc (.cells #[.int .u8 (b.toNat:Int)] 5)).drew) (l:=[b]) (Arr.new W 5 [.int .u8 (b.toNat:Int)]) rfl (by decide))
theorem aKk (s:ByteArray) (w:World) (hs:s.size<=1000000):
  Calls Tryz.prog 91 #[.string s] w fun e w'=>e=.returned (.string (mkS (bC s.data.toList)))/\Below w.heap.size w w':=by
 have HL:=hid (show s.data.toList.length=s.size by simp);go_enter Tryz.func91,Tryz.ntmps91;go_wp2_with fail
 go_loopg [3,4,5] s.size (fun g s3 s4 _s5 wr=>∃(a:Nat) (o:List UInt8),a<=s.size/\g=s.size-a/\s4=.int .i64 (a:Int)/\s3=.string (mkS o)/\Hid (o++bC (s.data.toList.drop a)=bC s.data.toList)/\Below w.heap.size w wr)
 case atStart=>exact⟨0,[],aU _,rfl,rfl,rfl,hid (by simp),aB _ _⟩
 case round=>
  obtain⟨a,o,ha,hg,rfl,rfl,HO,hbel⟩:=hrel;have HG:=hid hg;clear hg
  by_cases hlt:a<s.size
  ·have t1:decide ((a:Int)<(s.size:Int))=true:=decide_eq_true (by omega);have hne:s.data.toList.drop a≠[]:=fun e=>by have:=congrArg tM e;rw[cI,HL.out] at this;simp at this;omega
   have hbd:=pS _ hne;have hstep:=aI1 hne HO.out;have hol:o.length<=2000000:=by
    have h1:=(oS s.data.toList.length s.data.toList (aA _)).1;have h2:=congrArg tM HO.out;rw[aL] at h2;rw[HL.out] at h1;omega
   have hx:s.extract a s.size=mkS (s.data.toList.drop a):=by
    rw[nT,cS (by rw[cI,HL.out];omega)]
   have hdl:(s.data.toList.drop a).length=s.size-a:=by rw[cI,HL.out]
   obtain⟨r,hr⟩:∃r,r=s.data.toList.drop a:=⟨_,rfl⟩;rw[<-hr] at hx hbd hstep hdl;have hcall:=fun W=>aKi (mkS r) W (by rw[cP];omega)
   obtain⟨n,hn⟩:∃n,n=dX r:=⟨_,rfl⟩;rw[fW,<-hn] at hcall;rw[<-hn] at hbd hstep;have hdrop:r.drop n=s.data.toList.drop (a+n):=by rw[hr,List.drop_drop]
   have HSt:=hid hstep;have HD:=hid hdrop;have HR:=hid hr;clear hne hn hr hstep hdrop;have q1:a<=s.size:=ha;have q2:(a:Int)<=(s.size:Int):=by omega
   by_cases h4:n<4
   ·have t2:decide ((n:Int)<4)=true:=decide_eq_true (by omega);have m1:aI.wrap ((a:Int)+(n:Int))=((a+n:Nat):Int):=by rw[aM];omega
    have q3:a+n<=s.size:=by omega
    have q4:((a+n:Nat):Int)<=(s.size:Int):=by omega
    have q5:(a:Int)<=((a+n:Nat):Int):=by omega
    have q6:a<=a+n:=by omega
    have hx2:s.extract a (a+n)=mkS (mN r n):=by
     rw[nT,<-HR.out,show a+n-a=n by omega]
     congr 1
     unfold mN;rw[if_neg (by omega),eE,gU (by omega)]
    have hpl:(mN r n).length<=5:=by
     rw[TY r n (by omega)];split<;>omega
    obtain⟨p,hp⟩:∃p,p=mN r n:=⟨_,rfl⟩;rw[<-hp] at hx2 hpl;have HP:=hid hp;clear hp;obtain⟨c,hc⟩:∃c:Nat,c=a+n:=⟨_,rfl⟩;rw[<-hc] at m1 q3 q4 q5 q6 hx2;have hsum:mkS o++mkS p=mkS (o++p):=pM o p;have HC:=hid hc;clear hc;go_wp2_with fail;refine(hcall _).mono ?_;rintro e w1 ⟨rfl,hb1⟩;go_wp2_with fail;have hg:=HG.out;have hc:=HC.out;have hbs:=hbel.size
    go_roundg (s.size-c)
    case measure=>omega
    case rel=>exact⟨c,o++p,q3,rfl,by go_num,rfl,hid (by rw[HP.out,hc,<-HD.out];exact HSt.out),hbel.trans (hb1.mono hbs)⟩
   ·have t2:decide ((n:Int)<4)=false:=decide_eq_false (by omega);have m1:aI.wrap ((a:Int)+4)=((a+4:Nat):Int):=by rw[aM];omega
    have m2:aI.wrap ((a:Int)+(n:Int))=((a+n:Nat):Int):=by rw[aM];omega
    have m3:aI.wrap ((n:Int)-4)=((n-4:Nat):Int):=by rw[aM];omega
    have hx2:s.extract a (a+4)=mkS (r.take 4):=by
     rw[nT,<-HR.out,show a+4-a=4 by omega]
    obtain⟨d,hd⟩:∃d:Nat,d=n-4:=⟨_,rfl⟩;obtain⟨b,hb⟩:∃b:UInt8,b=eK d:=⟨_,rfl⟩;have hb2:b.toNat=d:=by rw[hb,nP];omega
    have m4:IntKind.u8.wrap (d:Int)=(b.toNat:Int):=by rw[hb2,IntKind.wrap_u8];omega
    have hpp:r.take 4++[b]=mN r n:=by
     unfold mN;rw[if_pos (by omega),Nat.min_eq_right (by omega),hb,hd]
    rw[<-hd] at m3;obtain⟨e4,he4⟩:∃e4:Nat,e4=a+4:=⟨_,rfl⟩;obtain⟨c,hc⟩:∃c:Nat,c=a+n:=⟨_,rfl⟩;rw[<-he4] at m1 hx2;rw[<-hc] at m2;have q3:e4<=s.size:=by omega
    have q4:(e4:Int)<=(s.size:Int):=by omega
    have q5:(a:Int)<=(e4:Int):=by omega
    have q6:a<=e4:=by omega
    obtain⟨p,hp⟩:∃p,p=r.take 4:=⟨_,rfl⟩;have hpl:p.length<=4:=by rw[hp,aX];omega
    rw[<-hp] at hx2 hpp;have hsum:mkS o++mkS p=mkS (o++p):=pM o p;have hsum2:mkS (o++p)++mkS [b]=mkS (o++p++[b]):=pM _ _;have HPP:=hid hpp;have HC:=hid hc;have q7:c<=s.size:=by omega
    have hcv:=aKj b;have q8:¬9223372036854775807<o.length+p.length:=by omega
    have q9:¬9223372036854775807<o.length+p.length+1:=by omega
    clear hb hb2 hd hp hpp he4 hc;go_wp2_with fail;refine(hcall _).mono ?_;rintro e w1 ⟨rfl,hb1⟩;go_wp2_with fail
    go_region
    all_goals
     go_wp2_with fail;have hg:=HG.out;have hc:=HC.out;have hbs:=hbel.size;have hb1s:=hb1.size
     go_roundg (s.size-c)
     case measure=>omega
     case rel=>exact⟨c,o++(p++[b]),q7,rfl,by go_num,rfl,hid (by rw[HPP.out,hc,<-HD.out];exact HSt.out),(hbel.trans (hb1.mono hbs)).trans (((aB _ w1).alloc (aA _) _).mono (by omega)).drew⟩
  ·have t1:decide ((a:Int)<(s.size:Int))=false:=decide_eq_false (by omega);have hfin:=HO.out;rw[List.drop_eq_nil_of_le (by rw[HL.out];omega),DL,eE] at hfin;have HF:=hid hfin;clear hfin;go_wp2_with fail;go_ret;exact⟨tY (by rw[HF.out]),hbel⟩
end
section
open Go.Shelf Go.RowKit
def zV:Go.Shelf.Ren:=⟨fun|166=>47|167=>97|169=>48|170=>205|240=>83|276=>121|n=>n,fun|3=>3|4=>4|5=>5|9=>9|20=>20|37=>75|70=>86|72=>88|75=>92|80=>95|127=>142|164=>192|n=>n,fun|n=>n⟩
theorem aQq:Go.Proofs.Lays.n166 Tryz.prog zV:={
 mixed:=by kernel_rfl
 f166:=Tryz.func47.trans (congrArg some (by kernel_rfl))
 f240:=Tryz.func83.trans (congrArg some (by kernel_rfl))
 f276:=Tryz.func121.trans (congrArg some (by kernel_rfl))
 t0:=Tryz.underlying0
 a0:=Tryz.isAgg0
 z0:=Tryz.sizeOf0
 v0:=Tryz.zeroValue0
 t3:=Tryz.underlying3
 a3:=Tryz.isAgg3
 z3:=Tryz.sizeOf3
 v3:=Tryz.zeroValue3
 t4:=Tryz.underlying4
 a4:=Tryz.isAgg4
 z4:=Tryz.sizeOf4
 v4:=Tryz.zeroValue4
 t9:=Tryz.underlying9
 a9:=Tryz.isAgg9
 z9:=Tryz.sizeOf9
 v9:=Tryz.zeroValue9
 t20:=Tryz.underlying20
 a20:=Tryz.isAgg20
 z20:=Tryz.sizeOf20
 v20:=Tryz.zeroValue20
 t37:=Tryz.underlying75
 a37:=Tryz.isAgg75
 z37:=Tryz.sizeOf75
 v37:=Tryz.zeroValue75
 t70:=Tryz.underlying86
 a70:=Tryz.isAgg86
 z70:=Tryz.sizeOf86
 v70:=Tryz.zeroValue86
 t72:=Tryz.underlying88
 a72:=Tryz.isAgg88
 z72:=Tryz.sizeOf88
 v72:=Tryz.zeroValue88
 t75:=Tryz.underlying92
 a75:=Tryz.isAgg92
 z75:=Tryz.sizeOf92
 v75:=Tryz.zeroValue92
 t164:=Tryz.underlying192
 a164:=Tryz.isAgg192
 z164:=Tryz.sizeOf192
 v164:=Tryz.zeroValue192}
theorem aQr:Go.Proofs.Lays.n167 Tryz.prog zV:={
 mixed:=by kernel_rfl
 f167:=Tryz.func97.trans (congrArg some (by kernel_rfl))
 f240:=Tryz.func83.trans (congrArg some (by kernel_rfl))
 f276:=Tryz.func121.trans (congrArg some (by kernel_rfl))
 t0:=Tryz.underlying0
 a0:=Tryz.isAgg0
 z0:=Tryz.sizeOf0
 v0:=Tryz.zeroValue0
 t4:=Tryz.underlying4
 a4:=Tryz.isAgg4
 z4:=Tryz.sizeOf4
 v4:=Tryz.zeroValue4
 t5:=Tryz.underlying5
 a5:=Tryz.isAgg5
 z5:=Tryz.sizeOf5
 v5:=Tryz.zeroValue5
 t9:=Tryz.underlying9
 a9:=Tryz.isAgg9
 z9:=Tryz.sizeOf9
 v9:=Tryz.zeroValue9
 t20:=Tryz.underlying20
 a20:=Tryz.isAgg20
 z20:=Tryz.sizeOf20
 v20:=Tryz.zeroValue20
 t37:=Tryz.underlying75
 a37:=Tryz.isAgg75
 z37:=Tryz.sizeOf75
 v37:=Tryz.zeroValue75
 t70:=Tryz.underlying86
 a70:=Tryz.isAgg86
 z70:=Tryz.sizeOf86
 v70:=Tryz.zeroValue86
 t72:=Tryz.underlying88
 a72:=Tryz.isAgg88
 z72:=Tryz.sizeOf88
 v72:=Tryz.zeroValue88
 t75:=Tryz.underlying92
 a75:=Tryz.isAgg92
 z75:=Tryz.sizeOf92
 v75:=Tryz.zeroValue92
 t164:=Tryz.underlying192
 a164:=Tryz.isAgg192
 z164:=Tryz.sizeOf192
 v164:=Tryz.zeroValue192}
theorem aQs:Go.Proofs.Lays.n169 Tryz.prog zV:={
 mixed:=by kernel_rfl
 f169:=Tryz.func48.trans (congrArg some (by kernel_rfl))
 t0:=Tryz.underlying0
 a0:=Tryz.isAgg0
 z0:=Tryz.sizeOf0
 v0:=Tryz.zeroValue0
 t3:=Tryz.underlying3
 a3:=Tryz.isAgg3
 z3:=Tryz.sizeOf3
 v3:=Tryz.zeroValue3
 t9:=Tryz.underlying9
 a9:=Tryz.isAgg9
 z9:=Tryz.sizeOf9
 v9:=Tryz.zeroValue9
 t37:=Tryz.underlying75
 a37:=Tryz.isAgg75
 z37:=Tryz.sizeOf75
 v37:=Tryz.zeroValue75
 t70:=Tryz.underlying86
 a70:=Tryz.isAgg86
 z70:=Tryz.sizeOf86
 v70:=Tryz.zeroValue86
 t72:=Tryz.underlying88
 a72:=Tryz.isAgg88
 z72:=Tryz.sizeOf88
 v72:=Tryz.zeroValue88
 t127:=Tryz.underlying142
 a127:=Tryz.isAgg142
 z127:=Tryz.sizeOf142
 v127:=Tryz.zeroValue142}
theorem aQt:Go.Proofs.Lays.n170 Tryz.prog zV:={
 mixed:=by kernel_rfl
 f170:=Tryz.func205.trans (congrArg some (by kernel_rfl))
 t0:=Tryz.underlying0
 a0:=Tryz.isAgg0
 z0:=Tryz.sizeOf0
 v0:=Tryz.zeroValue0
 t3:=Tryz.underlying3
 a3:=Tryz.isAgg3
 z3:=Tryz.sizeOf3
 v3:=Tryz.zeroValue3
 t37:=Tryz.underlying75
 a37:=Tryz.isAgg75
 z37:=Tryz.sizeOf75
 v37:=Tryz.zeroValue75
 t70:=Tryz.underlying86
 a70:=Tryz.isAgg86
 z70:=Tryz.sizeOf86
 v70:=Tryz.zeroValue86
 t72:=Tryz.underlying88
 a72:=Tryz.isAgg88
 z72:=Tryz.sizeOf88
 v72:=Tryz.zeroValue88}
theorem MV:Builder.Extra Tryz.prog zV:={
 sizeBuilder:=by kernel_rfl
 liesBuilder:=by kernel_rfl
 t5:=Tryz.underlying5
 a5:=Tryz.isAgg5
 z5:=Tryz.sizeOf5
 v5:=Tryz.zeroValue5
 infoByte:=by kernel_rfl
 cellsByte:=by kernel_rfl
 sizeByte:=by kernel_rfl
 neB5:=by decide}
def Bld (w:World) (B b:Nat) (l:List UInt8):Prop:=Lib.IsBuilderF 88 5 B b (nS l) w
theorem aQu (B b:Nat) (l:List UInt8) (s:ByteArray) (w:World) (h:Bld w B b l) (hlen:l.length+s.size<=140737488355328) (hB:B<=w.heap.size):
  Calls Tryz.prog 47 #[.pointer (some ⟨b,0,none⟩),.string s] w fun e w'=>e=.returned (.tuple #[.int .i64 (s.size:Int),.nilIface])/\Bld w' B b (l++s.data.toList)/\Below B w w'/\GY 5 (some b) w w':=by
 refine(Any.Builder_WriteString_k aQq MV B b (nS l) s w h (by simpa [nS] using hlen) hB).mono ?_;rintro e w' ⟨rfl,h1,h2,h3⟩;refine⟨rfl,.inr ?_,h2,h3⟩;have e:nS (l++s.data.toList)=nS l++Lib.strCells s:=by simp[nS,Lib.strCells]
 rw[e];exact h1
theorem aAm (B b:Nat) (l:List UInt8) (c:UInt8) (w:World) (h:Bld w B b l) (hlen:l.length+1<=140737488355328) (hB:B<=w.heap.size):
  Calls Tryz.prog 97 #[.pointer (some ⟨b,0,none⟩),.int .u8 (c.toNat:Int)] w fun e w'=>e=.returned .nilIface/\Bld w' B b (l++[c])/\Below B w w'/\GY 5 (some b) w w':=by
 refine(Any.Builder_WriteByte_k aQr MV B b (nS l) (c.toNat:Int) w h (by simpa [nS] using hlen) hB).mono ?_;rintro e w' ⟨rfl,h1,h2,h3⟩;refine⟨rfl,.inr ?_,h2,h3⟩;have e:nS (l++[c])=nS l++[Value.int .u8 (c.toNat:Int)]:=by simp[nS]
 rw[e];exact h1
theorem aAn (B b:Nat) (l:List UInt8) (w:World) (h:Bld w B b l) (hB:B<=w.heap.size):
  Calls Tryz.prog 48 #[.pointer (some ⟨b,0,none⟩)] w fun e w'=>e=.returned (.string (mkS l))/\Bld w' B b l/\Below B w w'/\GY 5 (some b) w w':=
 Any.Builder_String_any_k aQs MV B b l w h hB
theorem EW (B b:Nat) (l:List UInt8) (w:World) (h:Bld w B b l):
  Calls Tryz.prog 205 #[.pointer (some ⟨b,0,none⟩)] w fun e w'=>e=.returned (.int .i64 (l.length:Int))/\w'=w:=by
 refine(Any.Builder_Len_f aQt B b (nS l) w h).mono ?_;rintro e w' ⟨rfl,rfl⟩;refine⟨?_,rfl⟩;simp[nS]
end
section
def oD (r:bQ):List (Int×Int):=r.map (fun p=>(p.1,(p.2.root:Int)))
theorem aRf (r:bQ) (h:r≠[]):∃i,∃hi:i<r.length,(bM r).1=r[i]/\(bM r).2=r.eraseIdx i/\(∀j (hj:j<r.length),r[i].1<=r[j].1)/\∀j (hj:j<i),r[i].1<(r[j]'(AX hj hi)).1:=by
 have hl:0<r.length:=kV.2 h;obtain⟨h1,h2,h3⟩:=yN (fun i=>(r.getD i (0,.leaf 0)).1) r.length hl;have hi:bQ.least r<r.length:=h1;have hg:∀j (hj:j<r.length),r.getD j (0,.leaf 0)=r[j]:=fun j hj=>by rw[aV,aN hj];rfl
 refine⟨bQ.least r,hi,by unfold bM;rw[hg _ hi],rfl,fun j hj=>?_,fun j hj=>?_⟩
 ·have:=h2 j hj;rw[hg j hj,show iV (fun i=>(r.getD i (0,.leaf 0)).1) r.length=bQ.least r from rfl,hg _ hi] at this;exact this
 ·have hj2:j<r.length:=AX hj hi;have:=h3 j hj;rw[hg j hj2,show iV (fun i=>(r.getD i (0,.leaf 0)).1) r.length=bQ.least r from rfl,hg _ hi] at this;exact this
theorem aRg {q:List (Int×Int)} {r:bQ} (hq:nN q) (hp:q.Perm (oD r)) (h:r≠[]) (hs:r.Pairwise (fun p q=>p.2.root<q.2.root)):q.getD 0 (0,0)=((bM r).1.1,((bM r).1.2.root:Int)):=by
 obtain⟨i,hi,e1,_,h2,h3⟩:=aRf r h;rw[e1];have hq0:0<q.length:=by
  rw[hp.length_eq];unfold oD;rw[List.length_map];exact kV.2 h
 have hmem:q.getD 0 (0,0)∈oD r:=by
  rw[<-hp.mem_iff,aV,aN hq0];exact gT hq0
 obtain⟨p,hpr,hpe⟩:=dU.1 hmem;obtain⟨j,hj,rfl⟩:=qA.1 hpr;have hai:(r[i].1,(r[i].2.root:Int))∈q:=hp.mem_iff.2 (dU.2 ⟨r[i],gT hi,rfl⟩);obtain⟨k,hk,hke⟩:=qA.1 hai;have hn:=hq.least k hk;rw[aV,aN hk] at hn;simp only[Option.getD_some] at hn;rw[hke,<-hpe] at hn;unfold ahd at hn;simp only at hn;have hle:=h2 j hj;rcases Nat.lt_trichotomy j i with q1|q1|q1
 ·have:=h3 j q1;omega
 ·subst q1;exact hpe.symm
 ·have:=xO.1 hs i j hi hj q1;omega
theorem aRh {r:bQ} (h:r≠[]):(((bM r).1.1,((bM r).1.2.root:Int))::oD (bM r).2).Perm (oD r):=by
 have:=(uO r h).2.2.1;exact this.map (fun p=>(p.1,(p.2.root:Int)))
theorem aRi {r:bQ} (hs:r.Pairwise (fun p q=>p.2.root<q.2.root)):(bM r).2.Pairwise (fun p q=>p.2.root<q.2.root):=hs.sublist (NY ..)
end
section
open Go.RowKit
theorem aT6 {l m:List Int} {k:Nat} {x y:Int} (h:l.take k=m.take k) (hl:l[k]? =some x) (hm:m[k]? =some y) (he:x=y):l.take (k+1)=m.take (k+1):=by
 rw[cQ,cQ,h,hl,hm,he]
theorem aT7 (va vb:Value) (la lb:List Int) (w:World) (ha:RdI w va la) (hb:RdI w vb lb):
  Calls Tryz.prog 40 #[va,vb] w fun e w'=>e=.returned (.bool (la==lb))/\Below w.heap.size w w':=by
 obtain⟨a,ca,rfl,hca,hma,hA⟩:=ha.open;obtain⟨b,cb,rfl,hcb,hmb,hB⟩:=hb.open;clear ha hb;unfold maxLen at hma hmb
 by_cases hl:la.length=lb.length
 case neg=>
  have hne:la≠lb:=fun e=>hl (by rw[e])
  have hd:((la.length:Int) != (lb.length:Int))=true:=by rw[bne_iff_ne];omega
  go_enter Tryz.func40,Tryz.ntmps40;go_wp2;go_ret;exact⟨sN (by rw[beq_eq_false_iff_ne.2 hne]),aB _ _⟩
 case pos=>
  have hd:((la.length:Int) != (lb.length:Int))=false:=by rw[bne_eq_false_iff_eq];omega
  have HL:=hid hl;have hle:la.length<=lb.length:=by omega
  have hle':lb.length<=la.length:=by omega
  clear hl;go_enter Tryz.func40,Tryz.ntmps40;go_wp2
  go_loopw [5] (fun i wr=>∃k:Nat,k<=la.length/\i=.int .i64 k/\Hid (la.take k=lb.take k)/\Below w.heap.size w wr) (fun i _=>la.length-(intOf i).toNat)
  case atStart=>exact⟨0,aU _,rfl,hid rfl,aB _ _⟩
  case round=>
   obtain⟨k,hk,rfl,HT,hbel⟩:=hrel
   by_cases hlt:k<la.length
   ·obtain⟨b1,o1,rfl,hb1,hc1⟩:=hA (by omega);obtain⟨b2,o2,rfl,hb2,hc2⟩:=hB (by omega);obtain⟨x,hx⟩:=dH hlt;obtain⟨y,hy⟩:=dH (l:=lb) (k:=k) (by omega);have c1:wr.cell? ⟨b1,o1+k,none⟩=some (.int .i64 x):=by rw[hbel.cell (p:=⟨b1,o1+k,none⟩) hb1];exact hc1 k _ hx
    have c2:wr.cell? ⟨b2,o2+k,none⟩=some (.int .i64 y):=by rw[hbel.cell (p:=⟨b2,o2+k,none⟩) hb2];exact hc2 k _ hy
    have HX:=hid hx;have HY:=hid hy;clear hc1 hc2 hA hB hx hy;go_wp2
    go_quiet (fail)
    go_wp2
    ·have h:(x != y)=true:=by assumption
     go_ret;refine⟨sN ?_,below_drewN hbel _⟩;have h':x≠y:=by simpa using h
     rw[eq_comm,beq_eq_false_iff_ne];intro e;have:=HX.out;rw[e,HY.out] at this;exact h' (by simpa using this.symm)
    ·have h:(x != y)=false:=by assumption
     go_roundw
     case rel=>exact⟨k+1,by omega,by go_num,hid (aT6 HT.out HX.out HY.out (by simpa using h)),below_drewN hbel _⟩
     case measure=>simp[intOf];omega
   ·go_wp2;go_ret;exact⟨sN (by
     have e:=HT.out;rw[cS (by omega),cS (by omega)] at e;simp[e]),hbel⟩
theorem aT9 (va vb:Value) (l:List Int) (w:World) (ha:RdI w va l) (hb:RdI w vb l):
  Calls Tryz.prog 40 #[va,vb] w fun e w'=>e=.returned (.bool true)/\Below w.heap.size w w':=
 (aT7 va vb l l w ha hb).mono fun e w' ⟨h1,h2⟩=>⟨by rw[h1];exact sN (by simp),h2⟩
end
end Go.Proofs.YtpgmbhpbgkljdaaGreatDoor
