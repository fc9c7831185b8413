/-
  Texts put together (part 4): the walks and the plain laws on which the statement stands.
-/
import Derived.StillTailTactics
import Derived.Shelf.Strings.Builder1
import Derived.Shelf.Strings.BuilderF
import Derived.Shelf.Strings.BuilderK
import Derived.Shelf.Strings.Prefix
import Derived.Shelf.Slices.Turned
import Derived.Test.YtjkjeamepgjicaaGreatDoorProg
import Derived.Deep.Cut
import Derived.Laws.IdiomCopy
import Derived.Lib.BytesEntry
import Derived.Lib.ConvBytes
import Derived.RangeFuncNested
import Derived.RangeFuncBound
import Derived.RangeFuncCalls
import Derived.RangeFuncLeaves
import Derived.RangeFuncBox
import Derived.Shelf.RegionOpen
import Derived.OwnWalkIn
import Derived.TacticsInMore
import Derived.LoopNIn
import Derived.LoopIn
import Derived.Test.YtjkjeamepgjicaaGreatDoorZ2
import Derived.Test.YtjkjeamepgjicaaGreatDoorZ3
set_option maxRecDepth 100000
set_option maxHeartbeats 12800000
set_option linter.unusedVariables false
set_option linter.unusedSimpArgs false
open Array renaming getElem?_eq_some_iff->gQ,replicate_succ->lL,replicate_zero->lM
open BitVec renaming toNat_shiftLeft->GP
open Classical renaming byContradiction->aCc
open Go renaming CallsIn->mD,Operand->iM,bodyPost_ret->gJ,callsIn_of_wp->tW,heap_setCell_other->kT,run_underlying->sI,wpList_plain->AD
open Go.Addr renaming add->iN
open Go.Instr renaming index->tV
open Go.IntKind renaming u32->rA,wrap_u32'->aCs
open Go.Lib renaming IsBuilderF->aTu,byteCells->nS
open Go.Oper renaming wp->lX
open Go.Result renaming andThen->jB
open Go.RowKit.Below renaming refl->aB
open Go.Value renaming int->bO
open Go.World renaming cell?_of_block->oK,cell?_setCells_out->aTi,grownBy_alloc->AV
open Int renaming le_refl->lJ
open List renaming append_assoc->cF,append_nil->eE,append_toArray->lO,cons_append->gE,getElem?_append_left->gS,getElem?_append_right->jY,getElem?_drop->gR,getElem?_eq_getElem->aN,getElem?_eq_none->dL,getElem?_eq_some_iff->eU,getElem?_map->dY,getElem?_set_ne->qU,getElem?_take_of_lt->mB,length_append->aL,length_cons->cR,length_drop->cI,length_map->bJ,length_nil->cX,length_take->aX,mem_map->dU,nil_append->iG,push_toArray->lN,range->dG,size_toArray->mY,take_add_one->cQ,take_of_length_le->cS
open Nat renaming add_assoc->dZ,eq_zero_or_pos->fJ,le_refl->aA,le_trans->aW,lt_of_lt_of_le->dR,lt_or_ge->bT,lt_trichotomy->pW,mod_add_div->NU,reduceAdd->lZ,reduceSub->mZ,shiftLeft_eq->GQ,zero_le->aU
open Option renaming toList_some->mX
open Option.some renaming inj->bW
open UInt8 renaming ofNat->eK
namespace Go.Proofs.YtjkjeamepgjicaaGreatDoor
def gH (f:Nat->Int) (i:Nat) (x:Int):Nat->Int:=fun k=>if k=i then x else f k
def iU (a b:Nat) (f g:Nat->Int):Prop:=(∀k,a<=k->k<b->∃k',a<=k'/\k'<b/\g k=f k')/\(∀k,¬(a<=k/\k<b)->g k=f k)
theorem iU.refl (a b:Nat) (f:Nat->Int):iU a b f f:=⟨fun k h1 h2=>⟨k,h1,h2,rfl⟩,fun _ _=>rfl⟩
theorem iU.trans {a b:Nat} {f g h:Nat->Int} (p:iU a b f g) (q:iU a b g h):iU a b f h:=
 ⟨fun k h1 h2=>by
  obtain⟨k',h3,h4,h5⟩:=q.1 k h1 h2;obtain⟨k'',h6,h7,h8⟩:=p.1 k' h3 h4;exact⟨k'',h6,h7,by rw[h5,h8]⟩,fun k hk=>by rw[q.2 k hk,p.2 k hk]⟩
theorem iU.wide {a b a' b':Nat} {f g:Nat->Int} (p:iU a b f g) (ha:a'<=a) (hb:b<=b'):iU a' b' f g:=
 ⟨fun k h1 h2=>by
  by_cases h:a<=k/\k<b
  ·obtain⟨k',h3,h4,h5⟩:=p.1 k h.1 h.2;exact⟨k',by omega,by omega,h5⟩
  ·exact⟨k,h1,h2,p.2 k h⟩,fun k hk=>p.2 k (by omega)⟩
section
variable (lt:Int->Int->Prop)
def gM (f:Nat->Int) (a b:Nat):Prop:=∀i j,a<=i->i<j->j<b->lt (f i) (f j)
structure rI:Prop where
 tr:∀x y z,lt x y->lt y z->lt x z
 tot:∀x y,x≠y->lt x y\/lt y x
 irr:∀x,¬lt x x
variable {lt}
theorem gM.mono {f:Nat->Int} {a b a' b':Nat} (h:gM lt f a b) (ha:a<=a') (hb:b'<=b):gM lt f a' b':=
 fun i j h1 h2 h3=>h i j (by omega) h2 (by omega)
structure lC (lt:Int->Int->Prop) (f:Nat->Int) (a m b:Nat):Prop where
 am:a<m
 mb:m<b
 s1:gM lt f a m
 s2:gM lt f m b
 ne:∀i j,a<=i->i<m->m<=j->j<b->f i<f j
structure kX (lt:Int->Int->Prop) (f g:Nat->Int) (a b:Nat):Prop where
 frm:iU a b f g
 srt:gM lt g a b
end
end Go.Proofs.YtjkjeamepgjicaaGreatDoor
namespace Go.Proofs.YtjkjeamepgjicaaGreatDoor
open Go.RowKit
def Dat (w:World) (g cap n:Nat) (f:Nat->Int):Prop:=
 ∃cur:Array Value,w.heap[g]? =some (.cells cur 3 (0,0))/\cur.size=cap/\n<=cap/\∀k,k<n->cur[k]? =some (.int .i64 (f k))
theorem Dat.lt {w:World} {g cap n:Nat} {f:Nat->Int} (h:Dat w g cap n f):g<w.heap.size:=by
 obtain⟨cur,h,_⟩:=h;exact(gQ.1 h).1
theorem Dat.cell {w:World} {g cap n:Nat} {f:Nat->Int} (h:Dat w g cap n f) {k:Nat} (hk:k<n):w.cell? ⟨g,k,none⟩=some (.int .i64 (f k)):=by
 obtain⟨cur,h,_,_,hc⟩:=h;rw[cell_of_row w g k _ _ (0,0) h];exact hc k hk
theorem Dat.free {w:World} {g cap n:Nat} {f:Nat->Int} (h:Dat w g cap n f) (k:Nat):w.frozen? ⟨g,k,none⟩=false:=by
 obtain⟨cur,h,_⟩:=h;exact frozen_of_row w g k _ _ h
theorem Dat.set {w:World} {g cap n:Nat} {f:Nat->Int} (h:Dat w g cap n f) (k:Nat) (x:Int):Dat (w.setCell ⟨g,k,none⟩ (.int .i64 x)) g cap n (gH f k x):=by
 obtain⟨cur,h,hs,hn,hc⟩:=h;refine⟨cur.setIfInBounds k (.int .i64 x),heap_setCell_same w g k _ _ _ h,by simpa using hs,hn,fun j hj=>?_⟩;unfold gH
 by_cases e:j=k
 ·subst e;simp[show j<cur.size by omega]
 ·rw[if_neg e,Array.getElem?_setIfInBounds_ne (fun h=>e h.symm)];exact hc j hj
theorem Dat.grown {w w':World} {g cap n:Nat} {f:Nat->Int} {row:Option Nat} (h:Dat w g cap n f) (hg:w.grownBy w' row) (hne:some g≠row):Dat w' g cap n f:=by
 have hl:=h.lt;obtain⟨cur,h,hr⟩:=h;exact⟨cur,by rw[hg.block g hl hne];exact h,hr⟩
theorem Dat.below {w w':World} {g cap n B:Nat} {f:Nat->Int} (h:Dat w g cap n f) (hb:Below B w w') (hB:g<B):Dat w' g cap n f:=by
 obtain⟨cur,h,hr⟩:=h;exact⟨cur,by rw[hb.block g hB];exact h,hr⟩
theorem Dat.drewN {w:World} {g cap n:Nat} {f:Nat->Int} (h:Dat w g cap n f) (k:Nat):Dat (w.drewN k) g cap n f:=h
theorem Dat.drew {w:World} {g cap n:Nat} {f:Nat->Int} (h:Dat w g cap n f):Dat w.drew g cap n f:=h
theorem dS {a b c:World} {row:Option Nat} (h:a.grownBy b row) (k:b.grownBy c row):a.grownBy c row:=
 ⟨k.os.trans h.os,k.tape.trans h.tape,k.output.trans h.output,aW h.size k.size,fun i hi hne=>(k.block i (dR hi h.size) hne).trans (h.block i hi hne)⟩
theorem eM (a:World) (g k:Nat) (v:Value):a.grownBy (a.setCell ⟨g,k,none⟩ v) (some g):=
 ⟨rfl,rfl,rfl,by simp[World.setCell],fun i _ hne=>Below.heap_setCell _ _ _ _ (fun e=>hne (by rw[e]))⟩
theorem nC {a b:World} {row:Option Nat} (h:a.grownBy b row):a.grownBy b.drew row:=⟨h.os,h.tape,h.output,h.size,h.block⟩
def InR (n:Nat) (f:Nat->Int):Prop:=∀k,k<n->0<=f k/\f k<(n:Int)
theorem InR.from {n a b:Nat} {f g:Nat->Int} (h:InR n f) (hb:b<=n) (p:iU a b f g):InR n g:=fun k hk=>by
 by_cases hc:a<=k/\k<b
 ·obtain⟨k',h1,h2,h3⟩:=p.1 k hc.1 hc.2;rw[h3];exact h k' (by omega)
 ·rw[p.2 k hc];exact h k hk
structure Cmp (lt:Int->Int->Prop) (klt:Int->Int->Bool):Prop where
 S:rI lt
 iff:∀x y,x<y->(klt y x=true↔lt y x)
structure lS (lt:Int->Int->Prop) (f g:Nat->Int) (a b:Nat):Prop where
 frm:∀k,a<=k->k<b->∃k',a<=k'/\k'<b/\g k=f k'
 srt:gM lt g a b
end Go.Proofs.YtjkjeamepgjicaaGreatDoor
namespace Go.Proofs.YtjkjeamepgjicaaGreatDoor
section
variable {c:Nat->Nat}
def eqm (c:Nat->Nat) (m a b:Nat):Prop:=∀t,t<m->c (a+t)=c (b+t)
def ltm (c:Nat->Nat) (m a b:Nat):Prop:=∃t,t<m/\(∀u,u<t->c (a+u)=c (b+u))/\c (a+t)<c (b+t)
theorem eqm.refl (m a:Nat):eqm c m a a:=fun _ _=>rfl
theorem eqm.symm {m a b:Nat} (h:eqm c m a b):eqm c m b a:=fun t ht=>(h t ht).symm
theorem eqm.trans {m a b d:Nat} (h:eqm c m a b) (k:eqm c m b d):eqm c m a d:=fun t ht=>(h t ht).trans (k t ht)
theorem ltm.trans {m a b d:Nat} (h:ltm c m a b) (k:ltm c m b d):ltm c m a d:=by
 obtain⟨t,t1,t2,t3⟩:=h;obtain⟨u,u1,u2,u3⟩:=k;rcases pW t u with p|p|p
 ·exact⟨t,t1,fun v hv=>(t2 v hv).trans (u2 v (by omega)),by rw[<-u2 t p];exact t3⟩
 ·subst p;exact⟨t,t1,fun v hv=>(t2 v hv).trans (u2 v hv),by omega⟩
 ·exact⟨u,u1,fun v hv=>(t2 v (by omega)).trans (u2 v hv),by rw[t2 u p];exact u3⟩
theorem ltm.not_eqm {m a b:Nat} (h:ltm c m a b):¬eqm c m a b:=fun k=>by
 obtain⟨t,t1,_,t3⟩:=h;have:=k t t1;omega
theorem ltm.irrefl {m a:Nat}:¬ltm c m a a:=fun h=>h.not_eqm (eqm.refl m a)
theorem ltm.asymm {m a b:Nat} (h:ltm c m a b):¬ltm c m b a:=fun k=>ltm.irrefl (h.trans k)
theorem ltm.eqm {m a b d:Nat} (h:ltm c m a b) (k:eqm c m b d):ltm c m a d:=by
 obtain⟨t,t1,t2,t3⟩:=h;exact⟨t,t1,fun v hv=>(t2 v hv).trans (k v (by omega)),by rw[<-k t t1];exact t3⟩
theorem eqm.ltm {m a b d:Nat} (h:eqm c m a b) (k:ltm c m b d):ltm c m a d:=by
 obtain⟨t,t1,t2,t3⟩:=k;exact⟨t,t1,fun v hv=>(h v (by omega)).trans (t2 v hv),by rw[h t t1];exact t3⟩
theorem uL (c:Nat->Nat) (a b:Nat):∀m,ltm c m a b\/eqm c m a b\/ltm c m b a:=by
 intro m
 induction m with
 |zero=>exact .inr (.inl (fun t h=>by omega))
 |succ m ih=>
  rcases ih with⟨t,t1,t2,t3⟩|h|⟨t,t1,t2,t3⟩
  ·exact .inl ⟨t,by omega,t2,t3⟩
  ·rcases pW (c (a+m)) (c (b+m)) with p|p|p
   ·exact .inl ⟨m,by omega,fun u hu=>h u hu,p⟩
   ·refine .inr (.inl (fun t ht=>?_));rcases bT t m with q|q
    ·exact h t q
    ·have:t=m:=by omega
     rw[this];exact p
   ·exact .inr (.inr ⟨m,by omega,fun u hu=>(h u hu).symm,p⟩)
  ·exact .inr (.inr ⟨t,by omega,t2,t3⟩)
theorem QW (m k a b:Nat):ltm c (m+k) a b↔ltm c m a b\/(eqm c m a b/\ltm c k (a+m) (b+m)):=by
 constructor
 ·rintro⟨t,t1,t2,t3⟩;rcases bT t m with p|p
  ·exact .inl ⟨t,p,t2,t3⟩
  ·refine .inr ⟨fun u hu=>t2 u (by omega),t-m,by omega,fun u hu=>?_,?_⟩
   ·have:=t2 (m+u) (by omega);rwa[<-dZ,<-dZ] at this
   ·rw[dZ,dZ,Nat.add_sub_cancel' p];exact t3
 ·rintro(⟨t,t1,t2,t3⟩|⟨h,t,t1,t2,t3⟩)
  ·exact⟨t,by omega,t2,t3⟩
  ·refine⟨m+t,by omega,fun u hu=>?_,by rw[<-dZ,<-dZ];exact t3⟩;rcases bT u m with p|p
   ·exact h u p
   ·have:=t2 (u-m) (by omega);rwa[dZ,dZ,Nat.add_sub_cancel' p] at this
def Cyc (c:Nat->Nat) (n:Nat):Prop:=∀i,c (i+n)=c i
theorem Cyc.mul {n:Nat} (h:Cyc c n) (i q:Nat):c (i+n*q)=c i:=by
 induction q with
 |zero=>rfl
 |succ q ih=>rw[Nat.mul_succ,<-dZ,h,ih]
theorem Cyc.mod {n:Nat} (h:Cyc c n) (i:Nat):c (i%n)=c i:=by
 have:=h.mul (i%n) (i/n);rw[NU] at this;exact this.symm
theorem Cyc.mod_add {n:Nat} (h:Cyc c n) (i t:Nat):c (i%n+t)=c (i+t):=by
 rw[<-h.mod (i%n+t),<-h.mod (i+t),Nat.mod_add_mod]
theorem Cyc.ltm {n:Nat} (h:Cyc c n) (m a b:Nat):ltm c m (a%n) (b%n)↔ltm c m a b:=by
 unfold Go.Proofs.YtjkjeamepgjicaaGreatDoor.ltm;simp only[h.mod_add]
theorem Cyc.eqm {n:Nat} (h:Cyc c n) (m a b:Nat):eqm c m (a%n) (b%n)↔eqm c m a b:=by
 unfold Go.Proofs.YtjkjeamepgjicaaGreatDoor.eqm;simp only[h.mod_add]
theorem Cyc.all {n:Nat} (h:Cyc c n) (hn:0<n) {m a b:Nat} (hm:n<=m):(Go.Proofs.YtjkjeamepgjicaaGreatDoor.eqm c m a b↔Go.Proofs.YtjkjeamepgjicaaGreatDoor.eqm c n a b)/\(Go.Proofs.YtjkjeamepgjicaaGreatDoor.ltm c m a b↔Go.Proofs.YtjkjeamepgjicaaGreatDoor.ltm c n a b):=by
 have key:Go.Proofs.YtjkjeamepgjicaaGreatDoor.eqm c n a b->Go.Proofs.YtjkjeamepgjicaaGreatDoor.eqm c m a b:=fun k t _=>by
  have e:∀x,c (x+t)=c (x+t%n):=fun x=>by
   have:=h.mul (x+t%n) (t/n);rw[dZ,NU] at this;exact this
  rw[e a,e b];exact k (t%n) (Nat.mod_lt _ hn)
 refine⟨⟨fun k t ht=>k t (by omega),key⟩,⟨fun k=>?_,fun⟨t,t1,t2,t3⟩=>⟨t,by omega,t2,t3⟩⟩⟩;rcases uL c a b n with p|p|p
 ·exact p
 ·exact absurd (key p) k.not_eqm
 ·obtain⟨t,t1,t2,t3⟩:=p;exact absurd ⟨t,by omega,t2,t3⟩ k.asymm
def bef (c:Nat->Nat) (m:Nat) (x y:Int):Prop:=ltm c m x.toNat y.toNat\/(eqm c m x.toNat y.toNat/\x<y)
theorem vW (c:Nat->Nat) (m:Nat):rI (bef c m):=by
 refine⟨?_,?_,?_⟩
 ·rintro x y z (h|⟨h,h'⟩) (k|⟨k,k'⟩)
  ·exact .inl (h.trans k)
  ·exact .inl (h.eqm k)
  ·exact .inl (h.ltm k)
  ·exact .inr ⟨h.trans k,by omega⟩
 ·intro x y hne;rcases uL c x.toNat y.toNat m with p|p|p
  ·exact .inl (.inl p)
  ·rcases Int.lt_or_gt_of_ne hne with q|q
   ·exact .inl (.inr ⟨p,q⟩)
   ·exact .inr (.inr ⟨p.symm,q⟩)
  ·exact .inr (.inl p)
 ·rintro x (h|⟨_,h⟩)
  ·exact ltm.irrefl h
  ·omega
structure Ord (c:Nat->Nat) (n m:Nat) (o:Nat->Int):Prop where
 rng:∀k,k<n->0<=o k/\o k<(n:Int)
 srt:gM (bef c m) o 0 n
theorem Ord.ne {n m:Nat} {o:Nat->Int} (h:Ord c n m o) {i j:Nat} (hi:i<n) (hj:j<n) (hij:i≠j):o i≠o j:=by
 intro e;rcases Nat.lt_or_gt_of_ne hij with p|p
 ·have:=h.srt i j (aU _) p hj;rw[e] at this;exact(vW c m).irr _ this
 ·have:=h.srt j i (aU _) p hi;rw[e] at this;exact(vW c m).irr _ this
theorem Ord.onto {n m:Nat} {o:Nat->Int} (h:Ord c n m o) {y:Nat} (hy:y<n):∃k,k<n/\o k=(y:Int):=by
 apply aCc;intro hno;obtain⟨a,b,hab,hb,e⟩:=php n (fun k=>if k<n then(o k).toNat else y) (fun k hk=>by
  show(if k<n then(o k).toNat else y)<n
  by_cases p:k<n
  ·rw[if_pos p];have:=h.rng k p;omega
  ·rw[if_neg p];exact hy)
 have e':(if a<n then(o a).toNat else y)=(if b<n then(o b).toNat else y):=e;rw[if_pos (by omega:a<n)] at e';have ra:=h.rng a (by omega)
 by_cases p:b<n
 ·rw[if_pos p] at e';have rb:=h.rng b p;exact h.ne (i:=a) (j:=b) (by omega) p (by omega) (by omega)
 ·rw[if_neg p] at e';exact hno ⟨a,by omega,by omega⟩
end
end Go.Proofs.YtjkjeamepgjicaaGreatDoor
namespace Go.Proofs
open Go.Shelf
def Tryz.lays170_ren:Go.Shelf.Ren:=⟨fun|170=>69|n=>n,fun|70=>154|3=>3|0=>0|72=>156|37=>40|5=>5|n=>n,fun|n=>n⟩
theorem Tryz.lays170:Go.Proofs.Lays.n170 Tryz.prog Tryz.lays170_ren:={
 mixed:=by kernel_rfl
 f170:=Tryz.func69.trans (congrArg some (by kernel_rfl))
 t0:=Tryz.underlying0
 a0:=Tryz.isAgg0
 z0:=Tryz.sizeOf0
 v0:=Tryz.zeroValue0
 t3:=Tryz.underlying3
 a3:=Tryz.isAgg3
 z3:=Tryz.sizeOf3
 v3:=Tryz.zeroValue3
 t37:=Tryz.underlying40
 a37:=Tryz.isAgg40
 z37:=Tryz.sizeOf40
 v37:=Tryz.zeroValue40
 t70:=Tryz.underlying154
 a70:=Tryz.isAgg154
 z70:=Tryz.sizeOf154
 v70:=Tryz.zeroValue154
 t72:=Tryz.underlying156
 a72:=Tryz.isAgg156
 z72:=Tryz.sizeOf156
 v72:=Tryz.zeroValue156}
def Tryz.lays169_ren:Go.Shelf.Ren:=⟨fun|169=>71|n=>n,fun|70=>154|9=>9|0=>0|72=>156|37=>40|127=>197|3=>3|5=>5|n=>n,fun|n=>n⟩
theorem Tryz.lays169:Go.Proofs.Lays.n169 Tryz.prog Tryz.lays169_ren:={
 mixed:=by kernel_rfl
 f169:=Tryz.func71.trans (congrArg some (by kernel_rfl))
 t0:=Tryz.underlying0
 a0:=Tryz.isAgg0
 z0:=Tryz.sizeOf0
 v0:=Tryz.zeroValue0
 t3:=Tryz.underlying3
 a3:=Tryz.isAgg3
 z3:=Tryz.sizeOf3
 v3:=Tryz.zeroValue3
 t9:=Tryz.underlying9
 a9:=Tryz.isAgg9
 z9:=Tryz.sizeOf9
 v9:=Tryz.zeroValue9
 t37:=Tryz.underlying40
 a37:=Tryz.isAgg40
 z37:=Tryz.sizeOf40
 v37:=Tryz.zeroValue40
 t70:=Tryz.underlying154
 a70:=Tryz.isAgg154
 z70:=Tryz.sizeOf154
 v70:=Tryz.zeroValue154
 t72:=Tryz.underlying156
 a72:=Tryz.isAgg156
 z72:=Tryz.sizeOf156
 v72:=Tryz.zeroValue156
 t127:=Tryz.underlying197
 a127:=Tryz.isAgg197
 z127:=Tryz.sizeOf197
 v127:=Tryz.zeroValue197}
theorem Tryz.Builder_Extra_169:Builder.Extra Tryz.prog Tryz.lays169_ren:={
 sizeBuilder:=by kernel_rfl
 liesBuilder:=by kernel_rfl
 t5:=Tryz.underlying5
 a5:=Tryz.isAgg5
 z5:=Tryz.sizeOf5
 v5:=Tryz.zeroValue5
 infoByte:=by kernel_rfl
 cellsByte:=by kernel_rfl
 sizeByte:=by kernel_rfl
 neB5:=by decide}
open Go.RowKit in
theorem Tryz.Builder_Len_f (B b:Nat) (bs:List Value) (w:World) (h:aTu 156 5 B b bs w):
  Calls Tryz.prog 69 #[.pointer (some ⟨b,0,none⟩)] w fun e w'=>e=.returned (.int .i64 bs.length)/\w'=w:=Any.Builder_Len_f Tryz.lays170 B b bs w h
open Go.RowKit in
theorem Tryz.Builder_String_any_k (B b:Nat) (l:List UInt8) (w:World) (h:aTu 156 5 B b (nS l) w) (hBw:B<=w.heap.size):
  Calls Tryz.prog 71 #[.pointer (some ⟨b,0,none⟩)] w fun e w'=>e=.returned (.string ⟨l.toArray⟩)/\(aTu 156 5 B b (nS l) w'/\Below B w w'/\Lib.OthersKept 5 (some b) w w'):=Any.Builder_String_any_k Tryz.lays169 Tryz.Builder_Extra_169 B b l w h hBw
end Go.Proofs
namespace Go.Proofs.YtjkjeamepgjicaaGreatDoor
open Go.RowKit
theorem iI {B:Nat} {a b:World} (h:Below B a b) (n:Nat):Below B a (b.drewN n):=⟨h.os,h.tape,h.output,h.size,h.block⟩
end Go.Proofs.YtjkjeamepgjicaaGreatDoor
namespace Go.Proofs.YtjkjeamepgjicaaGreatDoor
open Go.RowKit Go.Shelf
def RC (w0:World) (g:Nat) (caps:Array Value) (p:Int->Bool) (l:List Int):Prop:=
 ∀W,Below w0.heap.size w0 W->∀x∈l,Calls Tryz.prog g (#[bO .i64 x]++caps) W fun e W'=>e=.returned (.bool (p x))/\W'=W
theorem RD (g:Nat) (caps:Array Value) (p:Int->Bool) (v:Value) (l:List Int) (w:World) (hr:RdI w v l) (hg:Enters Tryz.prog g) (hp:RC w g caps p l):
  Calls Tryz.prog 98 #[v,.func (.func g) #[] caps] w fun e w'=>e=.returned (.int .i64 (fP p l))/\w'=w:=by
 obtain⟨a,ca,rfl,hca,hma,hA⟩:=hr.open;unfold maxLen at hma;clear hr;have HP:=hid hp;have hE:∀args W,(callFunc g args).run Tryz.prog W=.ok (.enter g args) W:=hg;clear hp hg;go_enter Tryz.func98,Tryz.ntmps98;go_wp2_with fail
 go_loopg [8] l.length (fun gh s8 wr=>∃k:Nat,k<=l.length/\gh=l.length-k/\s8=.int .i64 k/\Hid (∀x∈l.take k,p x=false)/\wr=w)
 case atStart=>exact⟨0,aU _,rfl,rfl,hid (fun x hx=>by simp at hx),rfl⟩
 case round=>
  obtain⟨k,hk,hg,rfl,HT,rfl⟩:=hrel;have HG:=hid hg;clear hg
  by_cases hlt:k<l.length
  ·obtain⟨b1,o1,rfl,hb1,hc1⟩:=hA (by omega);obtain⟨x,hx⟩:=dH hlt;have c1:=hc1 k x hx;have hmem:x∈l:=List.mem_of_getElem? hx;have HX:=hid hx;have hP:=HP.out _ (aB _ wr) x hmem;clear hc1 hx hA;go_wp2_with fail;refine hP.mono ?_;rintro e w1 ⟨rfl,rfl⟩
   by_cases hpx:p x=true
   ·rw[hpx];go_wp2_with fail;go_ret;refine⟨fX ?_,rfl⟩;rw[BR HT.out hlt (by have:=HX.out;rw[aN hlt] at this;rw[bW this];exact hpx)]
   ·have hpf:p x=false:=by simpa using hpx
    rw[hpf];go_wp2_with fail;have hg:=HG.out
    go_roundg (l.length-(k+1))
    case measure=>omega
    case rel=>
     refine⟨k+1,by omega,rfl,by go_num,hid (fun y hy=>?_),rfl⟩;rw[cQ,HX.out] at hy;rcases List.mem_append.1 hy with hy|hy
     ·exact HT.out y hy
     ·simp at hy;rw[hy];exact hpf
  ·go_wp2_with fail;go_ret;exact⟨fX (by rw[oN];have:=HT.out;rwa[cS (by omega)] at this),rfl⟩
theorem uN (g:Nat) (caps:Array Value) (p:Int->Bool) (v:Value) (l:List Int) (w:World) (hr:RdI w v l) (hg:Enters Tryz.prog g) (hp:RC w g caps p l):
  Calls Tryz.prog 85 #[v,.func (.func g) #[] caps] w fun e w'=>e=.returned (.bool (decide (0<=fP p l)))/\w'=w:=by
 have HI:=hid (RD g caps p v l w hr hg hp);obtain⟨i,hi⟩:∃i,i=fP p l:=⟨_,rfl⟩;rw[<-hi] at HI ⊢;clear hr hg hp hi;go_enter Tryz.func85,Tryz.ntmps85;go_wp2_with fail;refine HI.out.mono ?_;rintro e w1 ⟨rfl,rfl⟩;go_wp2_with fail;go_ret;exact⟨rfl,rfl⟩
theorem aF6 (x:Int) (w:World):Calls Tryz.prog 109 #[.int .i64 x] w fun e w'=>e=.returned (.bool (decide (x<0)))/\w'=w:=by
 go_enter Tryz.func109,Tryz.ntmps109;go_wp2;go_ret;exact⟨rfl,rfl⟩
theorem aF8 (x t:Int) (b:Addr) (w:World) (hc:w.cell? b=some (.int .i64 t)):Calls Tryz.prog 110 #[.int .i64 x,.pointer (some b)] w fun e w'=>e=.returned (.bool (decide (t<x)))/\w'=w:=by
 go_enter Tryz.func110,Tryz.ntmps110;go_wp2;go_ret;exact⟨rfl,rfl⟩
theorem aF9 (x:Int) (w:World):Calls Tryz.prog 111 #[.int .i64 x] w fun e w'=>e=.returned (.bool (!(x==0)&& !(x==1)))/\w'=w:=by
 by_cases h0:x=0
 ·subst h0;go_enter Tryz.func111,Tryz.ntmps111;go_wp2;go_ret;exact⟨rfl,rfl⟩
 ·have t0:(x != 0)=true:=by rw[bne_iff_ne];exact h0
  by_cases h1:x=1
  ·subst h1;go_enter Tryz.func111,Tryz.ntmps111;go_wp2;go_ret;exact⟨rfl,rfl⟩
  ·have t1:(x != 1)=true:=by rw[bne_iff_ne];exact h1
   go_enter Tryz.func111,Tryz.ntmps111;go_wp2;go_ret;exact⟨sN (by simp[h0,h1]),rfl⟩
theorem JI (v:Value) (l:List Int) (w:World) (hr:RdI w v l):
  Calls Tryz.prog 99 #[v] w fun e w'=>e=.returned (.bool (decide (0<=fP (fun x=>decide (x<0)) l)))/\w'=w:=by
 have HI:=hid (uN 109 #[] (fun x=>decide (x<0)) v l w hr (enters_of Tryz.func109 (by kernel_rfl) rfl) (fun W _ x _=>aF6 x W));obtain⟨i,hi⟩:∃i,i=decide (0<=fP (fun x=>decide (x<0)) l):=⟨_,rfl⟩;rw[<-hi] at HI ⊢;clear hi hr;go_enter Tryz.func99,Tryz.ntmps99;go_wp2_with fail;refine HI.out.mono ?_;rintro e w1 ⟨rfl,rfl⟩;go_wp2_with fail;go_ret;exact⟨rfl,rfl⟩
def eY (t:Int) (l:List Int):Nat:=l.findIdx (fun x=>decide (t<x))
theorem aGa (t:Int):∀l:List Int,(if fP (fun x=>decide (t<x)) l<0 then(l.length:Int) else fP (fun x=>decide (t<x)) l)=(eY t l:Int):=by
 intro l
 induction l with
 |nil=>rfl
 |cons x l ih=>
  unfold eY at ih ⊢;rw[fP,List.findIdx_cons]
  by_cases hx:t<x
  ·simp[hx]
  ·simp only[hx,decide_false,Bool.false_eq_true,if_false,cond_false];obtain⟨h1,_,_⟩:=BQ (fun x=>decide (t<x)) l
   by_cases h:fP (fun x=>decide (t<x)) l<0
   ·rw[if_pos h] at ih;rw[if_pos h,if_pos (by omega),cR];omega
   ·rw[if_neg h] at ih;rw[if_neg h,if_neg (by omega),ih];omega
theorem vX (t:Int) (l:List Int):eY t l<=l.length:=List.findIdx_le_length
theorem yM (t:Int) (l:List Int):∀x∈l.take (eY t l),¬t<x:=by
 intro x hx;obtain⟨i,hi,rfl⟩:=List.mem_iff_getElem.1 hx;rw[aX] at hi;rw[List.getElem_take];have:=List.not_of_lt_findIdx (p:=fun x=>decide (t<x)) (xs:=l) (i:=i) (by unfold eY at hi;omega)
 simpa using this
theorem vY (t:Int) (l:List Int) {x:Int} (h:l[eY t l]? =some x):t<x:=by
 obtain⟨hl,hx⟩:=eU.1 h;have:=List.findIdx_getElem (p:=fun x=>decide (t<x)) (w:=hl);have h2:decide (t<l[eY t l])=true:=this;rw[hx] at h2
 simpa using h2
theorem RF (v:Value) (l:List Int) (t:Int) (w:World) (hr:RdI w v l):
  Calls Tryz.prog 101 #[v,.int .i64 t] w fun e w'=>e=.returned (.int .i64 ((eY t l:Nat):Int))/\Below w.heap.size w w':=by
 have hli:=aGa t l;have HI:=hid (RD 110 #[.pointer (some ⟨w.heap.size,0,none⟩)] (fun x=>decide (t<x)) v l (w.alloc (.cells #[.int .i64 t] 3)) (hr.below ((aB _ _).alloc (aA _) _)) (enters_of Tryz.func110 (by kernel_rfl) rfl)
  (fun W hW x _=>aF8 x t ⟨w.heap.size,0,none⟩ W (by rw[hW.cell (p:=⟨w.heap.size,0,none⟩) (by simp)];exact bS _ _ _)))
 obtain⟨a,ca,rfl,hca,hma,hA⟩:=hr.open;obtain⟨i,hi⟩:∃i,i=fP (fun x=>decide (t<x)) l:=⟨_,rfl⟩;rw[<-hi] at HI hli;have HL:=hid hli;clear hi hA hr hli;unfold maxLen at hma;go_enter Tryz.func101,Tryz.ntmps101;go_wp2_with fail;refine HI.out.mono ?_;rintro e w1 ⟨rfl,rfl⟩
 by_cases h:i<0
 ·go_wp2_with fail;go_ret;refine⟨fX ?_,(aB _ _).alloc (aA _) _⟩;have:=HL.out;rwa[if_pos h] at this
 ·go_wp2_with fail;go_ret;refine⟨fX ?_,(aB _ _).alloc (aA _) _⟩;have:=HL.out;rwa[if_neg (by omega)] at this
end Go.Proofs.YtjkjeamepgjicaaGreatDoor
namespace Go.Proofs.YtjkjeamepgjicaaGreatDoor
open Go.RowKit
theorem yZ {ops:Array Oper} {rest:List Oper} {o:Oper} {a:Act} {Q:Exit->Act->World->Prop} {w:World} (hgd:o.guard=none) (s x:iM)
  (ho:o.op=.call {callee:=.builtin .append,args:=#[s,x],argTypes:=#[40,40]}) (base:Nat) (v:Value) (l:List UInt8) (hs:a.eval s=v) (hown:OwB w base v l)
  (g:Nat) (b:UInt8) (hx:a.eval x=.slice (some ⟨g,0,none⟩) 1 1) (hc:w.cell? ⟨g,0,none⟩=some (.int .u8 (b.toNat:Int))) (hroom:(l.length+1)*1<=140737488355328) (hbase:base<=w.heap.size)
  (h:∀v' w',OwB w' base v' (l++[b])->Below base w w'->w.grownBy w' v.ownBlock->wpList Tryz.prog ops Q rest (a.put o.dst v') w'):wpList Tryz.prog ops Q (o::rest) a w:=
 rD vQ hgd s x ho base v _ hs hown g _ hx hc rfl (by simpa using hroom) hbase (fun v' w' q1 q2 q3=>h v' w' (by unfold OwB;rw[IC];exact q1) q2 q3)
def oT (s:List UInt8) (k c:Nat):Bool:=dB (s.take k) c
theorem UP (s:List UInt8) (k:Nat) (b:UInt8) (h:s[k]? =some b) (c:Nat):oT s (k+1) c=if c=b.toNat then true else oT s k c:=by
 unfold oT dB;rw[cQ,h,mX,List.any_append]
 by_cases e:c=b.toNat
 ·rw[if_pos e,e];simp
 ·rw[if_neg e];have:(b.toNat==c)=false:=by rw[beq_eq_false_iff_ne];exact fun h=>e h.symm
  simp[this]
def eS (f:Nat->Bool):List Value:=(dG 256).map fun c=>.bool (f c)
theorem zA (f:Nat->Bool) (c:Nat) (h:c<256):(eS f)[c]? =some (.bool (f c)):=by simp[eS,h]
theorem aJe (f f':Nat->Bool) (c:Nat) (v:Bool) (h:∀d,f' d=if d=c then v else f d):(eS f).set c (.bool v)=eS f':=by
 apply List.ext_getElem?;intro j
 by_cases hj:j<256
 ·by_cases e:c=j
  ·subst e;simp[eS,hj,h]
  ·rw[qU e,zA f j hj,zA f' j hj,h,if_neg (fun h=>e h.symm)]
 ·rw[dL (by simp[eS];omega),dL (by simp[eS];omega)]
theorem UQ:Tryz.zeroCells202=(eS (fun _=>false)).toArray:=by kernel_rfl
theorem KX (f:Nat->Bool):(eS f).toArray.size=256:=by simp[eS]
theorem wN (f:Nat->Bool):(Tryz.prog.info? 202).map (·.size)=some (eS f).toArray.size:=by rw[KX];kernel_rfl
theorem uW:Tryz.prog.underlying 202=some (.array 256 4):=by kernel_rfl
theorem UR {w:World} {b:Nat} {e:TypeId} {l:List Value} (h:Arr w b e l) (hl:l.length=256) (f:Nat->Bool):
  (storeCells ⟨b,0,none⟩ (eS f)).run Tryz.prog w=.ok () (w.setRow b (eS f).toArray):=by
 have h1:(eS f).length=256:=by simp[eS]
 have h2:=run_storeCells_from (P:=Tryz.prog) b e (eS f) 0 l.toArray w h (by simp[hl,h1]) (fun v hv=>by obtain⟨c,_,rfl⟩:=dU.1 hv;rfl);rw[h2]
 congr 2
theorem zB {B:Nat} {w w':World} (h:Below B w w') (g:Nat) (hg:B<=g) (cs:Array Value):Below B w (w'.setRow g cs):=
 ⟨h.os,h.tape,h.output,by rw[size_setRow];exact h.size,fun k hk=>(setRow_other w' g k cs (by omega)).trans (h.block k hk)⟩
theorem US (s:ByteArray) (w:World) (hs:s.size<=140737488355328):
  Calls Tryz.prog 97 #[.string s] w fun e w'=>e=.returned (.agg (eS (dB s.data.toList)).toArray)/\Below w.heap.size w w':=by
 have HL:=hid (show s.data.toList.length=s.size by simp);go_enter Tryz.func97,Tryz.ntmps97;go_wp2_with fail
 go_loopg [3,6] s.size (fun gh _s3 s6 wr=>∃k:Nat,k<=s.size/\gh=s.size-k/\s6=.int .i64 k/\Arr wr w.heap.size 202 (eS (oT s.data.toList k))/\Below w.heap.size w wr)
 case atStart=>
  refine⟨0,aU _,rfl,rfl,?_,(aB _ _).alloc (aA _) _⟩;rw[UQ,show oT s.data.toList 0=fun _=>false from by funext c;simp[oT,dB]];exact Arr.new w _ _
 case round=>
 obtain⟨k,hk,hg,rfl,harr,hbel⟩:=hrel;have HG:=hid hg;clear hg
 by_cases hlt:k<s.size
 ·have hb:=s[k].toNat_lt;have c1:=harr.cell (zA (oT s.data.toList k) s[k].toNat hb);have f1:=harr.free s[k].toNat;have HS:=hid (UP s.data.toList k s[k] (eW s k hlt));go_wp2_with fail;have hg:=HG.out
  go_roundg (s.size-(k+1))
  case measure=>omega
  case rel=>
   refine⟨k+1,by omega,rfl,by go_num,?_,hbel.setCell (p:=⟨w.heap.size,s[k].toNat,none⟩) (aA _) _⟩;have:=harr.set s[k].toNat (.bool true);rwa[aJe _ (oT s.data.toList (k+1)) _ true HS.out] at this
 ·have hke:k=s.size:=by omega
  subst hke;have hfin:oT s.data.toList s.size=dB s.data.toList:=by funext c;unfold oT;rw[cS (by rw[HL.out];exact aA _)]
  rw[hfin] at harr;clear hfin;go_wp2_with fail;refine wp_load_row 202 (.tmp 2) rfl w.heap.size rfl _ _ (0,0) (.array 256 4) harr uW rfl (wN _) ?_;have hst:=UR harr (by simp[eS]) (dB s.data.toList);go_wp2_with fail;have harr2:Arr (wr.setRow w.heap.size (eS (dB s.data.toList)).toArray) w.heap.size 202 (eS (dB s.data.toList)):=setRow_heap wr w.heap.size _ _ 202 (0,0) harr;refine gJ (results_cell_row rfl _ _ w.heap.size _ _ (0,0) (.array 256 4) rfl harr2 uW rfl (wN _)) rfl ?_;exact⟨rfl,zB hbel _ (aA _) _⟩
theorem aJf (cs:Array Value) (k:Nat) (hk:k<256) (b:Bool) (h:cs[k]? =some (.bool b)) (w:World):(tV 202 (.agg cs) (.int .i64 (k:Int))).run Tryz.prog w=.ok (.bool b) w:=by
 have hk':(k:Int)<256:=by omega
 simp[tV,sI uW,asIntOf,hk,part,isAgg,sI Tryz.underlying4,h,jB]
theorem UT {c:Nat} (h:c<256):(eK c).toNat=c:=by rw[UInt8.toNat_ofNat'];omega
theorem KY (s:ByteArray) (w:World) (hs:s.size<=140737488355328):
  Calls Tryz.prog 84 #[.string s] w fun e w'=>e=.returned (.string (mkS (bK s.data.toList)))/\Below w.heap.size w w':=by
 go_enter Tryz.func84,Tryz.ntmps84;go_wp2_with fail;refine(US s _ hs).mono ?_;rintro e w1 ⟨rfl,h1⟩;obtain⟨cs,hcs⟩:∃cs,cs=(eS (dB s.data.toList)).toArray:=⟨_,rfl⟩;rw[<-hcs];have hsz:cs.size=256:=by rw[hcs];exact KX _
 have hget:∀c,c<256->cs[c]? =some (.bool (dB s.data.toList c)):=fun c hc=>by rw[hcs];simpa using zA (dB s.data.toList) c hc
 have HGET:=hid hget;clear hcs hget;go_wp2_with fail
 go_loopg [3,4,5,8] 256 (fun gh s3 _s4 _s5 s8 wr=>∃k:Nat,k<=256/\gh=256-k/\s8=.int .i64 k/\OwB wr w1.heap.size s3 (jH s.data.toList k)/\Below w1.heap.size w1 wr)
 case atStart=>exact⟨0,by omega,rfl,rfl,Ow.nil _ _ _,aB _ _⟩
 case round=>
 obtain⟨k,hk,hg,rfl,hown,hbel⟩:=hrel;have HG:=hid hg;clear hg
 by_cases hlt:k<256
 ·have t1:decide ((k:Int)<256)=true:=decide_eq_true (by omega);have t2:(k:Int)<256:=by omega
  have g1:=HGET.out k hlt;have ix:(tV 202 (.agg cs) (.int .i64 (k:Int))).run Tryz.prog wr=.ok (.bool (dB s.data.toList k)) wr:=aJf cs k hlt _ g1 wr;have g2:IntKind.u8.wrap (k:Int)=(k:Int):=by unfold IntKind.wrap;simp[IntKind.signed,IntKind.bits];omega
  have hlen:=PI s.data.toList k;have hbs:=hbel.size;have hsucc:=hid (IK s.data.toList k);have e1:((eK k).toNat:Int)=(k:Int):=by rw[UT hlt]
  by_cases hh:dB s.data.toList k=true
  ·rw[hh] at ix;have HH:=hid hh;clear hh;go_wp2_with (at_builtin;refine yZ rfl _ _ rfl w1.heap.size _ _ rfl (hown.alloc _) wr.heap.size (eK k) rfl ?_ ?_ ?_ ?_;(rw[e1];exact bS _ _ _);omega;(simp;omega);intro v' w3 hown' hB hgrow);have hg:=HG.out
   go_roundg (256-(k+1))
   case measure=>omega
   case rel=>
    refine⟨k+1,by omega,rfl,by go_num,?_,(hbel.alloc hbs _).trans hB⟩;have:=hsucc.out;rw[if_pos HH.out] at this;rw[this];exact hown'
  ·have hf:dB s.data.toList k=false:=by simpa using hh
   rw[hf] at ix;have HH:=hid hf;clear hh hf;go_wp2_with fail;have hg:=HG.out
   go_roundg (256-(k+1))
   case measure=>omega
   case rel=>
    refine⟨k+1,by omega,rfl,by go_num,?_,hbel⟩;have:=hsucc.out;rw[if_neg (by rw[HH.out];exact Bool.false_ne_true),eE] at this;rw[this];exact hown
 ·have hke:k=256:=by omega
  subst hke;have hcv:=lQ hown.rd;have HE:=hid (show jH s.data.toList 256=bK s.data.toList from rfl);go_wp2_with fail;go_ret;exact⟨tY (by rw[HE.out]),bV h1 hbel⟩
def ByA (w:World) (g:Nat) (l:List UInt8):Prop:=g<w.heap.size/\(∀j b,l[j]? =some b->w.cell? ⟨g,j,none⟩=some (.int .u8 (b.toNat:Int)))/\∀j,j<l.length->w.frozen? ⟨g,j,none⟩=false
theorem ByA.kept {w w':World} {g:Nat} {l:List UInt8} {row:Option Nat} (h:ByA w g l) (hg:w.grownBy w' row) (hne:some g≠row):ByA w' g l:=
 ⟨dR h.1 hg.size,fun j b hj=>by rw[oK (hg.block g h.1 hne)];exact h.2.1 j b hj,fun j hj=>by rw[World.frozen?_of_block (hg.block g h.1 hne)];exact h.2.2 j hj⟩
theorem ByA.below {w w':World} {B g:Nat} {l:List UInt8} (h:ByA w g l) (hb:Below B w w') (hg:g<B):ByA w' g l:=
 ⟨dR h.1 hb.size,fun j b hj=>by rw[hb.cell (p:=⟨g,j,none⟩) hg];exact h.2.1 j b hj,fun j hj=>by rw[hb.frozen (p:=⟨g,j,none⟩) hg];exact h.2.2 j hj⟩
theorem ByA.set {w:World} {g:Nat} {l:List UInt8} (h:ByA w g l) (i:Nat) (b:UInt8):ByA (w.setCell ⟨g,i,none⟩ (.int .u8 (b.toNat:Int))) g (l.set i b):=by
 refine⟨by simpa using h.1,fun j c hj=>?_,fun j hj=>by rw[World.frozen?_setCell];exact h.2.2 j (by simpa using hj)⟩;obtain⟨hl,hc⟩:=eU.1 hj;rw[List.length_set] at hl
 by_cases e:i=j
 ·subst e;rw[List.getElem_set_self] at hc;subst hc;exact World.cell?_setCell_same _ _ _ (h.2.1 i _ (aN hl))
 ·rw[World.cell?_setCell_other _ _ _ _ (fun e'=>e (by have:=congrArg Addr.off e';simpa using this))];refine h.2.1 j c ?_;rw[<-hj,qU e]
theorem WI:(Tryz.prog.info? 5).map (·.size)=some 1:=by kernel_rfl
theorem WJ {ops:Array Oper} {rest:List Oper} {o:Oper} {a:Act} {Q:Exit->Act->World->Prop} {w:World} (hgd:o.guard=none) (d s:iM)
  (ho:o.op=.call {callee:=.builtin .copy,args:=#[d,s],argTypes:=#[40,40]}) (g:Nat) (l:List UInt8) (i:Nat) (hA:ByA w g l) (hi:i<l.length)
  (dp:Option Addr) (dLen dCap sCap:Nat) (hd:a.eval d=.slice dp dLen dCap) (hs:a.eval s=.slice (some ⟨g,0,none⟩) i sCap) (hdl:dLen=l.length-1) (hdp:1<l.length->dp=some ⟨g,1,none⟩)
  (h:∀w',ByA w' g (l.take 1++l.take i++l.drop (i+1))->w.grownBy w' (some g)->wpList Tryz.prog ops Q rest (a.put o.dst (goInt i)) w'):
  wpList Tryz.prog ops Q (o::rest) a w:=by
 refine AD hgd fun K hK=>?_
 replace h:=fun w' q1 q2=>hK _ _ (h w' q1 q2)
 rcases fJ i with h0|h0
 ·subst h0;have hrun:=run_copy_none (P:=Tryz.prog) w 40 40 o.type 5 dp (some ⟨g,0,none⟩) dLen dCap 0 sCap Tryz.underlying40 WI (Nat.zero_min _);unfold lX;simp[execOp,ho,resolve,invoke,builtin,hd,hs,hrun,jB];refine h w ?_ ⟨rfl,rfl,rfl,aA _,fun _ _ _=>rfl⟩;rw[List.take_zero,eE,List.take_append_drop];exact hA
 ·have hdp':=hdp (by omega);subst hdp';have hl1:(l.take i).length=i:=by rw[aX];omega
  have hrun:=run_copy_cells (P:=Tryz.prog) w 40 40 o.type 5 g 1 dLen dCap ⟨g,0,none⟩ i sCap (eO (l.take i)) Tryz.underlying40 WI (by rw[rE,hl1];exact(Nat.min_eq_left (by omega)).symm)
   (fun j v hj=>by
    unfold eO at hj;rw[dY] at hj
    cases hn:(l.take i)[j]? with
    |none=>rw[hn] at hj;simp at hj
    |some b=>
     rw[hn] at hj;simp at hj;subst hj;have e:(⟨g,0,none⟩:Addr).add j=⟨g,j,none⟩:=by unfold iN;split<;>simp_all
     rw[e];have hj':j<i:=by have:=(eU.1 hn).1;omega
     rw[mB hj'] at hn;exact hA.2.1 j b hn)
   (fun j hj=>by
    rw[rE,hl1] at hj;rw[hA.2.1 (1+j) _ (aN (by omega))];rfl)
   (fun j hj=>by rw[rE,hl1] at hj;exact hA.2.2 (1+j) (by omega))
   (fun v hv=>by obtain⟨b,_,rfl⟩:=dU.1 hv;rfl)
  rw[rE,hl1] at hrun;unfold lX;simp[execOp,ho,resolve,invoke,builtin,hd,hs,hrun,jB];have hsz:∀(vs:List Value) (o:Nat) (w:World),w.grownBy (w.setCells g o vs) (some g):=by
   intro vs
   induction vs with
   |nil=>intro o w;exact⟨rfl,rfl,rfl,aA _,fun _ _ _=>rfl⟩
   |cons v vs ih=>
    intro o w;have h2:=ih (o+1) (w.setCell ⟨g,o,none⟩ v);refine⟨h2.os,h2.tape,h2.output,aW (by simp) h2.size,fun k hk hne=>?_⟩;rw[World.setCells,h2.block k (by simpa using hk) hne];exact kT _ _ _ _ (fun e=>hne (by rw[e]))
  have hlen:(l.take 1++l.take i++l.drop (i+1)).length=l.length:=by simp only[aL,aX,cI];omega
  refine h _ ⟨dR hA.1 (hsz _ _ _).size,fun j b hj=>?_,fun j hj=>?_⟩ (hsz _ _ _)
  ·rcases fJ j with j0|j0
   ·subst j0;rw[aTi g _ _ _ _ (fun _ _=>.inl (by simp))];refine hA.2.1 0 b ?_;rw[<-hj,cF,gS (by rw[aX];omega),mB (by omega)]
   ·rcases bT j (i+1) with q|q
    ·have hjl:j-1<(eO (l.take i)).length:=by rw[rE,hl1];omega
     have hin:=World.cell?_setCells_in g (eO (l.take i)) 1 w (fun k hk=>by
      rw[rE,hl1] at hk;rw[hA.2.1 (1+k) _ (aN (by omega))];rfl) (j-1) hjl
     rw[show 1+(j-1)=j by omega] at hin;rw[hin];have e:(l.take i)[j-1]? =some b:=by
      rw[<-hj,cF,jY (by rw[aX];omega),aX,show min 1 l.length=1 by omega,gS (by rw[hl1];omega)]
     have:=BH e;rw[aN hjl] at this;exact this
    ·rw[aTi g _ _ _ _ (fun _ _=>.inr (by rw[rE,hl1];simp;omega))];refine hA.2.1 j b ?_;have e3:i+1+(j-(l.take 1++l.take i).length)=j:=by simp only[aL,aX];omega
     rw[<-hj,jY (by simp only[aL,aX];omega),gR,e3]
  ·rw[World.frozen?_setCells];rw[hlen] at hj;exact hA.2.2 j hj
theorem aKu {l:List UInt8} {i:Nat} (hi:i<l.length):eF l i=l[i]::(l.take i++l.drop (i+1)):=by
 have e:(l.drop i).take 1=[l[i]]:=by rw[List.drop_eq_getElem_cons hi];rfl
 unfold eF;rw[e];simp
theorem WK {l:List UInt8} {i:Nat} (hi:i<l.length):(l.take 1++l.take i++l.drop (i+1)).set 0 l[i]=eF l i:=by
 rw[aKu hi]
 cases l with
 |nil=>simp at hi
 |cons b l=>simp
theorem nK {w w':World} {g:Nat} (h:w.grownBy w' (some g)) (k:Nat) (v:Value):w.grownBy (w'.setCell ⟨g,k,none⟩ v) (some g):=
 ⟨h.os,h.tape,h.output,by simpa using h.size,fun i hi hne=>(kT _ _ _ _ (fun e=>hne (by rw[e]))).trans (h.block i hi hne)⟩
theorem WL {w0 w:World} {g n cap bx:Nat} {l:List UInt8} (h:w.cell? ⟨bx,0,none⟩=some (.slice (some ⟨g,0,none⟩) n cap)/\ByA w g l/\w0.grownBy w (some g)):w.drew.cell? ⟨bx,0,none⟩=some (.slice (some ⟨g,0,none⟩) n cap)/\ByA w.drew g l/\w0.grownBy w.drew (some g):=
 ⟨h.1,h.2.1,nC h.2.2⟩
theorem WM (g cap i:Nat) (l:List UInt8) (w:World) (hA:ByA w g l) (hi:i<l.length) (hl:l.length<=1000) (hcap:l.length<=cap) (hcm:cap<=maxLen):
  Calls Tryz.prog 104 #[.agg #[.slice (some ⟨g,0,none⟩) l.length cap],.int .i64 (i:Int)] w fun e w'=>e=.returned (.int .u8 (l[i].toNat:Int))/\ByA w' g (eF l i)/\w.grownBy w' (some g):=by
 unfold maxLen at hcm;obtain⟨b,hb⟩:∃b,b=l[i]:=⟨_,rfl⟩;have HB:=hid hb;have c1:=hA.2.1 i b (by rw[hb];exact aN hi);rw[<-hb];have hgl:=hA.1;have hA1:ByA (w.alloc (.cells #[.slice (some ⟨g,0,none⟩) l.length cap] 213)) g l:=hA.kept (row:=none) (AV _ _ _) (by simp);have hG1:w.grownBy (w.alloc (.cells #[.slice (some ⟨g,0,none⟩) l.length cap] 213)) (some g):=AV _ _ _;have hC1:=bS w (.slice (some ⟨g,0,none⟩) l.length cap) 213;have hB1:w.heap.size<(w.alloc (.cells #[.slice (some ⟨g,0,none⟩) l.length cap] 213)).heap.size:=by simp
 have hle1:1<=l.length:=by omega
 have hle2:1<=cap:=by omega
 have hbt:=b.toNat_lt;clear hb;go_enter Tryz.func104,Tryz.ntmps104;have b1:i<=cap:=by omega
 have b2:(i:Int)<=(cap:Int):=by omega
 have b3:(1:Int)<=(l.length:Int):=by omega
 have b4:(1:Int)<=(cap:Int):=by omega
 go_upto_region 2 with fail;generalize w.alloc (.cells #[.slice (some ⟨g,0,none⟩) l.length cap] 213)=w1 at*
 by_cases hc1:cap=1
 ·subst hc1;have hl1:l.length=1:=by omega
  have hi0:i=0:=by omega
  subst hi0
  go_still_tail 7,(by kernel_rfl)
  change wpList _ _ _ _ _ w1.drew;obtain⟨hC2,hA2,hG2⟩:=WL ⟨hC1,hA1,hG1⟩
  replace hB1:w.heap.size<w1.drew.heap.size:=hB1
  clear hC1 hA1 hG1;generalize w1.drew=w2 at*
  refine WJ rfl _ _ rfl g l 0 hA2 hi _ _ _ _ rfl rfl (by omega) (fun h1=>?_) ?_
  ·exfalso;omega
  intro w3 hA3 hG3;have hbx:some w.heap.size≠some g:=by simp;omega
  have hC3:=hC2;rw[<-oK (hG3.block _ hB1 hbx)] at hC3;have hlen:(l.take 1++l.take 0++l.drop (0+1)).length=l.length:=by simp only[aL,aX,cI];omega
  have hb0:0<(l.take 1++l.take 0++l.drop (0+1)).length:=by omega
  have hw0:=hA3.2.1 0 _ (aN hb0);have hf0:=hA3.2.2 0 hb0;have hA4:=hA3.set 0 b;have hG4:=nK (dS hG2 hG3) 0 (.int .u8 (b.toNat:Int));rw[HB.out,WK hi,<-HB.out] at hA4;go_wp2_with fail;go_ret;exact⟨rfl,hA4,hG4⟩
 ·go_still_tail 7,(by kernel_rfl)
  change wpList _ _ _ _ _ w1.drew;obtain⟨hC2,hA2,hG2⟩:=WL ⟨hC1,hA1,hG1⟩
  replace hB1:w.heap.size<w1.drew.heap.size:=hB1
  clear hC1 hA1 hG1;generalize w1.drew=w2 at*
  refine WJ rfl _ _ rfl g l i hA2 hi _ _ _ _ rfl rfl rfl (fun h1=>rfl) ?_;intro w3 hA3 hG3;have hbx:some w.heap.size≠some g:=by simp;omega
  have hC3:=hC2;rw[<-oK (hG3.block _ hB1 hbx)] at hC3;have hlen:(l.take 1++l.take i++l.drop (i+1)).length=l.length:=by simp only[aL,aX,cI];omega
  have hb0:0<(l.take 1++l.take i++l.drop (i+1)).length:=by omega
  have hw0:=hA3.2.1 0 _ (aN hb0);have hf0:=hA3.2.2 0 hb0;have hA4:=hA3.set 0 b;have hG4:=nK (dS hG2 hG3) 0 (.int .u8 (b.toNat:Int));rw[HB.out,WK hi,<-HB.out] at hA4;go_wp2_with fail;go_ret;exact⟨rfl,hA4,hG4⟩
def pQ (w:World) (v:Value) (m:List Int):Prop:=
 (v=.slice none 0 0/\m=[])\/∃b off cap,v=.slice (some ⟨b,off,none⟩) m.length cap/\b<w.heap.size/\∀j x,m[j]? =some x->w.cell? ⟨b,off+j,none⟩=some (.int .i64 x)
theorem pQ.below {w w':World} {v:Value} {m:List Int} (h:pQ w v m) (hb:Below w.heap.size w w'):pQ w' v m:=by
 rcases h with h|⟨b,off,cap,rfl,hl,hc⟩
 ·exact .inl h
 ·exact .inr ⟨b,off,cap,rfl,dR hl hb.size,fun j x hx=>by rw[hb.cell (p:=⟨b,off+j,none⟩) hl];exact hc j x hx⟩
theorem RG (w:World) (t:TypeId) (x:Int):pQ (w.alloc (.cells #[.int .i64 x] t)) (.slice (some ⟨w.heap.size,0,none⟩) 1 1) [x]:=
 .inr ⟨w.heap.size,0,1,rfl,by simp,fun j y hy=>by
  cases j with
  |zero=>simp at hy;subst hy;exact bS _ _ _
  |succ j=>simp at hy⟩
theorem RH {w:World} (ty:TypeId) (base:Nat) (v:Value) (l:List Int) (hown:OwI w base v l) (sv:Value) (m:List Int) (hsrc:pQ w sv m) (hroom:(l.length+m.length)*8<=140737488355328) (hbase:base<=w.heap.size):
  ∃v' w',(Builtin.append_ #[68,68] ty #[v,sv]).run Tryz.prog w=.ok v' w'/\OwI w' base v' (l++m)/\Below base w w'/\w.grownBy w' v.ownBlock:=by
 obtain⟨i,hi,hz,h2,h3⟩:=gL.info;have h4:(bO .i64 0).cells.size=1:=by rw[gL.cells];rfl
 have hown':w.ownsRow base 3 1 v l.length (l.map (bO .i64)):=by have:=hown;unfold OwI Ow at this;rwa[bJ] at this
 rcases hsrc with⟨rfl,rfl⟩|⟨b,off,cap,rfl,_,hc⟩
 ·refine⟨v,w,run_append_owned_none (P:=Tryz.prog) (w:=w) base _ ty 3 i 1 gL.under hi v l.length _ hown',by rw[eE];exact hown,aB _ _,⟨rfl,rfl,rfl,aA _,fun _ _ _=>rfl⟩⟩
 ·obtain⟨v',w',q1,q2,q3,_⟩:=run_append_own (P:=Tryz.prog) w base 68 ty 3 i _ 1 8 gL.under hi hz h2 h3 h4 (by decide) v l.length _ hown' ⟨b,off,none⟩ m.length cap (m.map (bO .i64)) (by simp) (fun j u hu=>by
    rw[dY] at hu
    cases hn:m[j]? with
    |none=>rw[hn] at hu;simp at hu
    |some y=>
     rw[hn] at hu;simp at hu;subst hu;have e:(⟨b,off,none⟩:Addr).add j=⟨b,off+j,none⟩:=by unfold iN;split<;>simp_all
     rw[e];exact hc j y hn) (fun u hu=>by obtain⟨y,_,rfl⟩:=dU.1 hu;rfl) (by simp only[maxLen];omega) hroom hbase
  refine⟨v',w',q1,?_,rC hown' q3 hbase,q3⟩;unfold OwI Ow;rw[List.map_append,aL,bJ,bJ];exact q2
theorem CO {ops:Array Oper} {rest:List Oper} {o:Oper} {a:Act} {Q:Exit->Act->World->Prop} {w:World} (hgd:o.guard=none) (s x:iM)
  (ho:o.op=.call {callee:=.builtin .append,args:=#[s,x],argTypes:=#[68,68]}) (base:Nat) (v:Value) (l:List Int) (hs:a.eval s=v) (hown:OwI w base v l)
  (sv:Value) (m:List Int) (hx:a.eval x=sv) (hsrc:pQ w sv m) (hroom:(l.length+m.length)*8<=140737488355328) (hbase:base<=w.heap.size)
  (h:∀v' w',OwI w' base v' (l++m)->Below base w w'->w.grownBy w' v.ownBlock->wpList Tryz.prog ops Q rest (a.put o.dst v') w'):wpList Tryz.prog ops Q (o::rest) a w:=by
 refine AD hgd fun K hK=>?_
 obtain⟨v',w',hr,q1,q2,q3⟩:=RH o.type base v l hown sv m hsrc hroom hbase;unfold lX execOp;simp only[ho,resolve,invoke,builtin,Sem.run_bind,Sem.run_pure,Result.andThen_ok,List.map_toArray,List.map_cons,List.map_nil,hs,hx,hr];exact hK _ _ (h v' w' q1 q2 q3)
theorem RdI.dropS {w:World} {b off:Nat} {l:List Int} (hc:∀j x,l[j]? =some x->w.cell? ⟨b,off+j,none⟩=some (.int .i64 x)) (k:Nat):∀j x,(l.drop k)[j]? =some x->w.cell? ⟨b,off+k+j,none⟩=some (.int .i64 x):=by
 intro j x hx;rw[gR] at hx;have:=hc _ x hx;rw[<-dZ] at this;exact this
theorem OwI.setLow {w:World} {B:Nat} {v:Value} {l:List Int} (h:OwI w B v l) {p:Addr} (hp:p.block<B) (x:Value):OwI (w.setCell p x) B v l:=by
 refine⟨h.1,?_⟩;rcases h.2 with hn|⟨g,cap,cur,rfl,h1,hg,rest⟩
 ·exact .inl hn
 ·refine .inr ⟨g,cap,cur,rfl,h1,?_,rest⟩;rw[kT w p g x (fun e=>by omega)];exact hg
def qK (w:World) (b:Nat) (l:List Int):Prop:=∃v,Arr w b 207 [v]/\OwI w (b+1) v l
theorem qK.lt {w:World} {b:Nat} {l:List Int} (h:qK w b l):b<w.heap.size:=by obtain⟨v,h,_⟩:=h;exact h.lt
theorem qK.below {w w':World} {b:Nat} {l:List Int} (h:qK w b l) (hb:Below w.heap.size w w'):qK w' b l:=by
 have:=h.lt;obtain⟨v,h1,h2⟩:=h;exact⟨v,h1.below hb this,h2.below hb (aA _)⟩
theorem CP (b:Nat) (src:Value) (l m:List Int) (w:World) (hl:qK w b l) (hs:pQ w src m) (hroom:(l.length+m.length)*8<=140737488355328):
  Calls Tryz.prog 100 #[.pointer (some ⟨b,0,none⟩),src] w fun e w'=>e=.returned (.tuple #[])/\qK w' b (l++m)/\Below b w w':=by
 have hb:=hl.lt;obtain⟨v,harr,hown⟩:=hl;have c1:=harr.cell (i:=0) rfl;have f1:=harr.free 0;go_enter Tryz.func100,Tryz.ntmps100;go_wp2_with (at_builtin;refine CO rfl _ _ rfl (b+1) _ _ rfl hown _ m rfl hs hroom (by omega) ?_;intro v' w1 hown' hB hgrow;(obtain⟨a',cap',rfl,_,_,_⟩:=hown'.rd.open);(have harr1:=harr.below hB (by omega));(have c2:=harr1.cell (i:=0) rfl);(have f2:=harr1.free 0))
 go_end0
 rw[aL] at hown';exact⟨rfl,⟨_,harr1.set 0 _,hown'.setLow (p:=⟨b,0,none⟩) (Nat.lt_succ_self b) _⟩,(hB.mono (Nat.le_succ b)).setCell (p:=⟨b,0,none⟩) (aA _) _⟩
def nL (d:List Int):Int:=if num d<=1099511627776 then(num d:Int) else 0
def lA (d:List Int):Int:=if num d<=1099511627776 then 0 else 4
end Go.Proofs.YtjkjeamepgjicaaGreatDoor
namespace Go.Proofs.YtjkjeamepgjicaaGreatDoor
open Go.RowKit Go.Shelf
attribute [local go_sem] Oper.semAt_some
def bv (b:Bool):Int:=if b then 1 else 0
def oW {α:Type} (f:Nat->α) (k:Nat):List α:=(dG k).map f
theorem LL {α:Type} (f:Nat->α) (k:Nat):oW f (k+1)=oW f k++[f k]:=by simp[oW,List.range_succ]
theorem aLd {α:Type} (f:Nat->α) (k:Nat):(oW f k).length=k:=by simp[oW]
def bk (ds:List Bool) (j:Nat):Nat×Bool:=(ds.length-1-j,ds[ds.length-1-j]?.getD false)
def DY (x:Nat×Bool):Array Value:=#[bO .i64 (x.1:Int),bO .i64 (bv x.2)]
def KpB (n₀ Bs:Nat) (A B:World):Prop:=Below n₀ A B/\B.heap[Bs]? =A.heap[Bs]?
theorem DZ {n₀ Bs:Nat} {A B C:World} (h:KpB n₀ Bs A B) (k:KpB n₀ Bs B C):KpB n₀ Bs A C:=⟨h.1.trans k.1,k.2.trans h.2⟩
theorem LM {n₀ Bs:Nat} {w:World} (hn:n₀<=w.heap.size) (hB:Bs<w.heap.size) (W:World) (l:Nat) (o o':Obj) (hl:w.heap.size<=l) (h:W.heap[l]? =some o) (h1:o.isCells=false) (h2:o.isWalk=false):KpB n₀ Bs W (W.putObj l o'):=
 ⟨belowK_b hn W l o o' hl h h1 h2,(grownBy_putObj' W l o').block Bs (by have:=(gQ.1 h).1;omega) (fun e=>by cases e;omega)⟩
theorem KpB.cell {n₀ Bs:Nat} {A B:World} (h:KpB n₀ Bs A B) (k:Nat):B.cell? ⟨Bs,k,none⟩=A.cell? ⟨Bs,k,none⟩:=oK h.2
theorem aLe (F:Fence) (n:Nat) (h7:F.fn 113) (hro:F.round=none) (hn:1<=n) (l Bs n₀ b off cap:Nat) (ds:List Bool) (hreach:ds.length<=1000000) (hb:b<n₀) (J Jx:List (Nat×Bool)->World->Prop)
  (hY:∀pre x W,J pre W->pre.length<ds.length->YieldAt F (n-1) Tryz.prog l (DY x) W fun e W'=>
   (e=.returned (.bool true)/\J (pre++[x]) W'/\KpB n₀ Bs W W')\/(e=.returned (.bool false)/\Jx (pre++[x]) W'))
  (W:World) (hBs:W.cell? ⟨Bs,0,none⟩=some (.slice (some ⟨b,off,none⟩) ds.length cap)) (hc:∀j,j<ds.length->W.cell? ⟨b,off+j,none⟩=some (.int .i64 (bv (ds[j]?.getD false)))) (h0:J [] W):
  mD F n Tryz.prog 113 #[.func (.yield l) #[] #[],.pointer (some ⟨Bs,0,none⟩)] W fun e W'=>(∃v,e=.returned v)/\
   ((∃ys,ys=oW (bk ds) ds.length/\J ys W')\/(∃pre,(∃k,k<=ds.length/\pre=oW (bk ds) k)/\Jx pre W')):=by
 refine tW Tryz.func113 rfl h7 ?_ hro;simp only[Tryz.ntmps113,mY,cR,cX,lZ,mZ,lL,lM,lN,lO,iG,gE]
 gi_wp2
 gi_loopw [3] (fun i wr=>∃q:Nat,q<=ds.length/\i=.int .i64 ((q:Int)-1)/\J (oW (bk ds) (ds.length-q)) wr/\KpB n₀ Bs W wr)
  (fun i _=>(intOf i+1).toNat)
 case atStart=>exact⟨ds.length,aA _,rfl,by rw[Nat.sub_self];exact h0,aB _ _,rfl⟩
 case round=>
  obtain⟨q,hq,hi,hJs,hnx⟩:=hrel
  cases q with
  |zero=>
   rw[show(((0:Nat):Int)-1)= -1 by omega] at hi;subst hi
   gi_wp2
   go_end0
   exact⟨⟨_,rfl⟩,.inl ⟨_,rfl,by rw[Nat.sub_zero] at hJs;exact hJs⟩⟩
  |succ p=>
   rw[show(((p+1:Nat):Int)-1)=(p:Int) by omega] at hi;subst hi;have e1:ds.length-1-(ds.length-(p+1))=p:=by omega
   have hbs:=(hnx.cell 0).trans hBs;have hcx:=(hnx.1.cell (p:=⟨b,off+p,none⟩) hb).trans (hc p (by omega));obtain⟨fn,tmps,assign,body,hy,hR⟩:=hY _ (bk ds (ds.length-(p+1))) wr hJs (by rw[aLd];omega);unfold DY bk at hy;dsimp only at hy;rw[e1] at hy
   gi_wp2
   refine hR.mono ?_;rintro e W3 (⟨rfl,hJ3,hk3⟩|⟨rfl,hJx3⟩)
   ·gi_wp2
    go_roundw
    case rel=>exact⟨p,by omega,by go_num,by rw[show ds.length-p=(ds.length-(p+1))+1 by omega,LL];exact hJ3,DZ hnx hk3⟩
    case measure=>simp[intOf]
   ·gi_wp2
    refine gJ (results_none rfl _ _ _) rfl ?_;exact⟨⟨_,rfl⟩,.inr ⟨_,⟨ds.length-(p+1)+1,by omega,(LL _ _).symm⟩,hJx3⟩⟩
theorem aLf (F:Fence) (n:Nat) (h7:F.fn 113) (hro:F.round=none) (l Bs cap:Nat) (a:Option Addr) (J:List (Nat×Bool)->World->Prop) (W:World) (hBs:W.cell? ⟨Bs,0,none⟩=some (.slice a 0 cap)) (h0:J [] W):
  mD F n Tryz.prog 113 #[.func (.yield l) #[] #[],.pointer (some ⟨Bs,0,none⟩)] W fun e W'=>(∃v,e=.returned v)/\J [] W':=by
 refine tW Tryz.func113 rfl h7 ?_ hro;simp only[Tryz.ntmps113,mY,cR,cX,lZ,mZ,lL,lM,lN,lO,iG,gE]
 gi_wp2
 gi_loopw [3] (fun i wr=>i=.int .i64 (-1)/\J [] wr) (fun _ _=>0)
 case atStart=>exact⟨rfl,h0⟩
 case round=>
  obtain⟨rfl,hJs⟩:=hrel
  gi_wp2
  go_end0
  exact⟨⟨_,rfl⟩,hJs⟩
def zJ (n₀:Nat) (W:World) (sv:Value) (ds:List Bool):Prop:=
 (∃a cap,sv=.slice a 0 cap/\ds=[])\/∃b off cap,sv=.slice (some ⟨b,off,none⟩) ds.length cap/\b<n₀/\∀j,j<ds.length->W.cell? ⟨b,off+j,none⟩=some (.int .i64 (bv (ds[j]?.getD false)))
theorem zJ.below {n₀:Nat} {A B:World} (h:Below n₀ A B) {sv:Value} {ds:List Bool}:zJ n₀ A sv ds->zJ n₀ B sv ds
 |.inl e=>.inl e
 |.inr ⟨b,off,cap,e,hb,hc⟩=>.inr ⟨b,off,cap,e,hb,fun j hj=>(h.cell (p:=⟨b,off+j,none⟩) hb).trans (hc j hj)⟩
theorem aLg (F:Fence) (n:Nat) (h7:F.fn 113) (hro:F.round=none) (hn:1<=n) (Bs n₀:Nat) (sv:Value) (ds:List Bool) (hreach:ds.length<=1000000) (w:World) (hBs:Bs<w.heap.size) (hn₀:n₀<=w.heap.size)
  (hc:w.cell? ⟨Bs,0,none⟩=some sv) (hI:zJ n₀ w sv ds):
  SeqStopsK F n Tryz.prog 113 #[.pointer (some ⟨Bs,0,none⟩)] DY (KpB n₀ Bs) (fun ys=>ys=oW (bk ds) ds.length)
   (fun pre=>∃k,k<=ds.length/\pre=oW (bk ds) k) ds.length w:=fun l J Jx W hW _ _ hY h0=>by
 have hc':=(hW.cell (p:=⟨Bs,0,none⟩) hBs).trans hc;rcases hI.below (hW.mono hn₀) with⟨a,cap,rfl,rfl⟩|⟨b,off,cap,rfl,hb,hcs⟩
 ·exact(aLf F n h7 hro l Bs cap a J W hc' h0).mono fun e W' ⟨he,hj⟩=>⟨he,.inl ⟨_,rfl,hj⟩⟩
 ·exact aLe F n h7 hro hn l Bs n₀ b off cap ds hreach hb J Jx hY W hc' hcs h0
theorem aLh (F:Fence) (n:Nat) (h5:F.fn 112) (hro:F.round=none) (a:Option Addr) (len cap:Nat) (w:World):
  mD F n Tryz.prog 112 #[.slice a len cap] w fun e w'=>e=.returned (.func (.func 113) #[] #[.pointer (some ⟨w.heap.size,0,none⟩)])/\w'=w.alloc (.cells #[.slice a len cap] 68):=by
 refine tW Tryz.func112 rfl h5 ?_ hro;simp only[Tryz.ntmps112,mY,cR,cX,lZ,mZ,lL,lM,lN,lO,iG,gE]
 gi_wp2
 go_ret;exact⟨rfl,rfl⟩
end Go.Proofs.YtjkjeamepgjicaaGreatDoor
namespace Go.Proofs.YtjkjeamepgjicaaGreatDoor
structure Ent where
 a:Int
 r:Int
 f:Int
 n:Int
 y:Int
def Ent.ok (fr at':Int) (x:Ent):Prop:=x.f=fr/\1<=x.n/\x.n<=18720/\40<=x.r/\x.r<=360/\x.r%40=0/\at'<x.a
instance (fr at':Int) (x:Ent):Decidable (x.ok fr at'):=inferInstanceAs (Decidable (_/\_))
def aU0:Int->Int->List Ent->Prop
 |_,_,[]=>True
 |fr,at',x::l=>x.ok fr at'/\aU0 (x.f+x.n) x.a l
instance rightDec:(fr at':Int)->(l:List Ent)->Decidable (aU0 fr at' l)
 |_,_,[]=>isTrue trivial
 |fr,at',x::l=>by
  unfold aU0;have:=rightDec (x.f+x.n) x.a l;exact inferInstance
def aU1 (l:List Ent):Prop:=aU0 0 31 l
instance (l:List Ent):Decidable (aU1 l):=inferInstanceAs (Decidable (aU0 _ _ _))
def aU3 (l:List Ent):Int:=(l.map Ent.n).sum
def aVm (l:List Ent):Int:=if aU1 l then aU3 l else 0
theorem aWo (x:Ent) (l:List Ent):aU3 (x::l)=x.n+aU3 l:=by unfold aU3;simp
end Go.Proofs.YtjkjeamepgjicaaGreatDoor
namespace Go.Proofs.YtjkjeamepgjicaaGreatDoor
open Go.RowKit Go
theorem DW (a b:BitVec 32):bits .xor .u32 (a.toNat:Int) (b.toNat:Int)=((a^^^b).toNat:Int):=by
 rw[u32_xor_nat _ _ a.isLt b.isLt,BitVec.toNat_xor]
theorem WC (a:BitVec 32):rA.wrap ((a.toNat:Int)*2)=((a<<<1).toNat:Int):=by
 rw[aCs,GP,GQ];omega
theorem aKn (a:BitVec 32):rA.wrap ((a.toNat:Int)*256)=((a<<<8).toNat:Int):=by
 rw[aCs,GP,GQ];omega
theorem aKo (a:Nat) (_h:a<256):rA.wrap ((a:Int)*16777216)=((BitVec.ofNat 32 a<<<24).toNat:Int):=by
 rw[aCs,GP,GQ,BitVec.toNat_ofNat];omega
theorem aKp (a:BitVec 32):(a.toNat:Int)/16777216=((a>>>24).toNat:Int):=by
 rw[BitVec.toNat_ushiftRight,Nat.shiftRight_eq_div_pow];omega
theorem WD (a:BitVec 32):(a.toNat:Int)/2147483648=(a.msb.toNat:Int):=by
 rw[BitVec.msb_eq_decide];have:=a.isLt
 by_cases h:2^(32-1)<=a.toNat
 ·rw[decide_eq_true h];simp only[Bool.toNat_true];omega
 ·rw[decide_eq_false h];simp only[Bool.toNat_false];omega
theorem aKq (a:BitVec 32):bits .and .u32 (a.toNat:Int) 2147483648=if a.msb then 2147483648 else 0:=by
 rw[show(2147483648:Int)=((2147483648:Nat):Int) from rfl,u32_and_nat _ _ a.isLt (by decide),show(2147483648:Nat)=2^31 from rfl,Go.nat_bit 31 a.toNat];have h:=WD a;have h2:a.toNat/2^31=a.msb.toNat:=by
  have:((a.toNat/2^31:Nat):Int)=(a.msb.toNat:Int):=by rw[<-h];omega
  exact Int.ofNat_inj.1 this
 rw[h2]
 cases a.msb<;>rfl
theorem WE (a:BitVec 32):bits .xor .u32 (a.toNat:Int) 79764919=((a^^^79764919#32).toNat:Int):=by
 have h:=DW a (79764919#32);have e:(((79764919#32:BitVec 32).toNat:Nat):Int)=79764919:=by decide
 rwa[e] at h
theorem WF (c:BitVec 32) (s:List UInt8) (k:Nat) (b:UInt8) (h:s[k]? =some b):kQ c (s.take (k+1))=nY (kQ c (s.take k)) b.toNat 8:=by
 rw[cQ,h,mX,aIw]
abbrev QR:=Int×Int×Int
def aVe (x:QR) (p fr:Int):Ent:=⟨p+gA x.1 300,40*(1+gA x.2.2 9),fr,1+gA x.2.1 30,gA x.2.2 1000⟩
def aUp:List QR->Int->Int->List Ent
 |[],_,_=>[]
 |x::l,p,fr=>aVe x p fr::aUp l (p+gA x.1 300+1) (fr+(1+gA x.2.1 30))
def aUt:List QR->Int->Int
 |[],p=>p
 |x::l,p=>aUt l (p+gA x.1 300+1)
def aUs:List QR->Int->Int
 |[],fr=>fr
 |x::l,fr=>aUs l (fr+(1+gA x.2.1 30))
theorem aWg (x:QR):∀(l:List QR) (p fr:Int),aUp (l++[x]) p fr=aUp l p fr++[aVe x (aUt l p) (aUs l fr)]
 |[],_,_=>rfl
 |y::l,p,fr=>by
  show _::aUp (l++[x]) _ _=_::(aUp l _ _++_);rw[aWg x l];rfl
theorem aWh (x:QR):∀(l:List QR) (p:Int),aUt (l++[x]) p=aUt l p+gA x.1 300+1
 |[],_=>rfl
 |y::l,p=>aWh x l _
theorem aWi (x:QR):∀(l:List QR) (fr:Int),aUs (l++[x]) fr=aUs l fr+(1+gA x.2.1 30)
 |[],_=>rfl
 |y::l,fr=>aWi x l _
theorem aWj:∀(l:List QR) (p:Int),p<=aUt l p/\aUt l p<=p+300*(l.length:Int)
 |[],p=>⟨lJ _,by simp[aUt]⟩
 |x::l,p=>by
  obtain⟨h1,h2⟩:=aWj l (p+gA x.1 300+1);obtain⟨p1,p2⟩:=vU x.1 300 (by decide);show p<=aUt l (p+gA x.1 300+1)/\aUt l (p+gA x.1 300+1)<=_;rw[cR];push_cast;omega
theorem aVr:∀(l:List QR) (fr:Int),fr<=aUs l fr/\aUs l fr<=fr+30*(l.length:Int)
 |[],p=>⟨lJ _,by simp[aUs]⟩
 |x::l,p=>by
  obtain⟨h1,h2⟩:=aVr l (p+(1+gA x.2.1 30));obtain⟨p1,p2⟩:=vU x.2.1 30 (by decide);show p<=aUs l (p+(1+gA x.2.1 30))/\aUs l (p+(1+gA x.2.1 30))<=_;rw[cR];push_cast;omega
theorem aVs:∀(l:List QR) (p fr:Int),(aUp l p fr).length=l.length
 |[],_,_=>rfl
 |x::l,p,fr=>by
  show(aUp l _ _).length+1=_;rw[aVs l];rfl
theorem aWk:∀(l:List QR) (p fr lo:Int),lo<p->aU0 fr lo (aUp l p fr)
 |[],_,_,_,_=>trivial
 |x::l,p,fr,lo,h=>by
  obtain⟨p1,p2⟩:=vU x.1 300 (by decide);obtain⟨q1,q2⟩:=vU x.2.1 30 (by decide);obtain⟨r1,r2⟩:=vU x.2.2 9 (by decide);refine⟨⟨rfl,?_,?_,?_,?_,?_,?_⟩,?_⟩
  ·show 1<=1+gA x.2.1 30;omega
  ·show 1+gA x.2.1 30<=18720;omega
  ·show 40<=40*(1+gA x.2.2 9);omega
  ·show 40*(1+gA x.2.2 9)<=360;omega
  ·show 40*(1+gA x.2.2 9)%40=0;omega
  ·show lo<p+gA x.1 300;omega
  ·exact aWk l _ _ _ (by show p+gA x.1 300<_;omega)
theorem aWl:∀(l:List QR) (p fr:Int),aU3 (aUp l p fr)=aUs l fr-fr
 |[],_,fr=>by show(0:Int)=fr-fr;omega
 |x::l,p,fr=>by
  show aU3 (aVe x p fr::aUp l _ _)=aUs l _-fr;rw[aWo,aWl l];show(1+gA x.2.1 30)+_=_;omega
def aUv (raw:List QR):List Ent:=aUp (raw.take 20) 32 0
theorem aX4 (raw:List QR):aU1 (aUv raw):=aWk _ _ _ _ (by decide)
theorem aYa (raw:List QR):(aUv raw).length<=20:=by unfold aUv;rw[aVs,aX];omega
theorem aX5 (raw:List QR):aVm (aUv raw)=aU3 (aUv raw):=if_pos (aX4 raw)
theorem aYb (raw:List QR):0<=aVm (aUv raw)/\aVm (aUv raw)<=600:=by
 rw[aX5];unfold aUv;rw[aWl];have h:=aVr (raw.take 20) 0;have hl:(raw.take 20).length<=20:=by rw[aX];omega
 omega
end Go.Proofs.YtjkjeamepgjicaaGreatDoor
