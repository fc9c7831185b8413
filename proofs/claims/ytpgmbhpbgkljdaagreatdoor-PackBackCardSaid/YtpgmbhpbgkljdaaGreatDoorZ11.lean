/-
  Texts put together (part 11): the walks and the plain laws on which the statement stands.
-/
import Derived.RangeFuncNested
import Derived.RangeFuncBound
import Derived.RangeFuncCalls
import Derived.RangeFuncLeaves
import Derived.RangeFuncBox
import Derived.Shelf.RegionOpen
import Derived.OwnWalkIn
import Derived.TacticsInMore
import Derived.LoopNIn
import Derived.LoopIn
import Derived.OrdersIn
import Derived.Test.YtpgmbhpbgkljdaaGreatDoorZ5
set_option maxRecDepth 100000
set_option maxHeartbeats 12800000
open Array renaming getElem?_eq_some_iff->gQ,replicate_succ->lL,replicate_zero->lM
open Bool renaming noConfusion->tQ
open Go renaming CallsIn->mD,Operand->iM,Program->gD,belowK_b->pJ,callsIn_of_wp->tW,cell_kept->tX,grownBy_putObj'->mC,heap_setCell_other->kT,ownFrom_below->GT,roundIn_of_wpIn->BL,run_beginRound->CL,run_endLoop->GX,run_endRound->QA,run_enterLoop_outer->aC2,run_takeDeferred->sJ,wpIn_rangeFunc->AL
open Go.Code renaming rangeFunc->wA
open Go.Fence renaming wide->eA
open Go.KeepsOthers renaming setCell->iH
open Go.OwnFrom renaming and->GS
open Go.RowKit.Below renaming heap_alloc->oF,refl->aB
open Go.Value renaming int->bO
open Go.World renaming alloc_heap_new->BC,cell?_setCell_other->iQ,cell?_setCell_same->oM,frozen?_setCell->AU,putObj_heap_other->pK,putObj_heap_same->BD,size_alloc->fV
open List renaming append_assoc->cF,append_toArray->lO,cons_append->gE,drop_eq_getElem_cons->oH,drop_of_length_le->qY,eq_nil_of_length_eq_zero->vK,getD->fF,getElem?_eq_getElem->aN,getElem?_eq_some_iff->eU,getElem?_map->dY,length_append->aL,length_cons->cR,length_drop->cI,length_map->bJ,length_nil->cX,length_replicate->vO,length_singleton->fK,length_take->aX,mem_of_getElem?->cH,nil_append->iG,push_toArray->lN,replicate->bB,size_toArray->mY
open Nat renaming add_assoc->dZ,le_refl->aA,le_succ->pI,lt_of_lt_of_le->dR,reduceAdd->lZ,reduceSub->mZ,sub_self->oI,zero_le->aU
open Option renaming some->bA
namespace Go.Proofs.YtpgmbhpbgkljdaaGreatDoor
section
open Go.RowKit
def nL (d:List Int):Int:=if num d<=1099511627776 then(num d:Int) else 0
def lA (d:List Int):Int:=if num d<=1099511627776 then 0 else 4
end
section
open Go.RowKit Go.Shelf
attribute [local go_sem] Oper.semAt_some
def bv (b:Bool):Int:=if b then 1 else 0
def oW {α:Type} (f:Nat->α) (k:Nat):List α:=(List.range k).map f
theorem LL {α:Type} (f:Nat->α) (k:Nat):oW f (k+1)=oW f k++[f k]:=by simp[oW,List.range_succ]
theorem aLd {α:Type} (f:Nat->α) (k:Nat):(oW f k).length=k:=by simp[oW]
def bk (ds:List Bool) (j:Nat):Nat×Bool:=(ds.length-1-j,ds[ds.length-1-j]?.getD false)
def DY (x:Nat×Bool):Array Value:=#[bO .i64 (x.1:Int),bO .i64 (bv x.2)]
def KpB (n₀ Bs:Nat) (A B:World):Prop:=Below n₀ A B/\B.heap[Bs]? =A.heap[Bs]?
theorem DZ {n₀ Bs:Nat} {A B C:World} (h:KpB n₀ Bs A B) (k:KpB n₀ Bs B C):KpB n₀ Bs A C:=⟨h.1.trans k.1,k.2.trans h.2⟩
theorem LM {n₀ Bs:Nat} {w:World} (hn:n₀<=w.heap.size) (hB:Bs<w.heap.size) (W:World) (l:Nat) (o o':Obj) (hl:w.heap.size<=l) (h:W.heap[l]? =some o) (h1:o.isCells=false) (h2:o.isWalk=false):KpB n₀ Bs W (W.putObj l o'):=
 ⟨pJ hn W l o o' hl h h1 h2,(mC W l o').block Bs (by have:=(gQ.1 h).1;omega) (fun e=>by cases e;omega)⟩
theorem KpB.cell {n₀ Bs:Nat} {A B:World} (h:KpB n₀ Bs A B) (k:Nat):B.cell? ⟨Bs,k,none⟩=A.cell? ⟨Bs,k,none⟩:=World.cell?_of_block h.2
theorem aLe (F:Fence) (n:Nat) (h7:F.fn 235) (hro:F.round=none) (hn:1<=n) (l Bs n₀ b off cap:Nat) (ds:List Bool) (hreach:ds.length<=1000000) (hb:b<n₀) (J Jx:List (Nat×Bool)->World->Prop)
  (hY:∀pre x W,J pre W->pre.length<ds.length->YieldAt F (n-1) Tryz.prog l (DY x) W fun e W'=>
   (e=.returned (.bool true)/\J (pre++[x]) W'/\KpB n₀ Bs W W')\/(e=.returned (.bool false)/\Jx (pre++[x]) W'))
  (W:World) (hBs:W.cell? ⟨Bs,0,none⟩=some (.slice (some ⟨b,off,none⟩) ds.length cap)) (hc:∀j,j<ds.length->W.cell? ⟨b,off+j,none⟩=some (.int .i64 (bv (ds[j]?.getD false)))) (h0:J [] W):
  mD F n Tryz.prog 235 #[.func (.yield l) #[] #[],.pointer (some ⟨Bs,0,none⟩)] W fun e W'=>(∃v,e=.returned v)/\
   ((∃ys,ys=oW (bk ds) ds.length/\J ys W')\/(∃pre,(∃k,k<=ds.length/\pre=oW (bk ds) k)/\Jx pre W')):=by
 refine tW Tryz.func235 rfl h7 ?_ hro;simp only[Tryz.ntmps235,mY,cR,cX,lZ,mZ,lL,lM,lN,lO,iG,gE]
 gi_wp2
 gi_loopw [3] (fun i wr=>∃q:Nat,q<=ds.length/\i=.int .i64 ((q:Int)-1)/\J (oW (bk ds) (ds.length-q)) wr/\KpB n₀ Bs W wr)
  (fun i _=>(intOf i+1).toNat)
 case atStart=>exact⟨ds.length,aA _,rfl,by rw[oI];exact h0,aB _ _,rfl⟩
 case round=>
  obtain⟨q,hq,hi,hJs,hnx⟩:=hrel
  cases q with
  |zero=>
   rw[show(((0:Nat):Int)-1)= -1 by omega] at hi;subst hi
   gi_wp2
   go_end0
   exact⟨⟨_,rfl⟩,.inl ⟨_,rfl,by rw[Nat.sub_zero] at hJs;exact hJs⟩⟩
  |succ p=>
   rw[show(((p+1:Nat):Int)-1)=(p:Int) by omega] at hi;subst hi;have e1:ds.length-1-(ds.length-(p+1))=p:=by omega
   have hbs:=(hnx.cell 0).trans hBs;have hcx:=(hnx.1.cell (p:=⟨b,off+p,none⟩) hb).trans (hc p (by omega));obtain⟨fn,tmps,assign,body,hy,hR⟩:=hY _ (bk ds (ds.length-(p+1))) wr hJs (by rw[aLd];omega);unfold DY bk at hy;dsimp only at hy;rw[e1] at hy
   gi_wp2
   refine hR.mono ?_;rintro e W3 (⟨rfl,hJ3,hk3⟩|⟨rfl,hJx3⟩)
   ·gi_wp2
    go_roundw
    case rel=>exact⟨p,by omega,by go_num,by rw[show ds.length-p=(ds.length-(p+1))+1 by omega,LL];exact hJ3,DZ hnx hk3⟩
    case measure=>simp[intOf]
   ·gi_wp2
    refine bodyPost_ret (results_none rfl _ _ _) rfl ?_;exact⟨⟨_,rfl⟩,.inr ⟨_,⟨ds.length-(p+1)+1,by omega,(LL _ _).symm⟩,hJx3⟩⟩
theorem aLf (F:Fence) (n:Nat) (h7:F.fn 235) (hro:F.round=none) (l Bs cap:Nat) (a:Option Addr) (J:List (Nat×Bool)->World->Prop) (W:World) (hBs:W.cell? ⟨Bs,0,none⟩=some (.slice a 0 cap)) (h0:J [] W):
  mD F n Tryz.prog 235 #[.func (.yield l) #[] #[],.pointer (some ⟨Bs,0,none⟩)] W fun e W'=>(∃v,e=.returned v)/\J [] W':=by
 refine tW Tryz.func235 rfl h7 ?_ hro;simp only[Tryz.ntmps235,mY,cR,cX,lZ,mZ,lL,lM,lN,lO,iG,gE]
 gi_wp2
 gi_loopw [3] (fun i wr=>i=.int .i64 (-1)/\J [] wr) (fun _ _=>0)
 case atStart=>exact⟨rfl,h0⟩
 case round=>
  obtain⟨rfl,hJs⟩:=hrel
  gi_wp2
  go_end0
  exact⟨⟨_,rfl⟩,hJs⟩
def zJ (n₀:Nat) (W:World) (sv:Value) (ds:List Bool):Prop:=
 (∃a cap,sv=.slice a 0 cap/\ds=[])\/∃b off cap,sv=.slice (some ⟨b,off,none⟩) ds.length cap/\b<n₀/\∀j,j<ds.length->W.cell? ⟨b,off+j,none⟩=some (.int .i64 (bv (ds[j]?.getD false)))
theorem zJ.below {n₀:Nat} {A B:World} (h:Below n₀ A B) {sv:Value} {ds:List Bool}:zJ n₀ A sv ds->zJ n₀ B sv ds
 |.inl e=>.inl e
 |.inr ⟨b,off,cap,e,hb,hc⟩=>.inr ⟨b,off,cap,e,hb,fun j hj=>(h.cell (p:=⟨b,off+j,none⟩) hb).trans (hc j hj)⟩
theorem aLg (F:Fence) (n:Nat) (h7:F.fn 235) (hro:F.round=none) (hn:1<=n) (Bs n₀:Nat) (sv:Value) (ds:List Bool) (hreach:ds.length<=1000000) (w:World) (hBs:Bs<w.heap.size) (hn₀:n₀<=w.heap.size)
  (hc:w.cell? ⟨Bs,0,none⟩=some sv) (hI:zJ n₀ w sv ds):
  SeqStopsK F n Tryz.prog 235 #[.pointer (some ⟨Bs,0,none⟩)] DY (KpB n₀ Bs) (fun ys=>ys=oW (bk ds) ds.length)
   (fun pre=>∃k,k<=ds.length/\pre=oW (bk ds) k) ds.length w:=fun l J Jx W hW _ _ hY h0=>by
 have hc':=(hW.cell (p:=⟨Bs,0,none⟩) hBs).trans hc;rcases hI.below (hW.mono hn₀) with⟨a,cap,rfl,rfl⟩|⟨b,off,cap,rfl,hb,hcs⟩
 ·exact(aLf F n h7 hro l Bs cap a J W hc' h0).mono fun e W' ⟨he,hj⟩=>⟨he,.inl ⟨_,rfl,hj⟩⟩
 ·exact aLe F n h7 hro hn l Bs n₀ b off cap ds hreach hb J Jx hY W hc' hcs h0
theorem aLh (F:Fence) (n:Nat) (h5:F.fn 234) (hro:F.round=none) (a:Option Addr) (len cap:Nat) (w:World):
  mD F n Tryz.prog 234 #[.slice a len cap] w fun e w'=>e=.returned (.func (.func 235) #[] #[.pointer (some ⟨w.heap.size,0,none⟩)])/\w'=w.alloc (.cells #[.slice a len cap] 39):=by
 refine tW Tryz.func234 rfl h5 ?_ hro;simp only[Tryz.ntmps234,mY,cR,cX,lZ,mZ,lL,lM,lN,lO,iG,gE]
 gi_wp2
 go_ret;exact⟨rfl,rfl⟩
def hor (l:List (Nat×Bool)):Nat:=l.foldl (fun n x=>2*n+(if x.2 then 2 else 1)) 0
theorem WQ (l:List (Nat×Bool)) (x:Nat×Bool):hor (l++[x])=2*hor l+(if x.2 then 2 else 1):=by simp[hor]
theorem WR (ds:List Bool):∀k,k<=ds.length->hor (oW (bk ds) k)=num ((ds.drop (ds.length-k)).map bv):=by
 intro k
 induction k with
 |zero=>intro _;simp[oW,hor,num]
 |succ k ih=>
  intro hk;have hlt:ds.length-(k+1)<ds.length:=by omega
  rw[LL,WQ,ih (by omega),oH hlt,List.map_cons,num,show ds.length-(k+1)+1=ds.length-k by omega];have e:(bk ds k).2=ds[ds.length-(k+1)]:=by
   unfold bk;rw[show ds.length-1-k=ds.length-(k+1) by omega,aN hlt];rfl
  rw[e]
  cases ds[ds.length-(k+1)]
  ·simp[bv];omega
  ·simp[bv];omega
theorem aLi:∀(l:List Int) (k:Nat),num (l.drop k)<=num l:=by
 intro l
 induction l with
 |nil=>intro k;simp
 |cons d l ih=>
  intro k
  cases k with
  |zero=>simp
  |succ k=>rw[List.drop_succ_cons,num];have:=ih k;omega
theorem aLj (ds:List Bool):fP (fun x=> !(x==0)&& !(x==1)) (ds.map bv)= -1:=by
 apply oN;intro x hx;obtain⟨b,_,rfl⟩:=List.mem_map.1 hx
 cases b<;>rfl
theorem aLk (n:Nat) (hn:3<=n) (a:Option Addr) (cap:Nat) (ds:List Bool) (hreach:ds.length<=1000000) (w:World) (hr:RdI w (.slice a ds.length cap) (ds.map bv)) (hI:zJ w.heap.size w (.slice a ds.length cap) ds):
  mD eA n Tryz.prog 227 #[.slice a ds.length cap] w fun e W'=>e=.returned (.tuple #[.int .i64 (nL (ds.map bv)),.int .i64 (lA (ds.map bv))])/\Below w.heap.size w W':=by
 have h1:1<=n:=by omega
 have hro:eA.round=none:=rfl;have hcf:∀W,Below w.heap.size w W->Calls Tryz.prog 105 #[.slice a ds.length cap,.func (.func 233) #[] #[]] W fun e w'=>e=.returned (.bool false)/\w'=W:=fun W hW=>
  (uN 233 #[] (fun x=> !(x==0)&& !(x==1)) (.slice a ds.length cap) (ds.map bv) W (hr.below hW) (enters_of Tryz.func233 (by kernel_rfl) rfl) (fun W _ x _=>aF9 x W)).mono fun e w' ⟨h1,h2⟩=>by
  rw[aLj] at h1;exact⟨h1,h2⟩
 refine callsIn_of_wp_marks Tryz.func227 rfl trivial ?_ hro;simp only[Tryz.ntmps227,mY,cR,cX,lZ,mZ,lL,lM,lN,lO,iG,gE]
 gi_wp2_with fail
 have hB0:Below w.heap.size w ((w.alloc (.cells #[.int .i64 0] 3)).alloc (.cells #[.int .i64 0] 26)):=((aB _ w).alloc (aA _) _).alloc (by simp) _;refine⟨trivial,(callsIn_wide.2 (hcf _ hB0)).mono ?_⟩;rintro e w' ⟨rfl,rfl⟩
 gi_wp2_with fail
 refine⟨trivial,(aLh eA (n-1) trivial hro a ds.length cap _).mono ?_⟩;rintro e w' ⟨rfl,rfl⟩;have bR:=Boxed.new w 3 (.int .i64 0);have bE:=Boxed.new (w.alloc (.cells #[.int .i64 0] 3)) 26 (.int .i64 0);have bN:=Boxed.new ((w.alloc (.cells #[.int .i64 0] 3)).alloc (.cells #[.int .i64 0] 26)) 39 (.slice a ds.length cap);rw[fV] at bE;rw[fV,fV] at bN;have hB1:=hB0.alloc (o:=.cells #[.slice a ds.length cap] 39) (by simp;omega)
 gi_wp2_with fail
 refine wpIn_rangeFunc_ownG hro h1 (gf:=235) (lb:=#[.pointer (some ⟨w.heap.size+1+1,0,none⟩)]) rfl trivial (enters_of Tryz.func235 (by kernel_rfl) rfl)
  (aLg eA (n-1) trivial hro (by omega) (w.heap.size+1+1) w.heap.size _ ds hreach _ (by simp) (by simp;omega) bN.cell (hI.below hB1)) DZ (LM (by simp;omega) (by simp)) (aB _ _) (fun _=>rfl)
  (fun pre W=>(hor pre<=1099511627776/\(W.cell? ⟨w.heap.size,0,none⟩=some (.int .i64 (hor pre:Int))/\W.frozen? ⟨w.heap.size,0,none⟩=false)/\(W.cell? ⟨w.heap.size+1,0,none⟩=some (.int .i64 0)/\W.frozen? ⟨w.heap.size+1,0,none⟩=false))/\Below w.heap.size w W)
  (fun c pre W=>(c=.ret/\1099511627776<hor pre/\W.cell? ⟨w.heap.size,0,none⟩=some (.int .i64 0)/\W.cell? ⟨w.heap.size+1,0,none⟩=some (.int .i64 4))/\Below w.heap.size w W)
  (GS (Own.from (fun s A B row hs hg hr=>⟨hs.1,⟨tX hs.2.1.1 hg hr,(frozen_kept hs.2.1.1 hg hr).trans hs.2.1.2⟩,tX hs.2.2.1 hg hr,(frozen_kept hs.2.2.1 hg hr).trans hs.2.2.2⟩) _) (GT (aA _) (by simp;omega)))
  (fun c=>GS (Own.from (fun s A B row hs hg hr=>⟨hs.1,hs.2.1,tX hs.2.2.1 hg hr,tX hs.2.2.2 hg hr⟩) _) (GT (aA _) (by simp;omega)))
  ⟨⟨by simp[hor],⟨((bR.alloc _).alloc _).cell,((bR.alloc _).alloc _).frozen⟩,(bE.alloc _).cell,(bE.alloc _).frozen⟩,hB1⟩
  (fun x=>{tmps:=#[.slice a ds.length cap,undef,.pointer (some ⟨w.heap.size,0,none⟩),.pointer (some ⟨w.heap.size+1,0,none⟩),undef,.int .i64 (bv x.2),.slice a ds.length cap,.bool false,.slice a ds.length cap,.func (.func 235) #[] #[.pointer (some ⟨w.heap.size+1+1,0,none⟩)],.int .i64 (x.1:Int),.int .i64 (bv x.2),undef,undef,undef,undef,undef,undef,undef,undef],defers:=[]}) ?assign ?body ?done ?stop
 case assign=>
  intro l x W K hK;unfold DY
  gi_wp2
  exact hK
 case body=>
  rintro l pre ⟨i,b⟩ W ⟨⟨hle,⟨hc,hf⟩,hce,hfe⟩,hB⟩ _;obtain⟨h,hh⟩:∃h,h=hor pre:=⟨_,rfl⟩;have hs:=WQ pre (i,b);rw[<-hh] at hle hc hs;have HS:=hid hs;have hne:w.heap.size+1+1≠w.heap.size:=by omega
  clear hh hs hcf hr;have hnA:(⟨w.heap.size+1,0,none⟩:Addr)≠⟨w.heap.size,0,none⟩:=fun e=>by have:=congrArg Addr.block e;simp at this
  have hnB:(⟨w.heap.size,0,none⟩:Addr)≠⟨w.heap.size+1,0,none⟩:=fun e=>hnA e.symm
  cases b
  ·have hbv:bv false=0:=rfl;dsimp only
   rw[hbv]
   by_cases hbig:1099511627776<2*h+1
   ·have t1:decide ((1099511627776:Int)<2*(h:Int)+1)=true:=decide_eq_true (by omega);have t2:(1099511627776:Int)<2*(h:Int)+1:=by omega
    gi_wp2
    refine⟨(((iH W _ _).trans (iH _ _ _)).trans (iH _ _ _)).from _,⟨rfl,by rw[HS.out,if_neg (by decide)];omega,?_,?_⟩,
     ((hB.setCell (p:=⟨w.heap.size,0,none⟩) (aA _) _).setCell (p:=⟨w.heap.size,0,none⟩) (aA _) _).setCell (p:=⟨w.heap.size+1,0,none⟩) (pI _) _⟩
    ·rw[iQ _ _ _ _ hnA];exact oM _ _ _ (oM _ _ _ hc)
    ·refine oM (u:=.int .i64 0) _ _ _ ?_;rw[iQ _ _ _ _ hnB,iQ _ _ _ _ hnB];exact hce
   ·have t1:decide ((1099511627776:Int)<2*(h:Int)+1)=false:=decide_eq_false (by omega);have t2:2*(h:Int)+1<=(1099511627776:Int):=by omega
    gi_wp2
    refine⟨(iH W _ _).from _,⟨(aB w.heap.size W).setCell (p:=⟨w.heap.size,0,none⟩) (aA _) _,kT _ _ _ _ hne⟩,⟨by rw[HS.out,if_neg (by decide)];omega,⟨?_,?_⟩,?_,?_⟩,hB.setCell (p:=⟨w.heap.size,0,none⟩) (aA _) _⟩
    ·have e:(hor (pre++[(i,false)]):Int)=2*(h:Int)+1:=by rw[HS.out,if_neg (by decide)];omega
     rw[e];exact oM _ _ _ hc
    ·rw[AU];exact hf
    ·rw[iQ _ _ _ _ hnB];exact hce
    ·rw[AU];exact hfe
  ·have hbv:bv true=1:=rfl;dsimp only
   rw[hbv]
   by_cases hbig:1099511627776<2*h+2
   ·have t1:decide ((1099511627776:Int)<2*(h:Int)+1+1)=true:=decide_eq_true (by omega);have t2:(1099511627776:Int)<2*(h:Int)+1+1:=by omega
    gi_wp2
    refine⟨(((iH W _ _).trans (iH _ _ _)).trans (iH _ _ _)).from _,⟨rfl,by rw[HS.out,if_pos trivial];omega,?_,?_⟩,
     ((hB.setCell (p:=⟨w.heap.size,0,none⟩) (aA _) _).setCell (p:=⟨w.heap.size,0,none⟩) (aA _) _).setCell (p:=⟨w.heap.size+1,0,none⟩) (pI _) _⟩
    ·rw[iQ _ _ _ _ hnA];exact oM _ _ _ (oM _ _ _ hc)
    ·refine oM (u:=.int .i64 0) _ _ _ ?_;rw[iQ _ _ _ _ hnB,iQ _ _ _ _ hnB];exact hce
   ·have t1:decide ((1099511627776:Int)<2*(h:Int)+1+1)=false:=decide_eq_false (by omega);have t2:2*(h:Int)+1+1<=(1099511627776:Int):=by omega
    gi_wp2
    refine⟨(iH W _ _).from _,⟨(aB w.heap.size W).setCell (p:=⟨w.heap.size,0,none⟩) (aA _) _,kT _ _ _ _ hne⟩,⟨by rw[HS.out,if_pos trivial];omega,⟨?_,?_⟩,?_,?_⟩,hB.setCell (p:=⟨w.heap.size,0,none⟩) (aA _) _⟩
    ·have e:(hor (pre++[(i,true)]):Int)=2*(h:Int)+1+1:=by rw[HS.out,if_pos trivial];omega
     rw[e];exact oM _ _ _ hc
    ·rw[AU];exact hf
    ·rw[iQ _ _ _ _ hnB];exact hce
    ·rw[AU];exact hfe
 case done=>
  rintro D ys W hD rfl ⟨⟨hle,⟨hc,hf⟩,hce,hfe⟩,hB⟩ hK;rw[WR ds _ (aA _),oI,List.drop_zero] at hle hc;have hv:nL (ds.map bv)=(num (ds.map bv):Int):=by unfold nL;rw[if_pos hle]
  have he:lA (ds.map bv)=0:=by unfold lA;rw[if_pos hle]
  have HVE:=hid (And.intro hv he);clear hv he
  gi_wp2
  have hnB:(⟨w.heap.size,0,none⟩:Addr)≠⟨w.heap.size+1,0,none⟩:=fun e=>by have:=congrArg Addr.block e;simp at this
  have hnA:(⟨w.heap.size+1,0,none⟩:Addr)≠⟨w.heap.size,0,none⟩:=fun e=>hnB e.symm
  obtain⟨V,hV⟩:∃V,V=num (ds.map bv):=⟨_,rfl⟩;have hK':=((iH W ⟨w.heap.size,0,none⟩ (.int .i64 (num (ds.map bv):Int))).trans (iH _ ⟨w.heap.size+1,0,none⟩ (.int .i64 0))).same D _ hK rfl;refine⟨by simp,.inl ⟨_,_,rfl,sJ hK',?_⟩⟩;have hc4:((W.setCell ⟨w.heap.size,0,none⟩ (.int .i64 (num (ds.map bv):Int))).setCell ⟨w.heap.size+1,0,none⟩ (.int .i64 0)).cell? ⟨w.heap.size,0,none⟩=some (.int .i64 (num (ds.map bv):Int)):=by
   rw[iQ _ _ _ _ hnA];exact oM _ _ _ hc
  have hc5:((W.setCell ⟨w.heap.size,0,none⟩ (.int .i64 (num (ds.map bv):Int))).setCell ⟨w.heap.size+1,0,none⟩ (.int .i64 0)).cell? ⟨w.heap.size+1,0,none⟩=some (.int .i64 0):=by
   refine oM (u:=.int .i64 0) _ _ _ ?_;rw[iQ _ _ _ _ hnB];exact hce
  have hc6:=tX hc4 (mC _ D (.deferred none)) (fun r e=>by cases e;exact⟨_,hK',rfl⟩);have hc7:=tX hc5 (mC _ D (.deferred none)) (fun r e=>by cases e;exact⟨_,hK',rfl⟩);refine⟨.tuple #[.int .i64 (num (ds.map bv):Int),.int .i64 0],?_,by rw[HVE.out.1,HVE.out.2],((hB.setCell (p:=⟨w.heap.size,0,none⟩) (aA _) _).setCell (p:=⟨w.heap.size+1,0,none⟩) (pI _) _).trans (pJ (w:=w) (aA _) _ D _ _ (by simp at hD;omega) hK' rfl rfl)⟩;simp[results,Tryz.f227,go_sem,hc6,hc7]
 case stop=>
  rintro D c pre W hD ⟨k,hk,rfl⟩ ⟨⟨rfl,hlt,hc,hce⟩,hB⟩ hK;rw[WR ds _ hk] at hlt;have hge:num ((ds.drop (ds.length-k)).map bv)<=num (ds.map bv):=by rw[List.map_drop];exact aLi _ _
  have hv:nL (ds.map bv)=0:=by unfold nL;rw[if_neg (by omega)]
  have he:lA (ds.map bv)=4:=by unfold lA;rw[if_neg (by omega)]
  have HVE:=hid (And.intro hv he);clear hv he
  gi_wp2
  refine⟨by simp,.inl ⟨_,_,rfl,sJ hK,?_⟩⟩;have hc6:=tX hc (mC _ D (.deferred none)) (fun r e=>by cases e;exact⟨_,hK,rfl⟩);have hc7:=tX hce (mC _ D (.deferred none)) (fun r e=>by cases e;exact⟨_,hK,rfl⟩);refine⟨.tuple #[.int .i64 0,.int .i64 4],?_,by rw[HVE.out.1,HVE.out.2],hB.trans (pJ (w:=w) (aA _) W D _ _ (by simp at hD;omega) hK rfl rfl)⟩;simp[results,Tryz.f227,go_sem,hc6,hc7]
theorem aLl (v:Value) (d:List Int) (w:World) (hr:RdI w v d) (hlen:d.length<=1000000) (hd:∀x∈d,x=0\/x=1):
  Calls Tryz.prog 227 #[v] w fun e w'=>e=.returned (.tuple #[.int .i64 (nL d),.int .i64 (lA d)])/\Below w.heap.size w w':=by
 obtain⟨ds,rfl⟩:∃ds:List Bool,d=ds.map bv:=by
  refine⟨d.map (fun x=>decide (x=1)),?_⟩;rw[List.map_map];rw[List.map_congr_left (g:=id) (fun x hx=>by rcases hd x hx with rfl|rfl<;>rfl),List.map_id]
 obtain⟨a,cap,rfl,h1,h2,h3⟩:=hr.open;rw[bJ] at hr hlen h3 h1 ⊢;refine callsIn_wide.1 (aLk 3 (aA _) a cap ds hlen w hr ?_);rcases Nat.eq_zero_or_pos ds.length with h0|h0
 ·exact .inl ⟨a,cap,by rw[h0],vK h0⟩
 ·obtain⟨b,off,rfl,hb,hc⟩:=h3 h0;exact .inr ⟨b,off,cap,rfl,hb,fun j hj=>hc j _ (by rw[dY,aN hj];simp)⟩
end
section
open Go.RowKit
theorem WS (l:List Int):dA l=bB (num (l.take (eY 1 l))) 0++dA (l.drop (eY 1 l)):=by
 have hr:=IR (l.take (eY 1 l)) 0 1 (l.drop (eY 1 l)) (fun x hx=>by have:=yM 1 l x hx;omega);rw[List.take_append_drop] at hr;have e0:dA l=zx 0 1 l:=rfl;rw[e0,hr];rcases Nat.lt_or_ge (eY 1 l) l.length with h|h
 ·have hx:=aN h;have:=vY 1 l hx;rw[oH h];have e1:dA (l[eY 1 l]::l.drop (eY 1 l+1))=(l[eY 1 l]-1)::dA (l.drop (eY 1 l+1)):=by rw[dA,CB (by omega)];simp
  rw[e1,CB (by omega)];simp
 ·rw[qY h,IS];simp[dA,IS]
theorem WT {x:Int} {l:List Int} (h:1<x):dA (x::l)=(x-1)::dA l:=by
 rw[dA,CB (by omega)];simp
def oX (m:List Int) (most:Int):List Int:=if((dA m).length:Int)<=most then dA m else[]
def nZ (m:List Int) (most:Int):Int:=if((dA m).length:Int)<=most then 0 else 4
theorem rW {m:List Int} {most:Int} (h:¬((dA m).length:Int)<=most):oX m most=[]/\nZ m most=4:=by
 unfold oX nZ;rw[if_neg h,if_neg h];exact⟨rfl,rfl⟩
theorem wO {m:List Int} {most:Int} (h:((dA m).length:Int)<=most):oX m most=dA m/\nZ m most=0:=by
 unfold oX nZ;rw[if_pos h,if_pos h];exact⟨rfl,rfl⟩
theorem WU {w:World} {b off cap:Nat} {l:List Int} (hb:b<w.heap.size) (hc:∀j x,l[j]? =some x->w.cell? ⟨b,off+j,none⟩=some (.int .i64 x)) (i n:Nat) (hi:i+n<=l.length) (hcap:l.length<=cap) (hm:cap<=maxLen):
  RdI w (.slice (some ⟨b,off+i,none⟩) n (cap-i)) ((l.drop i).take n):=by
 have hl:((l.drop i).take n).length=n:=by rw[aX,cI];omega
 refine⟨some ⟨b,off+i,none⟩,cap-i,by rw[hl],by rw[hl];omega,by omega,.inr ⟨b,off+i,rfl,hb,fun j hj=>?_⟩⟩;rw[bJ,hl] at hj;have hx:l[i+j]? =some (l[i+j]'(by omega)):=aN _;rw[dZ,hc _ _ hx];have h2:((l.drop i).take n)[j]? =some (l[i+j]'(by omega)):=by rw[List.getElem?_take_of_lt hj,List.getElem?_drop,hx]
 rw[fF,dY,h2];rfl
theorem aLn (w:World) (n:Nat):pQ (w.alloc (.cells (fB (.int .i64 0) n) 3)) (.slice (some ⟨w.heap.size,0,none⟩) n n) (bB n 0):=by
 refine .inr ⟨w.heap.size,0,n,by rw[vO],by simp,fun j x hx=>?_⟩;obtain⟨hj,hx'⟩:=eU.1 hx;rw[vO] at hj;rw[List.getElem_replicate] at hx';subst hx';rw[Nat.zero_add];exact(Arr.made w 3 (.int .i64 0) n).cell (by simp[hj])
theorem aLo {l:List Int} (h0:∀x∈l,0<=x):∀x∈l.take (eY 1 l),x=0\/x=1:=fun x hx=>by
 have h1:=yM 1 l x hx;have h2:=h0 x (List.mem_of_mem_take hx);omega
theorem aLp (v:Value) (m:List Int) (most:Int) (w:World) (hr:RdI w v m) (hlen:m.length<=1000000) (hv:∀x∈m,0<=x/\x<=1000000) (hm1: -9223372036854775808<=most) (hm2:most<=1000000) (hne:0<m.length):
  Calls Tryz.prog 218 #[v,.int .i64 most] w fun e w'=>∃v',e=.returned (.tuple #[v',.int .i64 (nZ m most)])/\OwI w' w.heap.size v' (oX m most)/\Below w.heap.size w w':=by
 have hb:Calls Tryz.prog 126 #[v] w fun e w'=>e=.returned (.bool false)/\w'=w:=(JI v m w hr).mono fun e w' ⟨h1,h2⟩=>by
  rw[oN (fun x hx=>decide_eq_false (by have:=hv x hx;omega))] at h1;exact⟨h1,h2⟩
 have HB:=hid hb;obtain⟨a,ca,rfl,hca,hma,hA⟩:=hr.open;obtain⟨b0,o0,rfl,hb0,hc0⟩:=hA hne;have HV:=hid hv;have HA:=hid hc0;have HM0:=hid hma;unfold maxLen at hma;obtain⟨M,hM1,hM2,hM3,hM4,hM5⟩:∃M:Nat,(if most<0 then 0 else most)=(M:Int)/\max most 0=(M:Int)/\M<=1000000/\most<=(M:Int)/\(if 0<most then most else 0)=(M:Int):=⟨most.toNat,by split<;>omega,by omega,by omega,by omega,by split<;>omega⟩;clear hr hA hv hc0 hb;go_enter Tryz.func218,Tryz.ntmps218;go_wp2_with fail;refine HB.out.mono ?_;rintro e w1 ⟨rfl,rfl⟩;clear HB;go_wp2_with fail
 go_loopg [0,8,9,10] m.length (fun gh s0 _s8 _s9 _s10 wq=>∃(rest pre:List Int) (off cap:Nat),s0=.slice (some ⟨b0,off,none⟩) rest.length cap/\rest.length<=cap/\cap<=maxLen/\rest.length<=m.length/\gh=rest.length/\qK wq w1.heap.size pre/\Hid (pre++dA rest=dA m)/\pre.length<=1000001/\
  Below w1.heap.size w1 wq/\Hid (∀j x,rest[j]? =some x->w1.cell? ⟨b0,off+j,none⟩=some (.int .i64 x))/\Hid (∀x∈rest,0<=x/\x<=1000000))
 case atStart=>exact⟨m,[],o0,ca,rfl,hca,HM0.out,aA _,rfl,⟨.slice none 0 0,Arr.new w1 _ _,OwI.nil _ _⟩,hid rfl,by simp,(aB _ _).alloc (aA _) _,HA,HV⟩
 case round=>
 obtain⟨rest,pre,off,cap,rfl,hkc,hcm,hrm,hg,hlay,HP,hpl,hbel,HCL,HR⟩:=hrel;have HG:=hid hg;clear hg
 by_cases hrl:0<rest.length
 ·have hrd:RdI wr (.slice (some ⟨b0,off,none⟩) rest.length cap) rest:=
   ⟨_,_,rfl,hkc,hcm,.inr ⟨b0,off,rfl,dR hb0 hbel.size,fun j hj=>by
    rw[bJ] at hj;rw[hbel.cell (p:=⟨b0,off+j,none⟩) hb0,HCL.out j _ (aN hj)];simp[fF,hj]⟩⟩
  have HRD:=hid hrd;have HCM:=hid hcm;have hle:=vX 1 rest;obtain⟨k,hk⟩:∃k,k=eY 1 rest:=⟨_,rfl⟩;have hzl:=WS rest;have hbits:=aLo (l:=rest) (fun x hx=>(HR.out x hx).1);rw[<-hk] at hle hzl hbits;have HK:=hid hk;obtain⟨N,hN⟩:∃N,N=num (rest.take k):=⟨_,rfl⟩;rw[<-hN] at hzl;have HN:=hid hN;have HZ:=hid hzl;have HBT:=hid hbits;unfold maxLen at hcm;have hlz:=hid (show(dA m).length=pre.length+N+(dA (rest.drop k)).length by
   rw[<-HP.out,aL,HZ.out,aL,vO];omega)
  clear hrd hk hzl hbits hN;go_wp2_with fail;refine(RF _ rest 1 _ HRD.out).mono ?_;rintro e w2 ⟨rfl,h2⟩;rw[<-HK.out];have hlay2:=hlay.below h2;have hB2:=bV hbel h2;have HSUB:=hid (show RdI w2 (.slice (some ⟨b0,off,none⟩) k cap) (rest.take k) by
   have:=WU (w:=w2) (b:=b0) (off:=off) (cap:=cap) (dR hb0 hB2.size) (fun j x hx=>by rw[hB2.cell (p:=⟨b0,off+j,none⟩) hb0];exact HCL.out j x hx) 0 k (by omega) hkc HCM.out
   simpa using this)
  clear hlay hbel HRD h2;go_wp2_with fail;refine(aLl _ (rest.take k) _ HSUB.out (by rw[aX];omega) HBT.out).mono ?_;rintro e w3 ⟨rfl,h3⟩;have hlay3:=hlay2.below h3;have hB3:=bV hB2 h3;clear hlay2 hB2 h3;obtain⟨lv,harr,hown⟩:=hlay3;obtain⟨la,lc,rfl,hlc,hlm,_⟩:=hown.rd.open;have c1:=harr.cell (i:=0) rfl;have hlay3:qK w3 w1.heap.size pre:=⟨_,harr,hown⟩;unfold maxLen at hlm
  by_cases hbig:N<=1099511627776
  ·have nv:nL (rest.take k)=(N:Int):=by unfold nL;rw[<-HN.out,if_pos hbig]
   have ne:lA (rest.take k)=0:=by unfold lA;rw[<-HN.out,if_pos hbig]
   rw[nv,ne];clear nv ne
   by_cases hlong:(M:Int)-(pre.length:Int)<(N:Int)
   ·have t6:decide ((M:Int)-(pre.length:Int)<(N:Int))=true:=decide_eq_true hlong;go_wp2_with fail
    go_ret2
    have e1:¬((dA m).length:Int)<=most:=by have:=hlz.out;omega
    obtain⟨d1,d2⟩:=rW e1;rw[d1,d2];exact⟨_,rfl,OwI.nil _ _,hB3⟩
   ·have t6:decide ((M:Int)-(pre.length:Int)<(N:Int))=false:=decide_eq_false hlong;go_wp2_with (at_make;refine mkA gL rfl _ _ rfl N rfl rfl ?_ ?_;omega);refine(CP w1.heap.size _ pre (bB N 0) _ (hlay3.below ((aB _ _).alloc (aA _) _)) (aLn _ _) (by rw[vO];omega)).mono ?_;rintro e w4 ⟨rfl,hlay4,h4⟩;have hB4:=(bD hB3 _).trans h4;have hl4:(pre++bB N (0:Int)).length=pre.length+N:=by simp
    have HL4:=hid hl4;clear hlay3 harr hown c1 h4 hB3 hl4 t6
    by_cases hend:k=rest.length
    ·have hnew:=hid (show(pre++bB N 0)++dA []=dA m by
      have:=HZ.out;rw[qY (by omega)] at this;rw[cF,<-this];exact HP.out)
     have d1:decide (0<rest.length-k)=false:=decide_eq_false (by omega);have e0:rest.length-k=0:=by omega
     by_cases hcn:cap=k
     all_goals
      go_wp2_with fail;have hg:=HG.out
      go_roundg 0
      case measure=>omega
      case rel=>exact⟨[],_,_,_,rfl,aU _,by unfold maxLen;omega,aU _,rfl,hlay4,hnew,by rw[HL4.out];omega,hB4,hid (fun j x hx=>by simp at hx),hid (fun x hx=>by simp at hx)⟩
    ·have hml:k<rest.length:=by omega
     obtain⟨x,hx⟩:=dH hml;have hxb:=HR.out x (cH hx);have hx1:1<x:=vY 1 rest (by rw[<-HK.out];exact hx);have c1:w4.cell? ⟨b0,off+k,none⟩=some (.int .i64 x):=by
      rw[hB4.cell (p:=⟨b0,off+k,none⟩) hb0];exact HCL.out k x hx
     have hnew:=hid (show((pre++bB N 0)++[x-1])++dA (rest.drop (k+1))=dA m by
      have:=HZ.out;rw[oH hml,(eU.1 hx).2,WT hx1] at this;rw[cF,cF,List.singleton_append,<-this];exact HP.out)
     have d1:decide (0<rest.length-k)=true:=decide_eq_true (by omega);have d2:0<rest.length-k:=by omega
     have hcn:¬cap=k:=by omega
     have hl:=hid (show rest.length-k-1=(rest.drop (k+1)).length by rw[cI];omega);have hR':Hid (∀x∈rest.drop (k+1),0<=x/\x<=1000000):=hid (fun y hy=>HR.out y (List.mem_of_mem_drop hy));have HE:=hid hend;clear hx hend
     by_cases hc1:cap-k=1
     all_goals
      go_wp2_with fail;refine(CP w1.heap.size _ (pre++bB N 0) [x-1] _ (hlay4.below ((aB _ _).alloc (aA _) _)) (RG _ _ _) (by rw[HL4.out,fK];omega)).mono ?_;rintro e w5 ⟨rfl,hlay5,h5⟩;have hB5:=(bD hB4 _).trans h5;go_wp2_with fail;rw[hl.out];have hg:=HG.out
      go_roundg (rest.drop (k+1)).length
      case measure=>rw[cI];omega
     ·refine⟨rest.drop (k+1),_,off+k,0,rfl,by rw[cI];omega,by simp[maxLen],by rw[cI];omega,rfl,hlay5,hnew,by rw[aL,HL4.out,fK];omega,hB5,hid (fun j y hy=>?_),hR'⟩;rw[qY (by omega)] at hy;simp at hy
     ·refine⟨rest.drop (k+1),_,off+k+1,cap-k-1,rfl,by rw[cI];omega,by unfold maxLen;omega,by rw[cI];omega,rfl,hlay5,hnew,by rw[aL,HL4.out,fK];omega,hB5,hid (fun j y hy=>?_),hR'⟩;have:=RdI.dropS HCL.out (k+1) j y hy;rw[dZ off k 1];exact this
  ·have ne:lA (rest.take k)=4:=by unfold lA;rw[<-HN.out,if_neg hbig]
   rw[ne];clear ne;go_wp2_with fail
   go_ret2
   have e1:¬((dA m).length:Int)<=most:=by have:=hlz.out;omega
   obtain⟨d1,d2⟩:=rW e1;rw[d1,d2];exact⟨_,rfl,OwI.nil _ _,hB3⟩
 ·have hre:rest=[]:=vK (by omega);subst hre;obtain⟨lv,harr,hown⟩:=hlay;obtain⟨la,lc,rfl,hlc,hlm,_⟩:=hown.rd.open;have c1:=harr.cell (i:=0) rfl;unfold maxLen at hlm;have hie:=hid (show pre=dA m by have:=HP.out;rw[show dA []=[] from rfl,List.append_nil] at this;exact this)
  by_cases hlong:most<(pre.length:Int)
  ·have t6:decide (most<(pre.length:Int))=true:=decide_eq_true hlong;go_wp2_with fail
   go_ret2
   have e1:¬((dA m).length:Int)<=most:=by rw[<-hie.out];omega
   obtain⟨d1,d2⟩:=rW e1;rw[d1,d2];exact⟨_,rfl,OwI.nil _ _,hbel⟩
  ·have t6:decide (most<(pre.length:Int))=false:=decide_eq_false hlong;go_wp2_with fail
   go_ret2
   have e1:((dA m).length:Int)<=most:=by rw[<-hie.out];omega
   obtain⟨d1,d2⟩:=wO e1;rw[d1,d2,<-hie.out];exact⟨_,rfl,Ow.base hown (pI _),hbel⟩
end
section
open Go.RowKit Go Go.Shelf
def MN {α:Type} (n:Nat) (P:gD) (g:Nat) (lb:Array Value) (encs:α->Array Value) (Bs:Nat) (Kp:World->World->Prop) (xs:List α) (w:World):Prop:=
 ∀(l:Nat) (J:List α->World->Prop) (W:World),Below w.heap.size w W->AbidesFrom W.heap.size J->(∀s A v,J s A->J s (A.setCell ⟨Bs,0,none⟩ v))->
  (∀pre x W1,J pre W1->(∃r,pre++x::r=xs)->YieldAt eA (n-1) P l (encs x) W1 fun e W'=>e=.returned (.bool true)/\J (pre++[x]) W'/\Kp W1 W')->
  J [] W->
  mD eA n P g (#[.func (.yield l) #[] #[]]++lb) W fun e W'=>(∃v,e=.returned v)/\J xs W'
theorem MO {α:Type} {n:Nat} {P:gD} {g:iM} {ps:Array Tmp} {assign body:Code} {Q:Exit->Act->World->Prop} {a:Act} {w:World}
  (h1:1<=n) {gf:Nat} {lb:Array Value} (hg:a.eval g=.func (.func gf) #[] lb) (eg:∀args w,(callFunc gf args).run P w=.ok (.enter gf args) w)
  {encs:α->Array Value} {Kp:World->World->Prop} {xs:List α} {Bs:Nat} {w0:World} (hseq:MN (n-1) P gf lb encs Bs Kp xs w0)
  (hKt:∀{A B C:World},Kp A B->Kp B C->Kp A C) (hKb:∀(W:World) (l:Nat) (o o':Obj),w.heap.size<=l->W.heap[l]? =some o->o.isCells=false->o.isWalk=false->Kp W (W.putObj l o')) (hb0:Below w0.heap.size w0 w) (hps:∀x,(encs x).size=ps.size)
  (hBs:Bs<w.heap.size)
  (I:List α->World->Prop) (hI:OwnFrom w.heap.size I) (hIb:∀s A v,I s A->I s (A.setCell ⟨Bs,0,none⟩ v)) (h0:I [] w) (a₁:α->Act)
  (hassign:∀(l:Nat) (x:α) (W:World) (K:Act->World->Prop),K (a₁ x) W->
   assign.wpIn (eA.inRound l) (n-1-1) P (Exit.then K (fun _ _ _=>False)) {tmps:=(ps.zip (encs x)).foldl (fun t (p,v)=>t.setIfInBounds p v) a.tmps,defers:=[]} W)
  (hbody:∀(l:Nat) (pre:List α) (x:α) (W:World),I pre W->(∃r,pre++x::r=xs)->body.wpIn (eA.inRound l) (n-1-1) P (ownPostG w.heap.size Kp I (fun _ _ _=>False) (pre++[x]) W) (a₁ x) W)
  (hdone:∀(D:Nat) (W:World),w.heap.size<=D->I xs W->W.heap[D]? =some (.deferred (some []))->Q .normal {a with defers:={target:=.collected D,args:=#[]}::a.defers} W):
  (wA g ps assign body).wpIn eA n P Q a w:=by
 refine AL ?_;intro fn hfn;rw[show eA.round=none from rfl]
 let mk:LoopState->Loop:=fun st=>{state:=st,pending:=none,fn,tmps:=a.tmps,params:=ps,assign,body,defers:=w.heap.size}
 let W1:=(w.alloc (.deferred (some []))).alloc (.loop (mk .ready))
 have hL1:W1.heap[w.heap.size+1]? =some (.loop (mk .ready)):=by
  have:=BC (w.alloc (.deferred (some []))) (.loop (mk .ready));rwa[fV] at this
 have hK1:W1.heap[w.heap.size]? =some (.deferred (some [])):=(oF _ _ _ (by simp)).trans (BC w _);have hI1:I [] W1:=hI.alloc _ (hI.alloc _ h0);have hsz1:W1.heap.size=w.heap.size+2:=by simp[W1]
 have hb1:Below w0.heap.size w0 W1:=hb0.trans ((((aB _ w).alloc (aA _) _).alloc (by simp) _).mono hb0.size);have hset:∀(A:World) (v:Value) (k:Nat),w.heap.size<=k->(A.setCell ⟨Bs,0,none⟩ v).heap[k]? =A.heap[k]? :=fun A v k hk=>
  kT A ⟨Bs,0,none⟩ k v (fun e=>by have:k=Bs:=e;omega)
 refine⟨w.heap.size+1,[{target:=.collected w.heap.size,args:=#[]}],W1,{target:=.fn (.func gf) lb,args:=#[.func (.yield (w.heap.size+1)) #[] #[]]},W1,gf,
  #[.func (.yield (w.heap.size+1)) #[] #[]]++lb,W1,aC2 _ _ _ _ _,?_,?_,?_,fun _=>h1,?_⟩
 ·simp only[resolve,hg];simp[go_sem]
 ·exact fun _ _=>trivial
 ·simp[invoke,go_sem,eg]
 ·let J:List α->World->Prop:=fun pre W=>I pre W/\W.heap[w.heap.size+1]? =some (.loop (mk .ready))/\W.heap[w.heap.size]? =some (.deferred (some []))
  have hJ:AbidesFrom W1.heap.size J:=fun s A B row hs hg' hr=>
   ⟨hI s A B row hs.1 hg' (fun r e=>by obtain⟨hB,o,ho,hw⟩:=hr r e;exact⟨by omega,o,ho,Obj.not_cells_of_walk hw⟩),
    (grownBy_keeps hg' (fun r e=>(hr r e).2) hs.2.1 rfl).trans hs.2.1,(grownBy_keeps hg' (fun r e=>(hr r e).2) hs.2.2 rfl).trans hs.2.2⟩
  have hJb:∀s A v,J s A->J s (A.setCell ⟨Bs,0,none⟩ v):=fun s A v hs=>
   ⟨hIb s A v hs.1,by rw[hset A v _ (by omega)];exact hs.2.1,by rw[hset A v _ (aA _)];exact hs.2.2⟩
  refine(hseq (w.heap.size+1) J W1 hb1 hJ hJb ?_ ⟨hI1,hL1,hK1⟩).mono ?_
  ·rintro pre x W ⟨hi,hl,hk⟩ hx;have hlt:w.heap.size+1<W.heap.size:=(gQ.1 hl).1;have hy:=run_yield (P:=P) (args:=encs x) hl (hps x);refine⟨fn,_,assign,body,hy,BL hfn (hassign _ x W _ ⟨_,CL hl rfl,?_⟩)⟩;have hl2:(W.putObj (w.heap.size+1) (.loop {mk .ready with state:=.busy})).heap[w.heap.size+1]? =some (.loop {mk .ready with state:=.busy}):=BD hlt;have hk2:(W.putObj (w.heap.size+1) (.loop {mk .ready with state:=.busy})).heap[w.heap.size]? =some (.deferred (some [])):=(pK (by omega)).trans hk
   have hw2:Kp W (W.putObj (w.heap.size+1) (.loop {mk .ready with state:=.busy})):=hKb _ _ _ _ (by omega) hl rfl rfl;refine wpIn_mono (hbody _ pre x _ (hI.putObj _ hi (by omega) hl rfl) hx) ?_;rintro e a3 W3 hp
   cases e with
   |normal=>
    obtain⟨hk3,hkp3,hi3⟩:=hp;have hl3:=hk3.same _ _ (by omega) hl2 rfl;have hr:=QA (P:=P) none hl3;refine⟨_,_,hr,⟨rfl,⟨hI.putObj _ hi3 (by omega) hl3 rfl,BD (gQ.1 hl3).1,(pK (by omega)).trans (hk3.same _ _ (aA _) hk2 rfl)⟩,?_⟩⟩;exact hKt (hKt hw2 hkp3) (hKb _ _ _ _ (by omega) hl3 rfl rfl)
   |ret=>exact hp.2.elim
   |exit id=>exact hp.2.elim
   |goto t=>exact hp.2.elim
   |panic ch=>exact hp.elim
   |outgrown=>exact hp.elim
  ·rintro e W2 ⟨⟨v,rfl⟩,hi,hl,hk⟩;exact⟨none,_,GX (P:=P) hl (by simp[mk]),hdone _ _ (aA _) (hI.putObj _ hi (by omega) hl rfl) ((pK (by omega)).trans hk)⟩
def dP (bo:Option Nat) (W W':World):Prop:=W.heap.size<=W'.heap.size/\∀k o,W.heap[k]? =some o->o.isCells=true->some k≠bo->W'.heap[k]? =some o
theorem dP.refl (bo:Option Nat) (W:World):dP bo W W:=⟨aA _,fun _ _ h _ _=>h⟩
theorem dP.trans {bo:Option Nat} {A B C:World} (h:dP bo A B) (k:dP bo B C):dP bo A C:=⟨Nat.le_trans h.1 k.1,fun i o hi hc hne=>k.2 i o (h.2 i o hi hc hne) hc hne⟩
theorem dP.of_below {bo:Option Nat} {A B:World} (h:Below A.heap.size A B):dP bo A B:=⟨h.size,fun k _ hk _ _=>(h.block k (gQ.1 hk).1).trans hk⟩
theorem dP.some {A B:World} (h:dP none A B) (bo:Option Nat):dP bo A B:=⟨h.1,fun k o hk hc _=>h.2 k o hk hc (fun e=>by cases e)⟩
theorem dP.putObj {bo:Option Nat} (W:World) {l:Nat} {o:Obj} (o':Obj) (h:W.heap[l]? =bA o) (hc:o.isCells=false):dP bo W (W.putObj l o'):=
 ⟨by simp,fun k q hk hq _=>by
  have:k≠l:=fun e=>by subst e;rw[h] at hk;injection hk with hk;rw[hk,hq] at hc;exact tQ hc
  rw[pK this];exact hk⟩
theorem dP.grownBy {A B:World} {bo:Option Nat} (h:A.grownBy B bo):dP bo A B:=⟨h.size,fun k _ hk _ hne=>(h.block k (gQ.1 hk).1 hne).trans hk⟩
theorem dP.arr {bo:Option Nat} {A B:World} (h:dP bo A B) {b:Nat} {e:TypeId} {l:List Value} (hA:Arr A b e l) (hne:bA b≠bo):Arr B b e l:=h.2 b _ hA rfl hne
theorem dP.cell {bo:Option Nat} {A B:World} (h:dP bo A B) {p:Addr} {v:Value} (hc:A.cell? p=bA v) (hne:bA p.block≠bo):B.cell? p=bA v:=by
 unfold World.cell? at hc ⊢
 cases ho:A.heap[p.block]? with
 |none=>rw[ho] at hc;simp at hc
 |some o=>
  have hcl:o.isCells=true:=by
   rw[ho] at hc
   cases o<;>simp_all [Obj.isCells]
  rw[h.2 _ _ ho hcl hne];rw[ho] at hc;exact hc
theorem dP.ow {A B:World} {bo:Option Nat} (h:dP bo A B) {base e:Nat} {v:Value} {xs:List Value} (ho:Ow A base e v xs) (hne:∀k,v.ownBlock=bA k->bA k≠bo):Ow B base e v xs:=by
 refine⟨ho.1,?_⟩;rcases ho.2 with hn|⟨g,cap,cur,e1,hBg,hg,rest⟩
 ·exact .inl hn
 ·exact .inr ⟨g,cap,cur,e1,hBg,h.2 g _ hg rfl (hne g (by rw[e1];rfl)),rest⟩
theorem MP (W:World) (g i:Nat) (v:Value):W.grownBy (W.setCell ⟨g,i,none⟩ v) (some g):=
 ⟨rfl,rfl,rfl,by simp,fun k _ hne=>kT W ⟨g,i,none⟩ k v (fun e=>hne (by rw[e]))⟩
def ZW {α:Type} (n:Nat) (P:gD) (g:Nat) (lb:Array Value) (encs:α->Array Value) (Kp:World->World->Prop) (Pre:Nat->List α->α->World->Prop) (Fin:List α->Prop) (w:World):Prop:=
 ∀(l:Nat) (J Jx:List α->World->Prop) (W:World),Below w.heap.size w W->(∀s A B,J s A->Below W.heap.size A B->J s B)->(∀s A B,Jx s A->Below W.heap.size A B->Jx s B)->
  (∀pre x W1,J pre W1->W.heap.size<=W1.heap.size->Pre W.heap.size pre x W1->
   YieldAt eA (n-1) P l (encs x) W1 fun e W'=>(e=.returned (.bool true)/\J (pre++[x]) W'/\Kp W1 W')\/(e=.returned (.bool false)/\Jx (pre++[x]) W'))->
  J [] W->
  mD eA n P g (#[.func (.yield l) #[] #[]]++lb) W fun e W'=>(∃v,e=.returned v)/\((∃xs,Fin xs/\J xs W')\/∃pre,Jx pre W')
theorem ZX {α:Type} {n:Nat} {P:gD} {g:iM} {ps:Array Tmp} {assign body:Code} {Q:Exit->Act->World->Prop} {a:Act} {w:World}
  (h1:1<=n) {gf:Nat} {lb:Array Value} (hg:a.eval g=.func (.func gf) #[] lb) (eg:∀args w,(callFunc gf args).run P w=.ok (.enter gf args) w)
  {encs:α->Array Value} {Kp:World->World->Prop} {Pre:Nat->List α->α->World->Prop} {Fin:List α->Prop} {w0:World} (hseq:ZW (n-1) P gf lb encs Kp Pre Fin w0) (hb0:Below w0.heap.size w0 w) (hps:∀x,(encs x).size=ps.size)
  (hKt:∀{A B C:World},Kp A B->Kp B C->Kp A C) (hKc:∀A B,dP none A B->Kp A B)
  (hPs:∀B pre x A A',Pre B pre x A->dP none A A'->Pre B pre x A')
  (I:List α->World->Prop) (Ix:Code->List α->World->Prop) (hI:∀s A B,I s A->Below w.heap.size A B->I s B) (hIx:∀c s A B,Ix c s A->Below w.heap.size A B->Ix c s B) (h0:I [] w)
  (Ax:α->Act->World->Prop) (hAx:∀x a' A A',Ax x a' A->dP none A A'->Ax x a' A')
  (hassign:∀(l B:Nat) (pre:List α) (x:α) (W:World) (K:Act->World->Prop),I pre W->w.heap.size<=B->B<=W.heap.size->Pre B pre x W->(∀a' W',Below W.heap.size W W'->Ax x a' W'->K a' W')->
   assign.wpIn (eA.inRound l) (n-1-1) P (Exit.then K (fun _ _ _=>False)) {tmps:=(ps.zip (encs x)).foldl (fun t (p,v)=>t.setIfInBounds p v) a.tmps,defers:=[]} W)
  (hbody:∀(l B:Nat) (pre:List α) (x:α) (a':Act) (W:World),I pre W->w.heap.size<=B->B<=W.heap.size->Pre B pre x W->Ax x a' W->body.wpIn (eA.inRound l) (n-1-1) P (ownPostG w.heap.size Kp I Ix (pre++[x]) W) a' W)
  (hdone:∀(D:Nat) (xs:List α) (W:World),w.heap.size<=D->Fin xs->I xs W->W.heap[D]? =some (.deferred (some []))->Q .normal {a with defers:={target:=.collected D,args:=#[]}::a.defers} W)
  (hstop:∀(D:Nat) (c:Code) (pre:List α) (W:World),w.heap.size<=D->Ix c pre W->W.heap[D]? =some (.deferred (some []))->c.wpIn eA n P Q {a with defers:={target:=.collected D,args:=#[]}::a.defers} W):
  (wA g ps assign body).wpIn eA n P Q a w:=by
 refine AL ?_;intro fn hfn;rw[show eA.round=none from rfl];obtain⟨rec,hrec⟩:∃rec:LoopState->Option Code->Loop,rec=fun st pe=>{state:=st,pending:=pe,fn,tmps:=a.tmps,params:=ps,assign,body,defers:=w.heap.size}:=⟨_,rfl⟩
 obtain⟨W1,hW1⟩:∃W1,(w.alloc (.deferred (some []))).alloc (.loop (rec .ready none))=W1:=⟨_,rfl⟩;have hL1:W1.heap[w.heap.size+1]? =some (.loop (rec .ready none)):=by
  rw[<-hW1];have:=BC (w.alloc (.deferred (some []))) (.loop (rec .ready none));rwa[fV] at this
 have hK1:W1.heap[w.heap.size]? =some (.deferred (some [])):=by
  rw[<-hW1];exact(oF _ _ _ (by simp)).trans (BC w _)
 have hbw:Below w.heap.size w W1:=by rw[<-hW1];exact((aB _ w).alloc (aA _) _).alloc (by simp) _
 have hI1:I [] W1:=hI _ _ _ h0 hbw;have hs1:W1.heap.size=w.heap.size+2:=by rw[<-hW1];simp
 have hb1:Below w0.heap.size w0 W1:=hb0.trans (hbw.mono hb0.size);have hbp:∀(A:World) (l:Nat) (o o':Obj),w.heap.size<=l->A.heap[l]? =some o->o.isCells=false->o.isWalk=false->Below w.heap.size A (A.putObj l o'):=fun A l o o' hl h k1 k2=>pJ (w:=w) (aA _) A l o o' hl h k1 k2
 refine⟨w.heap.size+1,[{target:=.collected w.heap.size,args:=#[]}],W1,{target:=.fn (.func gf) lb,args:=#[.func (.yield (w.heap.size+1)) #[] #[]]},W1,gf,
  #[.func (.yield (w.heap.size+1)) #[] #[]]++lb,W1,?_,?_,?_,?_,fun _=>h1,?_⟩
 ·rw[<-hW1,hrec];exact aC2 _ _ _ _ _
 ·simp only[resolve,hg];simp[go_sem]
 ·exact fun _ _=>trivial
 ·simp[invoke,go_sem,eg]
 ·have hkl:∀{A B:World} {k:Nat} {o:Obj},Below W1.heap.size A B->k<W1.heap.size->A.heap[k]? =some o->B.heap[k]? =some o:=fun h hk ho=>(h.block _ hk).trans ho
  refine(hseq (w.heap.size+1)
   (fun pre W=>I pre W/\W.heap[w.heap.size+1]? =some (.loop (rec .ready none))/\W.heap[w.heap.size]? =some (.deferred (some [])))
   (fun pre W=>∃c,Ix c pre W/\W.heap[w.heap.size+1]? =some (.loop (rec .done (some c)))/\W.heap[w.heap.size]? =some (.deferred (some [])))
   W1 hb1
   (fun s A B hs hAB=>⟨hI s A B hs.1 (hAB.mono (by omega)),hkl hAB (by omega) hs.2.1,hkl hAB (by omega) hs.2.2⟩)
   (fun s A B hs hAB=>by
    obtain⟨c,hc,hl,hk⟩:=hs;exact⟨c,hIx c s A B hc (hAB.mono (by omega)),hkl hAB (by omega) hl,hkl hAB (by omega) hk⟩)
   ?_ ⟨hI1,hL1,hK1⟩).mono ?_
  ·rintro pre x W ⟨hi,hl,hk⟩ hWs hpre;have hlt:w.heap.size+1<W.heap.size:=(gQ.1 hl).1;have hy:=run_yield (P:=P) (args:=encs x) hl (by rw[hrec];exact hps x);rw[hrec] at hy;refine⟨fn,_,assign,body,hy,BL hfn (hassign _ _ pre x W _ hi (by omega) hWs hpre ?_)⟩;clear hy;intro a' Wa hba hax;have hl':Wa.heap[w.heap.size+1]? =some (.loop (rec .ready none)):=(hba.block _ hlt).trans hl;have hk':Wa.heap[w.heap.size]? =some (.deferred (some [])):=(hba.block _ (by omega)).trans hk;have hlt':w.heap.size+1<Wa.heap.size:=(gQ.1 hl').1
   have hia:I pre Wa:=hI _ _ _ hi (hba.mono (by omega));have hpa:=hPs _ _ _ _ _ hpre (dP.of_below hba);refine⟨_,CL hl' (by rw[hrec]),?_⟩;have hl2:(Wa.putObj (w.heap.size+1) (.loop {rec .ready none with state:=.busy})).heap[w.heap.size+1]? =some (.loop {rec .ready none with state:=.busy}):=BD hlt';have hk2:(Wa.putObj (w.heap.size+1) (.loop {rec .ready none with state:=.busy})).heap[w.heap.size]? =some (.deferred (some [])):=(pK (by omega)).trans hk'
   have hck:∀bo,dP bo Wa (Wa.putObj (w.heap.size+1) (.loop {rec .ready none with state:=.busy})):=fun bo=>dP.putObj _ _ hl' rfl
   refine wpIn_mono (hbody _ _ pre x a' _ (hI _ _ _ hia (hbp _ _ _ _ (by omega) hl' rfl rfl)) (by omega) (by have:=hba.size;simp;omega) (hPs _ _ _ _ _ hpa (hck none)) (hAx _ _ _ _ hax (hck none))) ?_;have fin:∀(jump:Option Code) (W3:World),KeepsFrom w.heap.size (Wa.putObj (w.heap.size+1) (.loop {rec .ready none with state:=.busy})) W3->
     (Instr.endRound (w.heap.size+1) jump).run P W3=.ok (.bool jump.isNone) (W3.putObj (w.heap.size+1) (.loop (rec (if jump.isNone then .ready else .done) jump)))/\
     W3.heap[w.heap.size+1]? =some (.loop {rec .ready none with state:=.busy})/\
     (W3.putObj (w.heap.size+1) (.loop (rec (if jump.isNone then .ready else .done) jump))).heap[w.heap.size+1]? =some (.loop (rec (if jump.isNone then .ready else .done) jump))/\
     (W3.putObj (w.heap.size+1) (.loop (rec (if jump.isNone then .ready else .done) jump))).heap[w.heap.size]? =some (.deferred (some [])):=fun jump W3 hk3=>by
    have hl3:=hk3.same _ _ (by omega) hl2 rfl;have:=QA (P:=P) jump hl3;rw[hrec] at this ⊢;exact⟨this,by rw[hrec] at hl3;exact hl3,BD (gQ.1 hl3).1,(pK (by omega)).trans (hk3.same _ _ (aA _) hk2 rfl)⟩
   rintro e a3 W3 hp
   cases e with
   |normal=>
    obtain⟨hk3,hkp3,hi3⟩:=hp;obtain⟨hr,hl3,hl4,hk4⟩:=fin none W3 hk3;exact⟨_,_,hr,.inl ⟨rfl,⟨hI _ _ _ hi3 (hbp _ _ _ _ (by omega) hl3 rfl rfl),hl4,hk4⟩,hKt (hKc _ _ (dP.of_below hba)) (hKt (hKc _ _ (hck none)) (hKt hkp3 (hKc _ _ (dP.putObj _ _ hl3 rfl))))⟩⟩
   |ret=>
    obtain⟨hk3,hi3⟩:=hp;obtain⟨hr,hl3,hl4,hk4⟩:=fin (some .ret) W3 hk3;exact⟨_,_,hr,.inr ⟨rfl,.ret,hIx _ _ _ _ hi3 (hbp _ _ _ _ (by omega) hl3 rfl rfl),hl4,hk4⟩⟩
   |exit id=>
    obtain⟨hk3,hi3⟩:=hp;obtain⟨hr,hl3,hl4,hk4⟩:=fin (some (.exit id)) W3 hk3;exact⟨_,_,hr,.inr ⟨rfl,.exit id,hIx _ _ _ _ hi3 (hbp _ _ _ _ (by omega) hl3 rfl rfl),hl4,hk4⟩⟩
   |goto t=>
    obtain⟨hk3,hi3⟩:=hp;obtain⟨hr,hl3,hl4,hk4⟩:=fin (some (.goto t)) W3 hk3;exact⟨_,_,hr,.inr ⟨rfl,.goto t,hIx _ _ _ _ hi3 (hbp _ _ _ _ (by omega) hl3 rfl rfl),hl4,hk4⟩⟩
   |panic ch=>exact hp.elim
   |outgrown=>exact hp.elim
  ·rintro e W2 ⟨⟨v,rfl⟩,(⟨xs,hS,hi,hl,hk⟩|⟨pre,c,hi,hl,hk⟩)⟩
   ·exact⟨none,_,by have:=GX (P:=P) hl (by rw[hrec];simp);rw[hrec] at this;exact this,hdone _ xs _ (aA _) hS (hI _ _ _ hi (hbp _ _ _ _ (by omega) hl rfl rfl)) ((pK (by omega)).trans hk)⟩
   ·exact⟨some c,_,by have:=GX (P:=P) hl (by rw[hrec];simp);rw[hrec] at this;exact this,hstop _ c pre _ (aA _) (hIx _ _ _ _ hi (hbp _ _ _ _ (by omega) hl rfl rfl)) ((pK (by omega)).trans hk)⟩
theorem aP9 {l0 n:Nat} {P:gD} {row:String} {args:Array Value} {w:World} {R:Value->World->Prop} (h:Rows P row args w R):RowsIn (eA.inRound l0) n P row args w R:=fun c cs _=>
 let⟨v,w',r,s⟩:=h c cs;⟨v,w',r,stepsIn_wide.2 s⟩
theorem aQa {l0 n:Nat} (h1:1<=n) {P:gD} {o:Oper} (hd:∀c,o.op≠.defer c) {a:Act} {w:World} {K:Act->World->Prop} {Q:Exit->Act->World->Prop} (h:o.wp P a w K Q):o.wpIn (eA.inRound l0) n P a w K Q:=by
 refine⟨fun _ _=>trivial,?_⟩;rw[Oper.semAt_plain (eA.inRound l0) _ _ hd];unfold Oper.wp at h
 revert h
 generalize (execOp a.eval o).run P w=r;intro h
 cases r with
 |ok x w'=>
  cases x<;>first|exact h|exact⟨fun _=>h1,callsIn_wide.2 h⟩|exact⟨fun _=>h1,aP9 h⟩|exact h.elim
 |halt hh w'=>
  cases hh<;>first|exact h|exact h.elim
theorem aAe {l0 n:Nat} (h1:1<=n) {P:gD} {md:Region.Mode} {ops:Array Oper} {Q:Exit->Act->World->Prop} (hq:¬LetsOut Q) (hd:∀(i:Nat) (o:Oper),ops[i]? =some o->∀c,o.op≠.defer c):
  ∀(fuel:Nat) (listed:Array Bool) (a:Act) (w:World),wpAny P md ops Q fuel listed a w->wpAnyIn (eA.inRound l0) n P md ops Q fuel listed a w
 |0,_,_,_,h=>h
 |fuel+1,listed,a,w,h=>⟨h.1,fun i hi=>by
  have h2:=h.2 i hi;have ih:=aAe (l0:=l0) (P:=P) (md:=md) (Q:=Q) h1 hq hd fuel (listed.setIfInBounds i true);unfold wpOp at h2;unfold wpOpIn
  cases e:ops[i]? with
  |none=>rw[e] at h2;exact ih _ _ h2
  |some o=>
   rw[e] at h2;dsimp only at h2 ⊢;split
   ·next hw=>
    rw[if_pos hw] at h2;refine aQa h1 (hd i o e) ?_;exact Oper.wp_mono (fun a' w'=>ih a' w') (h2.resolve_right (fun x=>hq x.2))
   ·next hw=>
    rw[if_neg hw] at h2;exact⟨fun _ _=>trivial,ih _ _ h2⟩⟩
def MQ (o:Oper):Bool:=match o.op with|.defer _=>false|_=>true
theorem aQb {ops:Array Oper} (h:ops.toList.all MQ=true):∀(i:Nat) (o:Oper),ops[i]? =some o->∀c,o.op≠.defer c:=fun i o hi c hc=>by
 rw[List.all_eq_true] at h;have:=h o (by rw[<-Array.getElem?_toList] at hi;exact cH hi);unfold MQ at this;rw[hc] at this;exact tQ this
theorem aAf {l0 n:Nat} (h1:1<=n) {P:gD} {id:Nat} {ops:Array Oper} {Q:Exit->Act->World->Prop} {a:Act} {w:World} (S:World->Prop) (hm:P.follows .mixedOrders=true) (hq:¬LetsOut Q) (hd:ops.toList.all MQ=true)
  (h:wpAnyH P .any ops Q S ops.size (Array.replicate ops.size false) a w.drew):(Code.region id ops true).wpIn (eA.inRound l0) n P Q a w:=
 wpIn_region_any hm (aAe h1 hq (aQb hd) _ _ _ _ (wpAny_of_held _ _ _ _ h))
theorem jW {b c o p:Nat} (h:b≠c):(⟨b,o,none⟩:Addr)≠⟨c,p,none⟩:=fun e=>h (congrArg Addr.block e)
theorem zU {w:World} {p1 p2 p3 p4 q:Addr} {v1 v2 v3 v4:Value} (h:w.cell? p1=some v1/\w.cell? p2=some v2/\w.cell? p3=some v3/\w.cell? p4=some v4) (n1:q≠p1) (n2:q≠p2) (n3:q≠p3) (n4:q≠p4) (v:Value):
  (w.setCell q v).cell? p1=some v1/\(w.setCell q v).cell? p2=some v2/\(w.setCell q v).cell? p3=some v3/\(w.setCell q v).cell? p4=some v4:=by
 rw[iQ _ _ _ _ n1,iQ _ _ _ _ n2,iQ _ _ _ _ n3,iQ _ _ _ _ n4];exact h
def aBk {α:Type} (n:Nat) (P:gD) (g:Nat) (lb:Array Value) (encs:α->Array Value) (ok:Prop) (x:α) (w:World):Prop:=
 ∀(l:Nat) (J Jx:World->Prop) (W:World),Below w.heap.size w W->(∀A B,J A->Below W.heap.size A B->J B)->(∀A B,Jx A->Below W.heap.size A B->Jx B)->
  (ok->∀W1,J W1->W.heap.size<=W1.heap.size->YieldAt eA (n-1) P l (encs x) W1 fun e W'=>e=.returned (.bool false)/\Jx W')->
  J W->
  mD eA n P g (#[.func (.yield l) #[] #[]]++lb) W fun e W'=>(∃v,e=.returned v)/\((¬ok/\J W')\/(ok/\Jx W'))
theorem aSp {α:Type} {n:Nat} {P:gD} {g:iM} {ps:Array Tmp} {assign body:Code} {Q:Exit->Act->World->Prop} {a:Act} {w:World}
  (h1:1<=n) {gf:Nat} {lb:Array Value} (hg:a.eval g=.func (.func gf) #[] lb) (eg:∀args w,(callFunc gf args).run P w=.ok (.enter gf args) w)
  {encs:α->Array Value} {ok:Prop} {x:α} {w0:World} (hseq:aBk (n-1) P gf lb encs ok x w0) (hb0:Below w0.heap.size w0 w) (hps:∀x,(encs x).size=ps.size)
  (I:World->Prop) (Ix:World->Prop) (hI:∀A B,I A->Below w.heap.size A B->I B) (hIx:∀A B,Ix A->Below w.heap.size A B->Ix B) (h0:I w)
  (a₁:Act)
  (hassign:∀(l:Nat) (W:World) (K:Act->World->Prop),K a₁ W->
   assign.wpIn (eA.inRound l) (n-1-1) P (Exit.then K (fun _ _ _=>False)) {tmps:=(ps.zip (encs x)).foldl (fun t (p,v)=>t.setIfInBounds p v) a.tmps,defers:=[]} W)
  (hbody:ok->∀(l:Nat) (W:World),I W->w.heap.size<=W.heap.size->body.wpIn (eA.inRound l) (n-1-1) P (fun e _ W'=>e=.ret/\KeepsFrom w.heap.size W W'/\Ix W') a₁ W)
  (hdone:∀(D:Nat) (W:World),¬ok->w.heap.size<=D->I W->W.heap[D]? =some (.deferred (some []))->Q .normal {a with defers:={target:=.collected D,args:=#[]}::a.defers} W)
  (hstop:∀(D:Nat) (W:World),ok->w.heap.size<=D->Ix W->W.heap[D]? =some (.deferred (some []))->Code.ret.wpIn eA n P Q {a with defers:={target:=.collected D,args:=#[]}::a.defers} W):
  (wA g ps assign body).wpIn eA n P Q a w:=by
 refine AL ?_;intro fn hfn;rw[show eA.round=none from rfl];obtain⟨rec,hrec⟩:∃rec:LoopState->Option Code->Loop,rec=fun st pe=>{state:=st,pending:=pe,fn,tmps:=a.tmps,params:=ps,assign,body,defers:=w.heap.size}:=⟨_,rfl⟩
 obtain⟨W1,hW1⟩:∃W1,(w.alloc (.deferred (some []))).alloc (.loop (rec .ready none))=W1:=⟨_,rfl⟩;have hL1:W1.heap[w.heap.size+1]? =some (.loop (rec .ready none)):=by
  rw[<-hW1];have:=BC (w.alloc (.deferred (some []))) (.loop (rec .ready none));rwa[fV] at this
 have hK1:W1.heap[w.heap.size]? =some (.deferred (some [])):=by
  rw[<-hW1];exact(oF _ _ _ (by simp)).trans (BC w _)
 have hbw:Below w.heap.size w W1:=by rw[<-hW1];exact((aB _ w).alloc (aA _) _).alloc (by simp) _
 have hI1:I W1:=hI _ _ h0 hbw;have hs1:W1.heap.size=w.heap.size+2:=by rw[<-hW1];simp
 have hb1:Below w0.heap.size w0 W1:=hb0.trans (hbw.mono hb0.size);have hbp:∀(A:World) (l:Nat) (o o':Obj),w.heap.size<=l->A.heap[l]? =some o->o.isCells=false->o.isWalk=false->Below w.heap.size A (A.putObj l o'):=fun A l o o' hl h k1 k2=>pJ (w:=w) (aA _) A l o o' hl h k1 k2
 refine⟨w.heap.size+1,[{target:=.collected w.heap.size,args:=#[]}],W1,{target:=.fn (.func gf) lb,args:=#[.func (.yield (w.heap.size+1)) #[] #[]]},W1,gf,
  #[.func (.yield (w.heap.size+1)) #[] #[]]++lb,W1,?_,?_,?_,?_,fun _=>h1,?_⟩
 ·rw[<-hW1,hrec];exact aC2 _ _ _ _ _
 ·simp only[resolve,hg];simp[go_sem]
 ·exact fun _ _=>trivial
 ·simp[invoke,go_sem,eg]
 ·have hkl:∀{A B:World} {k:Nat} {o:Obj},Below W1.heap.size A B->k<W1.heap.size->A.heap[k]? =some o->B.heap[k]? =some o:=fun h hk ho=>(h.block _ hk).trans ho
  refine(hseq (w.heap.size+1)
   (fun W=>I W/\W.heap[w.heap.size+1]? =some (.loop (rec .ready none))/\W.heap[w.heap.size]? =some (.deferred (some [])))
   (fun W=>Ix W/\W.heap[w.heap.size+1]? =some (.loop (rec .done (some .ret)))/\W.heap[w.heap.size]? =some (.deferred (some [])))
   W1 hb1
   (fun A B hs hAB=>⟨hI A B hs.1 (hAB.mono (by omega)),hkl hAB (by omega) hs.2.1,hkl hAB (by omega) hs.2.2⟩)
   (fun A B hs hAB=>⟨hIx A B hs.1 (hAB.mono (by omega)),hkl hAB (by omega) hs.2.1,hkl hAB (by omega) hs.2.2⟩)
   ?_ ⟨hI1,hL1,hK1⟩).mono ?_
  ·rintro hok W ⟨hi,hl,hk⟩ hWs;have hlt:w.heap.size+1<W.heap.size:=(gQ.1 hl).1;have hy:=run_yield (P:=P) (args:=encs x) hl (by rw[hrec];exact hps x);rw[hrec] at hy;refine⟨fn,_,assign,body,hy,BL hfn (hassign _ W _ ?_)⟩;clear hy;refine⟨_,CL hl (by rw[hrec]),?_⟩;have hl2:(W.putObj (w.heap.size+1) (.loop {rec .ready none with state:=.busy})).heap[w.heap.size+1]? =some (.loop {rec .ready none with state:=.busy}):=BD hlt
   have hk2:(W.putObj (w.heap.size+1) (.loop {rec .ready none with state:=.busy})).heap[w.heap.size]? =some (.deferred (some [])):=(pK (by omega)).trans hk;refine wpIn_mono (hbody hok _ _ (hI _ _ hi (hbp _ _ _ _ (by omega) hl rfl rfl)) (by simp;omega)) ?_;rintro e a3 W3 ⟨rfl,hk3,hi3⟩;have hl3:=hk3.same _ _ (by omega) hl2 rfl;have hr:=QA (P:=P) (some .ret) hl3;rw[hrec] at hr hl3;refine⟨_,_,hr,⟨rfl,hIx _ _ hi3 (hbp _ _ _ _ (by omega) hl3 rfl rfl),?_,(pK (by omega)).trans (hk3.same _ _ (aA _) hk2 rfl)⟩⟩;rw[hrec]
   exact BD (gQ.1 hl3).1
  ·rintro e W2 ⟨⟨v,rfl⟩,(⟨hno,hi,hl,hk⟩|⟨hok,hi,hl,hk⟩)⟩
   ·exact⟨none,_,by have:=GX (P:=P) hl (by rw[hrec];simp);rw[hrec] at this;exact this,hdone _ _ hno (aA _) (hI _ _ hi (hbp _ _ _ _ (by omega) hl rfl rfl)) ((pK (by omega)).trans hk)⟩
   ·exact⟨some .ret,_,by have:=GX (P:=P) hl (by rw[hrec];simp);rw[hrec] at this;exact this,hstop _ _ hok (aA _) (hIx _ _ hi (hbp _ _ _ _ (by omega) hl rfl rfl)) ((pK (by omega)).trans hk)⟩
end
end Go.Proofs.YtpgmbhpbgkljdaaGreatDoor
