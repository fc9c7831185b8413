/-
  Texts put together (part 8): the walks and the plain laws on which the statement stands.
-/
import Derived.RangeFuncNested
import Derived.RangeFuncBound
import Derived.RangeFuncCalls
import Derived.RangeFuncLeaves
import Derived.RangeFuncBox
import Derived.Shelf.RegionOpen
import Derived.OwnWalkIn
import Derived.TacticsInMore
import Derived.LoopNIn
import Derived.LoopIn
import Derived.OrdersIn
import Derived.Sort.BigQuietIn
import Derived.Sort.LoopGhostIn
import Derived.Sort.QuietIn
import Derived.Sort.CutIn
import Derived.Test.YtmcogmmncfihhaaGreatDoorZ7
set_option maxRecDepth 100000
set_option maxHeartbeats 12800000
set_option linter.unusedVariables false
set_option linter.unusedSimpArgs false
open And renaming intro->BG
open Array renaming getElem?_eq_some_iff->gQ,replicate_succ->lL,replicate_zero->lM
open Bool renaming noConfusion->tQ
open Go renaming CallsIn->mD,Operand->iM,Program->gD,belowK_b->pJ,bodyPost_ret->gJ,callsIn_of_wp->tW,cell_kept->tX,grownBy_putObj'->mC,heap_setCell_other->kT,results_none->qX,run_takeDeferred->sJ
open Go.Addr renaming add->iN
open Go.Fence renaming wide->eA
open Go.IntKind renaming u64->fU,wrap_u64->gF
open Go.KeepsOthers renaming setCell->iH
open Go.Oper renaming semAt_some->rB,wp->lX
open Go.Region renaming wanted->nR
open Go.Result renaming andThen_ok->GG
open Go.RowKit.Below renaming heap_alloc->oF,refl->aB
open Go.Sem renaming run_bind->vL,run_pure->GF
open Go.Value renaming int->bO
open Go.World renaming alloc_heap_new->BC,cell?_setCell_other->iQ,cell?_setCell_same->oM,frozen?_setCell->AU,putObj_heap_other->pK,putObj_heap_same->BD,size_alloc->fV
open Go.World.ownsRow renaming alloc->aBy,kept->NH,lt->aT4
open List renaming append_assoc->cF,append_nil->eE,append_toArray->lO,cons_append->gE,filter_cons_of_neg->aTp,filter_nil->NP,getElem?_eq_getElem->aN,getElem?_eq_some_iff->eU,length_append->aL,length_cons->cR,length_map->bJ,length_nil->cX,map_append->fI,map_cons->pG,map_nil->xS,map_toArray->GH,nil_append->iG,push_toArray->lN,range->dG,range_succ->sF,size_toArray->mY,take_length->kE
open Nat renaming le_refl->aA,le_succ->pI,le_trans->aW,lt_of_lt_of_le->dR,mod_two_eq_zero_or_one->FU,reduceAdd->lZ,reduceSub->mZ,sub_self->oI
open Option renaming some->bA
open Option.some renaming inj->bW
namespace Go.Proofs.YtmcogmmncfihhaaGreatDoor
section
open Go.RowKit Go.Shelf
attribute [local go_sem] rB
def bv (b:Bool):Int:=if b then 1 else 0
def oW {α:Type} (f:Nat->α) (k:Nat):List α:=(dG k).map f
theorem LL {α:Type} (f:Nat->α) (k:Nat):oW f (k+1)=oW f k++[f k]:=by simp[oW,sF]
theorem aLd {α:Type} (f:Nat->α) (k:Nat):(oW f k).length=k:=by simp[oW]
def bk (ds:List Bool) (j:Nat):Nat×Bool:=(ds.length-1-j,ds[ds.length-1-j]?.getD false)
def DY (x:Nat×Bool):Array Value:=#[bO .i64 (x.1:Int),bO .i64 (bv x.2)]
def KpB (n₀ Bs:Nat) (A B:World):Prop:=Below n₀ A B/\B.heap[Bs]? =A.heap[Bs]?
theorem DZ {n₀ Bs:Nat} {A B C:World} (h:KpB n₀ Bs A B) (k:KpB n₀ Bs B C):KpB n₀ Bs A C:=⟨h.1.trans k.1,k.2.trans h.2⟩
theorem LM {n₀ Bs:Nat} {w:World} (hn:n₀<=w.heap.size) (hB:Bs<w.heap.size) (W:World) (l:Nat) (o o':Obj) (hl:w.heap.size<=l) (h:W.heap[l]? =some o) (h1:o.isCells=false) (h2:o.isWalk=false):KpB n₀ Bs W (W.putObj l o'):=
 ⟨pJ hn W l o o' hl h h1 h2,(mC W l o').block Bs (by have:=(gQ.1 h).1;omega) (fun e=>by cases e;omega)⟩
theorem KpB.cell {n₀ Bs:Nat} {A B:World} (h:KpB n₀ Bs A B) (k:Nat):B.cell? ⟨Bs,k,none⟩=A.cell? ⟨Bs,k,none⟩:=World.cell?_of_block h.2
theorem aLe (F:Fence) (n:Nat) (h7:F.fn 177) (hro:F.round=none) (hn:1<=n) (l Bs n₀ b off cap:Nat) (ds:List Bool) (hreach:ds.length<=1000000) (hb:b<n₀) (J Jx:List (Nat×Bool)->World->Prop)
  (hY:∀pre x W,J pre W->pre.length<ds.length->YieldAt F (n-1) Tryz.prog l (DY x) W fun e W'=>
   (e=.returned (.bool true)/\J (pre++[x]) W'/\KpB n₀ Bs W W')\/(e=.returned (.bool false)/\Jx (pre++[x]) W'))
  (W:World) (hBs:W.cell? ⟨Bs,0,none⟩=some (.slice (some ⟨b,off,none⟩) ds.length cap)) (hc:∀j,j<ds.length->W.cell? ⟨b,off+j,none⟩=some (.int .i64 (bv (ds[j]?.getD false)))) (h0:J [] W):
  mD F n Tryz.prog 177 #[.func (.yield l) #[] #[],.pointer (some ⟨Bs,0,none⟩)] W fun e W'=>(∃v,e=.returned v)/\
   ((∃ys,ys=oW (bk ds) ds.length/\J ys W')\/(∃pre,(∃k,k<=ds.length/\pre=oW (bk ds) k)/\Jx pre W')):=by
 refine tW Tryz.func177 rfl h7 ?_ hro;simp only[Tryz.ntmps177,mY,cR,cX,lZ,mZ,lL,lM,lN,lO,iG,gE]
 gi_wp2
 gi_loopw [3] (fun i wr=>∃q:Nat,q<=ds.length/\i=.int .i64 ((q:Int)-1)/\J (oW (bk ds) (ds.length-q)) wr/\KpB n₀ Bs W wr)
  (fun i _=>(intOf i+1).toNat)
 case atStart=>exact⟨ds.length,aA _,rfl,by rw[oI];exact h0,aB _ _,rfl⟩
 case round=>
  obtain⟨q,hq,hi,hJs,hnx⟩:=hrel
  cases q with
  |zero=>
   rw[show(((0:Nat):Int)-1)= -1 by omega] at hi;subst hi
   gi_wp2
   go_end0
   exact⟨⟨_,rfl⟩,.inl ⟨_,rfl,by rw[Nat.sub_zero] at hJs;exact hJs⟩⟩
  |succ p=>
   rw[show(((p+1:Nat):Int)-1)=(p:Int) by omega] at hi;subst hi;have e1:ds.length-1-(ds.length-(p+1))=p:=by omega
   have hbs:=(hnx.cell 0).trans hBs;have hcx:=(hnx.1.cell (p:=⟨b,off+p,none⟩) hb).trans (hc p (by omega));obtain⟨fn,tmps,assign,body,hy,hR⟩:=hY _ (bk ds (ds.length-(p+1))) wr hJs (by rw[aLd];omega);unfold DY bk at hy;dsimp only at hy;rw[e1] at hy
   gi_wp2
   refine hR.mono ?_;rintro e W3 (⟨rfl,hJ3,hk3⟩|⟨rfl,hJx3⟩)
   ·gi_wp2
    go_roundw
    case rel=>exact⟨p,by omega,by go_num,by rw[show ds.length-p=(ds.length-(p+1))+1 by omega,LL];exact hJ3,DZ hnx hk3⟩
    case measure=>simp[intOf]
   ·gi_wp2
    refine gJ (qX rfl _ _ _) rfl ?_;exact⟨⟨_,rfl⟩,.inr ⟨_,⟨ds.length-(p+1)+1,by omega,(LL _ _).symm⟩,hJx3⟩⟩
theorem aLf (F:Fence) (n:Nat) (h7:F.fn 177) (hro:F.round=none) (l Bs cap:Nat) (a:Option Addr) (J:List (Nat×Bool)->World->Prop) (W:World) (hBs:W.cell? ⟨Bs,0,none⟩=some (.slice a 0 cap)) (h0:J [] W):
  mD F n Tryz.prog 177 #[.func (.yield l) #[] #[],.pointer (some ⟨Bs,0,none⟩)] W fun e W'=>(∃v,e=.returned v)/\J [] W':=by
 refine tW Tryz.func177 rfl h7 ?_ hro;simp only[Tryz.ntmps177,mY,cR,cX,lZ,mZ,lL,lM,lN,lO,iG,gE]
 gi_wp2
 gi_loopw [3] (fun i wr=>i=.int .i64 (-1)/\J [] wr) (fun _ _=>0)
 case atStart=>exact⟨rfl,h0⟩
 case round=>
  obtain⟨rfl,hJs⟩:=hrel
  gi_wp2
  go_end0
  exact⟨⟨_,rfl⟩,hJs⟩
def zJ (n₀:Nat) (W:World) (sv:Value) (ds:List Bool):Prop:=
 (∃a cap,sv=.slice a 0 cap/\ds=[])\/∃b off cap,sv=.slice (some ⟨b,off,none⟩) ds.length cap/\b<n₀/\∀j,j<ds.length->W.cell? ⟨b,off+j,none⟩=some (.int .i64 (bv (ds[j]?.getD false)))
theorem zJ.below {n₀:Nat} {A B:World} (h:Below n₀ A B) {sv:Value} {ds:List Bool}:zJ n₀ A sv ds->zJ n₀ B sv ds
 |.inl e=>.inl e
 |.inr ⟨b,off,cap,e,hb,hc⟩=>.inr ⟨b,off,cap,e,hb,fun j hj=>(h.cell (p:=⟨b,off+j,none⟩) hb).trans (hc j hj)⟩
theorem aLg (F:Fence) (n:Nat) (h7:F.fn 177) (hro:F.round=none) (hn:1<=n) (Bs n₀:Nat) (sv:Value) (ds:List Bool) (hreach:ds.length<=1000000) (w:World) (hBs:Bs<w.heap.size) (hn₀:n₀<=w.heap.size)
  (hc:w.cell? ⟨Bs,0,none⟩=some sv) (hI:zJ n₀ w sv ds):
  SeqStopsK F n Tryz.prog 177 #[.pointer (some ⟨Bs,0,none⟩)] DY (KpB n₀ Bs) (fun ys=>ys=oW (bk ds) ds.length)
   (fun pre=>∃k,k<=ds.length/\pre=oW (bk ds) k) ds.length w:=fun l J Jx W hW _ _ hY h0=>by
 have hc':=(hW.cell (p:=⟨Bs,0,none⟩) hBs).trans hc;rcases hI.below (hW.mono hn₀) with⟨a,cap,rfl,rfl⟩|⟨b,off,cap,rfl,hb,hcs⟩
 ·exact(aLf F n h7 hro l Bs cap a J W hc' h0).mono fun e W' ⟨he,hj⟩=>⟨he,.inl ⟨_,rfl,hj⟩⟩
 ·exact aLe F n h7 hro hn l Bs n₀ b off cap ds hreach hb J Jx hY W hc' hcs h0
theorem aLh (F:Fence) (n:Nat) (h5:F.fn 176) (hro:F.round=none) (a:Option Addr) (len cap:Nat) (w:World):
  mD F n Tryz.prog 176 #[.slice a len cap] w fun e w'=>e=.returned (.func (.func 177) #[] #[.pointer (some ⟨w.heap.size,0,none⟩)])/\w'=w.alloc (.cells #[.slice a len cap] 57):=by
 refine tW Tryz.func176 rfl h5 ?_ hro;simp only[Tryz.ntmps176,mY,cR,cX,lZ,mZ,lL,lM,lN,lO,iG,gE]
 gi_wp2
 go_ret;exact⟨rfl,rfl⟩
def hor (l:List (Nat×Bool)):Nat:=l.foldl (fun n x=>2*n+(if x.2 then 2 else 1)) 0
theorem WQ (l:List (Nat×Bool)) (x:Nat×Bool):hor (l++[x])=2*hor l+(if x.2 then 2 else 1):=by simp[hor]
theorem WR (ds:List Bool):∀k,k<=ds.length->hor (oW (bk ds) k)=num ((ds.drop (ds.length-k)).map bv):=by
 intro k
 induction k with
 |zero=>intro _;simp[oW,hor,num]
 |succ k ih=>
  intro hk;have hlt:ds.length-(k+1)<ds.length:=by omega
  rw[LL,WQ,ih (by omega),List.drop_eq_getElem_cons hlt,pG,num,show ds.length-(k+1)+1=ds.length-k by omega];have e:(bk ds k).2=ds[ds.length-(k+1)]:=by
   unfold bk;rw[show ds.length-1-k=ds.length-(k+1) by omega,aN hlt];rfl
  rw[e]
  cases ds[ds.length-(k+1)]
  ·simp[bv];omega
  ·simp[bv];omega
theorem aLi:∀(l:List Int) (k:Nat),num (l.drop k)<=num l:=by
 intro l
 induction l with
 |nil=>intro k;simp
 |cons d l ih=>
  intro k
  cases k with
  |zero=>simp
  |succ k=>rw[List.drop_succ_cons,num];have:=ih k;omega
theorem aLj (ds:List Bool):fP (fun x=> !(x==0)&& !(x==1)) (ds.map bv)= -1:=by
 apply oN;intro x hx;obtain⟨b,_,rfl⟩:=List.mem_map.1 hx
 cases b<;>rfl
theorem aLk (n:Nat) (hn:3<=n) (a:Option Addr) (cap:Nat) (ds:List Bool) (hreach:ds.length<=1000000) (w:World) (hr:RdI w (.slice a ds.length cap) (ds.map bv)) (hI:zJ w.heap.size w (.slice a ds.length cap) ds):
  mD eA n Tryz.prog 166 #[.slice a ds.length cap] w fun e W'=>e=.returned (.tuple #[.int .i64 (nL (ds.map bv)),.int .i64 (lA (ds.map bv))])/\Below w.heap.size w W':=by
 have h1:1<=n:=by omega
 have hro:eA.round=none:=rfl;have hcf:∀W,Below w.heap.size w W->Calls Tryz.prog 149 #[.slice a ds.length cap,.func (.func 175) #[] #[]] W fun e w'=>e=.returned (.bool false)/\w'=W:=fun W hW=>
  (uN 175 #[] (fun x=> !(x==0)&& !(x==1)) (.slice a ds.length cap) (ds.map bv) W (hr.below hW) (enters_of Tryz.func175 (by kernel_rfl) rfl) (fun W _ x _=>aF9 x W)).mono fun e w' ⟨h1,h2⟩=>by
  rw[aLj] at h1;exact⟨h1,h2⟩
 refine callsIn_of_wp_marks Tryz.func166 rfl trivial ?_ hro;simp only[Tryz.ntmps166,mY,cR,cX,lZ,mZ,lL,lM,lN,lO,iG,gE]
 gi_wp2_with fail
 have hB0:Below w.heap.size w ((w.alloc (.cells #[.int .i64 0] 3)).alloc (.cells #[.int .i64 0] 27)):=((aB _ w).alloc (aA _) _).alloc (by simp) _;refine⟨trivial,(callsIn_wide.2 (hcf _ hB0)).mono ?_⟩;rintro e w' ⟨rfl,rfl⟩
 gi_wp2_with fail
 refine⟨trivial,(aLh eA (n-1) trivial hro a ds.length cap _).mono ?_⟩;rintro e w' ⟨rfl,rfl⟩;have bR:=Boxed.new w 3 (.int .i64 0);have bE:=Boxed.new (w.alloc (.cells #[.int .i64 0] 3)) 27 (.int .i64 0);have bN:=Boxed.new ((w.alloc (.cells #[.int .i64 0] 3)).alloc (.cells #[.int .i64 0] 27)) 57 (.slice a ds.length cap);rw[fV] at bE;rw[fV,fV] at bN;have hB1:=hB0.alloc (o:=.cells #[.slice a ds.length cap] 57) (by simp;omega)
 gi_wp2_with fail
 refine wpIn_rangeFunc_ownG hro h1 (gf:=177) (lb:=#[.pointer (some ⟨w.heap.size+1+1,0,none⟩)]) rfl trivial (enters_of Tryz.func177 (by kernel_rfl) rfl)
  (aLg eA (n-1) trivial hro (by omega) (w.heap.size+1+1) w.heap.size _ ds hreach _ (by simp) (by simp;omega) bN.cell (hI.below hB1)) DZ (LM (by simp;omega) (by simp)) (aB _ _) (fun _=>rfl)
  (fun pre W=>(hor pre<=1099511627776/\(W.cell? ⟨w.heap.size,0,none⟩=some (.int .i64 (hor pre:Int))/\W.frozen? ⟨w.heap.size,0,none⟩=false)/\(W.cell? ⟨w.heap.size+1,0,none⟩=some (.int .i64 0)/\W.frozen? ⟨w.heap.size+1,0,none⟩=false))/\Below w.heap.size w W)
  (fun c pre W=>(c=.ret/\1099511627776<hor pre/\W.cell? ⟨w.heap.size,0,none⟩=some (.int .i64 0)/\W.cell? ⟨w.heap.size+1,0,none⟩=some (.int .i64 4))/\Below w.heap.size w W)
  (OwnFrom.and (Own.from (fun s A B row hs hg hr=>⟨hs.1,⟨tX hs.2.1.1 hg hr,(frozen_kept hs.2.1.1 hg hr).trans hs.2.1.2⟩,tX hs.2.2.1 hg hr,(frozen_kept hs.2.2.1 hg hr).trans hs.2.2.2⟩) _) (ownFrom_below (aA _) (by simp;omega)))
  (fun c=>OwnFrom.and (Own.from (fun s A B row hs hg hr=>⟨hs.1,hs.2.1,tX hs.2.2.1 hg hr,tX hs.2.2.2 hg hr⟩) _) (ownFrom_below (aA _) (by simp;omega)))
  ⟨⟨by simp[hor],⟨((bR.alloc _).alloc _).cell,((bR.alloc _).alloc _).frozen⟩,(bE.alloc _).cell,(bE.alloc _).frozen⟩,hB1⟩
  (fun x=>{tmps:=#[.slice a ds.length cap,undef,.pointer (some ⟨w.heap.size,0,none⟩),.pointer (some ⟨w.heap.size+1,0,none⟩),undef,.int .i64 (bv x.2),.slice a ds.length cap,.bool false,.slice a ds.length cap,.func (.func 177) #[] #[.pointer (some ⟨w.heap.size+1+1,0,none⟩)],.int .i64 (x.1:Int),.int .i64 (bv x.2),undef,undef,undef,undef,undef,undef,undef,undef],defers:=[]}) ?assign ?body ?done ?stop
 case assign=>
  intro l x W K hK;unfold DY
  gi_wp2
  exact hK
 case body=>
  rintro l pre ⟨i,b⟩ W ⟨⟨hle,⟨hc,hf⟩,hce,hfe⟩,hB⟩ _;obtain⟨h,hh⟩:∃h,h=hor pre:=⟨_,rfl⟩;have hs:=WQ pre (i,b);rw[<-hh] at hle hc hs;have HS:=hid hs;have hne:w.heap.size+1+1≠w.heap.size:=by omega
  clear hh hs hcf hr;have hnA:(⟨w.heap.size+1,0,none⟩:Addr)≠⟨w.heap.size,0,none⟩:=fun e=>by have:=congrArg Addr.block e;simp at this
  have hnB:(⟨w.heap.size,0,none⟩:Addr)≠⟨w.heap.size+1,0,none⟩:=fun e=>hnA e.symm
  cases b
  ·have hbv:bv false=0:=rfl;dsimp only
   rw[hbv]
   by_cases hbig:1099511627776<2*h+1
   ·have t1:decide ((1099511627776:Int)<2*(h:Int)+1)=true:=decide_eq_true (by omega);have t2:(1099511627776:Int)<2*(h:Int)+1:=by omega
    gi_wp2
    refine⟨(((iH W _ _).trans (iH _ _ _)).trans (iH _ _ _)).from _,⟨rfl,by rw[HS.out,if_neg (by decide)];omega,?_,?_⟩,
     ((hB.setCell (p:=⟨w.heap.size,0,none⟩) (aA _) _).setCell (p:=⟨w.heap.size,0,none⟩) (aA _) _).setCell (p:=⟨w.heap.size+1,0,none⟩) (pI _) _⟩
    ·rw[iQ _ _ _ _ hnA];exact oM _ _ _ (oM _ _ _ hc)
    ·refine oM (u:=.int .i64 0) _ _ _ ?_;rw[iQ _ _ _ _ hnB,iQ _ _ _ _ hnB];exact hce
   ·have t1:decide ((1099511627776:Int)<2*(h:Int)+1)=false:=decide_eq_false (by omega);have t2:2*(h:Int)+1<=(1099511627776:Int):=by omega
    gi_wp2
    refine⟨(iH W _ _).from _,⟨(aB w.heap.size W).setCell (p:=⟨w.heap.size,0,none⟩) (aA _) _,kT _ _ _ _ hne⟩,⟨by rw[HS.out,if_neg (by decide)];omega,⟨?_,?_⟩,?_,?_⟩,hB.setCell (p:=⟨w.heap.size,0,none⟩) (aA _) _⟩
    ·have e:(hor (pre++[(i,false)]):Int)=2*(h:Int)+1:=by rw[HS.out,if_neg (by decide)];omega
     rw[e];exact oM _ _ _ hc
    ·rw[AU];exact hf
    ·rw[iQ _ _ _ _ hnB];exact hce
    ·rw[AU];exact hfe
  ·have hbv:bv true=1:=rfl;dsimp only
   rw[hbv]
   by_cases hbig:1099511627776<2*h+2
   ·have t1:decide ((1099511627776:Int)<2*(h:Int)+1+1)=true:=decide_eq_true (by omega);have t2:(1099511627776:Int)<2*(h:Int)+1+1:=by omega
    gi_wp2
    refine⟨(((iH W _ _).trans (iH _ _ _)).trans (iH _ _ _)).from _,⟨rfl,by rw[HS.out,if_pos trivial];omega,?_,?_⟩,
     ((hB.setCell (p:=⟨w.heap.size,0,none⟩) (aA _) _).setCell (p:=⟨w.heap.size,0,none⟩) (aA _) _).setCell (p:=⟨w.heap.size+1,0,none⟩) (pI _) _⟩
    ·rw[iQ _ _ _ _ hnA];exact oM _ _ _ (oM _ _ _ hc)
    ·refine oM (u:=.int .i64 0) _ _ _ ?_;rw[iQ _ _ _ _ hnB,iQ _ _ _ _ hnB];exact hce
   ·have t1:decide ((1099511627776:Int)<2*(h:Int)+1+1)=false:=decide_eq_false (by omega);have t2:2*(h:Int)+1+1<=(1099511627776:Int):=by omega
    gi_wp2
    refine⟨(iH W _ _).from _,⟨(aB w.heap.size W).setCell (p:=⟨w.heap.size,0,none⟩) (aA _) _,kT _ _ _ _ hne⟩,⟨by rw[HS.out,if_pos trivial];omega,⟨?_,?_⟩,?_,?_⟩,hB.setCell (p:=⟨w.heap.size,0,none⟩) (aA _) _⟩
    ·have e:(hor (pre++[(i,true)]):Int)=2*(h:Int)+1+1:=by rw[HS.out,if_pos trivial];omega
     rw[e];exact oM _ _ _ hc
    ·rw[AU];exact hf
    ·rw[iQ _ _ _ _ hnB];exact hce
    ·rw[AU];exact hfe
 case done=>
  rintro D ys W hD rfl ⟨⟨hle,⟨hc,hf⟩,hce,hfe⟩,hB⟩ hK;rw[WR ds _ (aA _),oI,List.drop_zero] at hle hc;have hv:nL (ds.map bv)=(num (ds.map bv):Int):=by unfold nL;rw[if_pos hle]
  have he:lA (ds.map bv)=0:=by unfold lA;rw[if_pos hle]
  have HVE:=hid (BG hv he);clear hv he
  gi_wp2
  have hnB:(⟨w.heap.size,0,none⟩:Addr)≠⟨w.heap.size+1,0,none⟩:=fun e=>by have:=congrArg Addr.block e;simp at this
  have hnA:(⟨w.heap.size+1,0,none⟩:Addr)≠⟨w.heap.size,0,none⟩:=fun e=>hnB e.symm
  obtain⟨V,hV⟩:∃V,V=num (ds.map bv):=⟨_,rfl⟩;have hK':=((iH W ⟨w.heap.size,0,none⟩ (.int .i64 (num (ds.map bv):Int))).trans (iH _ ⟨w.heap.size+1,0,none⟩ (.int .i64 0))).same D _ hK rfl;refine⟨by simp,.inl ⟨_,_,rfl,sJ hK',?_⟩⟩;have hc4:((W.setCell ⟨w.heap.size,0,none⟩ (.int .i64 (num (ds.map bv):Int))).setCell ⟨w.heap.size+1,0,none⟩ (.int .i64 0)).cell? ⟨w.heap.size,0,none⟩=some (.int .i64 (num (ds.map bv):Int)):=by
   rw[iQ _ _ _ _ hnA];exact oM _ _ _ hc
  have hc5:((W.setCell ⟨w.heap.size,0,none⟩ (.int .i64 (num (ds.map bv):Int))).setCell ⟨w.heap.size+1,0,none⟩ (.int .i64 0)).cell? ⟨w.heap.size+1,0,none⟩=some (.int .i64 0):=by
   refine oM (u:=.int .i64 0) _ _ _ ?_;rw[iQ _ _ _ _ hnB];exact hce
  have hc6:=tX hc4 (mC _ D (.deferred none)) (fun r e=>by cases e;exact⟨_,hK',rfl⟩);have hc7:=tX hc5 (mC _ D (.deferred none)) (fun r e=>by cases e;exact⟨_,hK',rfl⟩);refine⟨.tuple #[.int .i64 (num (ds.map bv):Int),.int .i64 0],?_,by rw[HVE.out.1,HVE.out.2],((hB.setCell (p:=⟨w.heap.size,0,none⟩) (aA _) _).setCell (p:=⟨w.heap.size+1,0,none⟩) (pI _) _).trans (pJ (w:=w) (aA _) _ D _ _ (by simp at hD;omega) hK' rfl rfl)⟩;simp[results,Tryz.f166,go_sem,hc6,hc7]
 case stop=>
  rintro D c pre W hD ⟨k,hk,rfl⟩ ⟨⟨rfl,hlt,hc,hce⟩,hB⟩ hK;rw[WR ds _ hk] at hlt;have hge:num ((ds.drop (ds.length-k)).map bv)<=num (ds.map bv):=by rw[List.map_drop];exact aLi _ _
  have hv:nL (ds.map bv)=0:=by unfold nL;rw[if_neg (by omega)]
  have he:lA (ds.map bv)=4:=by unfold lA;rw[if_neg (by omega)]
  have HVE:=hid (BG hv he);clear hv he
  gi_wp2
  refine⟨by simp,.inl ⟨_,_,rfl,sJ hK,?_⟩⟩;have hc6:=tX hc (mC _ D (.deferred none)) (fun r e=>by cases e;exact⟨_,hK,rfl⟩);have hc7:=tX hce (mC _ D (.deferred none)) (fun r e=>by cases e;exact⟨_,hK,rfl⟩);refine⟨.tuple #[.int .i64 0,.int .i64 4],?_,by rw[HVE.out.1,HVE.out.2],hB.trans (pJ (w:=w) (aA _) W D _ _ (by simp at hD;omega) hK rfl rfl)⟩;simp[results,Tryz.f166,go_sem,hc6,hc7]
theorem aLl (v:Value) (d:List Int) (w:World) (hr:RdI w v d) (hlen:d.length<=1000000) (hd:∀x∈d,x=0\/x=1):
  Calls Tryz.prog 166 #[v] w fun e w'=>e=.returned (.tuple #[.int .i64 (nL d),.int .i64 (lA d)])/\Below w.heap.size w w':=by
 obtain⟨ds,rfl⟩:∃ds:List Bool,d=ds.map bv:=by
  refine⟨d.map (fun x=>decide (x=1)),?_⟩;rw[List.map_map];rw[List.map_congr_left (g:=id) (fun x hx=>by rcases hd x hx with rfl|rfl<;>rfl),List.map_id]
 obtain⟨a,cap,rfl,h1,h2,h3⟩:=hr.open;rw[bJ] at hr hlen h3 h1 ⊢;refine callsIn_wide.1 (aLk 3 (aA _) a cap ds hlen w hr ?_);rcases Nat.eq_zero_or_pos ds.length with h0|h0
 ·exact .inl ⟨a,cap,by rw[h0],List.eq_nil_of_length_eq_zero h0⟩
 ·obtain⟨b,off,rfl,hb,hc⟩:=h3 h0;exact .inr ⟨b,off,cap,rfl,hb,fun j hj=>hc j _ (by rw[List.getElem?_map,aN hj];simp)⟩
end
section
open Go.RowKit Go Go.Shelf
abbrev VV:=Value×Value
def prC (l:List VV):List Value:=l.flatMap (fun q=>[q.1,q.2])
theorem RK (l m:List VV):prC (l++m)=prC l++prC m:=List.flatMap_append
theorem JK (l:List VV):(prC l).length=l.length*2:=by
 induction l with
 |nil=>rfl
 |cons x l ih=>show([x.1,x.2]++prC l).length=_;rw[aL,ih];simp;omega
theorem CQ:∀(l:List VV) (j:Nat) (q:VV),l[j]? =some q->(prC l)[j*2]? =some q.1/\(prC l)[j*2+1]? =some q.2
 |[],j,q,h=>by simp at h
 |x::l,0,q,h=>by
  simp at h;subst h;exact⟨rfl,rfl⟩
 |x::l,j+1,q,h=>by
  have ih:=CQ l j q (by simpa using h);have e:prC (x::l)=x.1::x.2::prC l:=rfl;rw[e,show(j+1)*2=j*2+2 by omega];exact⟨by rw[<-ih.1];rfl,by rw[<-ih.2];rfl⟩
theorem aGc (l:List VV) (j:Nat) (u:Value) (h:(prC l)[j]? =some u):∃q,l[j/2]? =some q/\u=if j%2=0 then q.1 else q.2:=by
 have hj:=(eU.1 h).1;rw[JK] at hj;have hq:l[j/2]? =some l[j/2]:=aN (by omega);obtain⟨e1,e2⟩:=CQ l _ _ hq;refine⟨_,hq,?_⟩;rcases FU j with k|k
 ·rw[show j/2*2=j by omega,h] at e1;rw[if_pos k];exact bW e1
 ·rw[show j/2*2+1=j by omega,h] at e2;rw[if_neg (by omega)];exact bW e2
def nG (l:List VV):Prop:=∀q∈l,q.1.oneCell'=true/\q.2.oneCell'=true
theorem nG.cells {l:List VV} (h:nG l):∀u∈prC l,u.oneCell'=true:=fun u hu=>by
 obtain⟨q,hq,hu⟩:=List.mem_flatMap.1 hu;rcases List.mem_cons.1 hu with rfl|hu
 ·exact(h q hq).1
 ·obtain rfl:=List.mem_singleton.1 hu;exact(h q hq).2
theorem nG.app {l m:List VV} (h:nG l) (k:nG m):nG (l++m):=fun q hq=>(List.mem_append.1 hq).elim (h q) (k q)
theorem nG.sub {l m:List VV} (h:nG l) (k:∀q∈m,q∈l):nG m:=fun q hq=>h q (k q hq)
structure El2 (P:gD) (t e bytes:Nat) (z:Value):Prop where
 under:P.underlying t=some (.slice e)
 info:∃i,P.info? e=some i/\i.zero=some z/\i.size=2/\i.bytes=bytes
 cells:z.cells.size=2
 pos:1<=bytes
theorem El2.mk' {P:gD} {t e bytes:Nat} {z:Value} (h:(P.info? e).map (fun i=>(i.zero,i.size,i.bytes))=some (some z,2,bytes)) (hu:P.underlying t=some (.slice e)) (hc:z.cells.size=2) (hb:1<=bytes):El2 P t e bytes z:=by
 obtain⟨i0,hi,hz0,hz1,hz2⟩:=info_parts h;exact⟨hu,⟨i0,hi,hz0,hz1,hz2⟩,hc,hb⟩
def OwP (w:World) (B e:Nat) (v:Value) (l:List VV):Prop:=w.ownsRow B e 2 v l.length (prC l)
theorem OwP.nil (w:World) (B e:Nat):OwP w B e (.slice none 0 0) []:=World.ownsRow_nil _ _ _ _
theorem OwP.alloc {w:World} {B e:Nat} {v:Value} {l:List VV} (h:OwP w B e v l) (o:Obj):OwP (w.alloc o) B e v l:=aBy h o
theorem OwP.below {w w':World} {B C e:Nat} {v:Value} {l:List VV} (h:OwP w B e v l) (hb:Below C w w') (hC:w.heap.size<=C):OwP w' B e v l:=GZ h hb hC
theorem OwP.base {w:World} {B B' e:Nat} {v:Value} {l:List VV} (h:OwP w B e v l) (hb:B'<=B):OwP w B' e v l:=IA h hb
theorem OwP.kept {w w':World} {B e:Nat} {v:Value} {l:List VV} {row:Option Nat} (h:OwP w B e v l) (hg:w.grownBy w' row) (hne:v.ownBlock=none\/v.ownBlock≠row):OwP w' B e v l:=NH h hg hne
theorem OwP.lt {w:World} {B e:Nat} {v:Value} {l:List VV} (h:OwP w B e v l):∀k,v.ownBlock=some k->B<=k/\k<w.heap.size:=aT4 h
def kK (w:World) (v:Value) (l:List VV):Prop:=
 (v=.slice none 0 0/\l=[])\/∃b off cap,v=.slice (some ⟨b,off,none⟩) l.length cap/\l.length<=cap/\cap<=maxLen/\b<w.heap.size/\∀j q,l[j]? =some q->w.cell? ⟨b,off+j*2,none⟩=some q.1/\w.cell? ⟨b,off+j*2+1,none⟩=some q.2
theorem kK.below {w w':World} {v:Value} {l:List VV} (h:kK w v l) (hb:Below w.heap.size w w'):kK w' v l:=by
 rcases h with h|⟨b,off,cap,rfl,h1,h2,hl,hc⟩
 ·exact .inl h
 ·exact .inr ⟨b,off,cap,rfl,h1,h2,dR hl hb.size,fun j q hq=>by rw[hb.cell (p:=⟨b,off+j*2,none⟩) hl,hb.cell (p:=⟨b,off+j*2+1,none⟩) hl];exact hc j q hq⟩
theorem OwP.src {w:World} {B e:Nat} {v:Value} {l:List VV} (h:OwP w B e v l):kK w v l:=by
 obtain⟨hl,h⟩:=h;rcases h with⟨rfl,h0⟩|⟨g,cap,cur,rfl,hb,hg,hnc,hcm,hcs,ht⟩
 ·exact .inl ⟨rfl,List.length_eq_zero_iff.1 h0⟩
 ·refine .inr ⟨g,0,cap,rfl,hnc,hcm,(gQ.1 hg).1,fun j q hj=>?_⟩;obtain⟨e1,e2⟩:=CQ l j q hj;have hjl:=(eU.1 hj).1;rw[Nat.zero_add,cell_of_row w g (j*2) cur _ (0,0) hg,cell_of_row w g (j*2+1) cur _ (0,0) hg];rw[<-ht,List.getElem?_take,if_pos (by omega)] at e1 e2;exact⟨by simpa using e1,by simpa using e2⟩
theorem kK.new (w:World) (e:TypeId) (q:VV):kK (w.alloc (.cells #[q.1,q.2] e)) (.slice (some ⟨w.heap.size,0,none⟩) 1 1) [q]:=by
 have h:=Arr.new w e [q.1,q.2];refine .inr ⟨w.heap.size,0,1,rfl,by simp,by simp[maxLen],by simp,fun j p hp=>?_⟩
 cases j with
 |zero=>simp at hp;subst hp;exact⟨h.cell (i:=0) rfl,h.cell (i:=1) rfl⟩
 |succ j=>simp at hp
theorem kK.open {w:World} {v:Value} {l:List VV} (h:kK w v l):∃a cap,v=.slice a l.length cap/\l.length<=cap/\cap<=maxLen/\
  (0<l.length->∃b off,a=some ⟨b,off,none⟩/\b<w.heap.size/\∀j q,l[j]? =some q->w.cell? ⟨b,off+j*2,none⟩=some q.1/\w.cell? ⟨b,off+j*2+1,none⟩=some q.2):=by
 rcases h with⟨rfl,rfl⟩|⟨b,off,cap,rfl,h1,h2,hl,hc⟩
 ·exact⟨none,0,rfl,aA _,by simp[maxLen],fun h=>absurd h (by simp)⟩
 ·exact⟨_,cap,rfl,h1,h2,fun _=>⟨b,off,rfl,hl,hc⟩⟩
section
variable {P:gD} {t e bytes:Nat} {z:Value}
theorem JL (E:El2 P t e bytes z) {w:World} (ty:TypeId) (base:Nat) (v:Value) (l:List VV) (hown:OwP w base e v l) (sv:Value) (m:List VV) (hsrc:kK w sv m) (h1:nG m) (hroom:(l.length+m.length)*bytes<=140737488355328) (hbase:base<=w.heap.size):
  ∃v' w',(Builtin.append_ #[t,t] ty #[v,sv]).run P w=.ok v' w'/\OwP w' base e v' (l++m)/\Below base w w'/\w.grownBy w' v.ownBlock:=by
 obtain⟨i,hi,hz,h2,h3⟩:=E.info;rcases hsrc with⟨rfl,rfl⟩|⟨b,off,cap,rfl,_,_,_,hc⟩
 ·refine⟨v,w,run_append_owned_none (P:=P) (w:=w) base t ty e i 2 E.under hi v l.length _ hown,by rw[eE];exact hown,aB _ _,⟨rfl,rfl,rfl,aA _,fun _ _ _=>rfl⟩⟩
 ·have hpos:=E.pos;have hn:l.length+m.length<=140737488355328:=aW (Nat.le_mul_of_pos_right _ hpos) hroom;obtain⟨v',w',q1,q2,q3,_⟩:=run_append_own (P:=P) w base t ty e i z 2 bytes E.under hi hz h2 h3 E.cells (by decide) v l.length _ hown ⟨b,off,none⟩ m.length cap (prC m) (JK m) (fun j u hu=>by
    obtain⟨q,hq,rfl⟩:=aGc m j u hu;obtain⟨c1,c2⟩:=hc _ _ hq;have e:(⟨b,off,none⟩:Addr).add j=⟨b,off+j,none⟩:=by unfold iN;split<;>simp_all
    rw[e];rcases FU j with k|k
    ·rw[if_pos k,<-c1,show j/2*2=j by omega]
    ·rw[if_neg (by omega),<-c2,Nat.add_assoc,show j/2*2+1=j by omega]) h1.cells (by simp only[maxLen];omega) hroom hbase
  refine⟨v',w',q1,?_,rC hown q3 hbase,q3⟩;unfold OwP;rw[RK,aL];exact q2
theorem RL (E:El2 P t e bytes z) {ops:Array Oper} {rest:List Oper} {o:Oper} {a:Act} {Q:Exit->Act->World->Prop} {w:World} (hgd:o.guard=none) (s x:iM)
  (ho:o.op=.call {callee:=.builtin .append,args:=#[s,x],argTypes:=#[t,t]}) (base:Nat) (v:Value) (l:List VV) (hs:a.eval s=v) (hown:OwP w base e v l)
  (sv:Value) (m:List VV) (hx:a.eval x=sv) (hsrc:kK w sv m) (h1:nG m) (hroom:(l.length+m.length)*bytes<=140737488355328) (hbase:base<=w.heap.size)
  (h:∀v' w',OwP w' base e v' (l++m)->Below base w w'->w.grownBy w' v.ownBlock->wpList P ops Q rest (a.put o.dst v') w'):wpList P ops Q (o::rest) a w:=by
 refine wpList_plain hgd fun K hK=>?_
 obtain⟨v',w',hr,q1,q2,q3⟩:=JL E o.type base v l hown sv m hsrc h1 hroom hbase;unfold lX execOp;simp only[ho,resolve,invoke,builtin,vL,GF,GG,GH,pG,xS,hs,hx,hr];exact hK _ _ (h v' w' q1 q2 q3)
theorem CR (E:El2 P t e bytes z) {ops:Array Oper} {o:Oper} {a:Act} {K:Act->World->Prop} {Q:Exit->Act->World->Prop} {E':Prop} {w:World} (hgd:o.guard=none) (s x:iM)
  (ho:o.op=.call {callee:=.builtin .append,args:=#[s,x],argTypes:=#[t,t]}) (base:Nat) (v:Value) (l:List VV) (hs:a.eval s=v) (hown:OwP w base e v l)
  (sv:Value) (m:List VV) (hx:a.eval x=sv) (hsrc:kK w sv m) (h1:nG m) (hroom:(l.length+m.length)*bytes<=140737488355328) (hbase:base<=w.heap.size)
  (h:∀v' w',OwP w' base e v' (l++m)->Below base w w'->w.grownBy w' v.ownBlock->K (a.put o.dst v') w'):if nR o (yielded ops a.tmps)=true then lX P o a w K Q else E':=by
 have hw:nR o (yielded ops a.tmps)=true:=by simp[nR,hgd]
 rw[if_pos hw];obtain⟨v',w',hr,q1,q2,q3⟩:=JL E o.type base v l hown sv m hsrc h1 hroom hbase;unfold lX execOp;simp only[ho,resolve,invoke,builtin,vL,GF,GG,GH,pG,xS,hs,hx,hr];exact h v' w' q1 q2 q3
end
def dP (bo:Option Nat) (W W':World):Prop:=W.heap.size<=W'.heap.size/\∀k o,W.heap[k]? =some o->o.isCells=true->some k≠bo->W'.heap[k]? =some o
theorem dP.refl (bo:Option Nat) (W:World):dP bo W W:=⟨aA _,fun _ _ h _ _=>h⟩
theorem dP.trans {bo:Option Nat} {A B C:World} (h:dP bo A B) (k:dP bo B C):dP bo A C:=⟨aW h.1 k.1,fun i o hi hc hne=>k.2 i o (h.2 i o hi hc hne) hc hne⟩
theorem dP.of_below {bo:Option Nat} {A B:World} (h:Below A.heap.size A B):dP bo A B:=⟨h.size,fun k _ hk _ _=>(h.block k (gQ.1 hk).1).trans hk⟩
theorem dP.some {A B:World} (h:dP none A B) (bo:Option Nat):dP bo A B:=⟨h.1,fun k o hk hc _=>h.2 k o hk hc (fun e=>by cases e)⟩
theorem dP.putObj {bo:Option Nat} (W:World) {l:Nat} {o:Obj} (o':Obj) (h:W.heap[l]? =bA o) (hc:o.isCells=false):dP bo W (W.putObj l o'):=
 ⟨by simp,fun k q hk hq _=>by
  have:k≠l:=fun e=>by subst e;rw[h] at hk;injection hk with hk;rw[hk,hq] at hc;exact tQ hc
  rw[pK this];exact hk⟩
theorem dP.grownBy {A B:World} {bo:Option Nat} (h:A.grownBy B bo):dP bo A B:=⟨h.size,fun k _ hk _ hne=>(h.block k (gQ.1 hk).1 hne).trans hk⟩
theorem dP.arr {bo:Option Nat} {A B:World} (h:dP bo A B) {b:Nat} {e:TypeId} {l:List Value} (hA:Arr A b e l) (hne:bA b≠bo):Arr B b e l:=h.2 b _ hA rfl hne
theorem dP.cell {bo:Option Nat} {A B:World} (h:dP bo A B) {p:Addr} {v:Value} (hc:A.cell? p=bA v) (hne:bA p.block≠bo):B.cell? p=bA v:=by
 unfold World.cell? at hc ⊢
 cases ho:A.heap[p.block]? with
 |none=>rw[ho] at hc;simp at hc
 |some o=>
  have hcl:o.isCells=true:=by
   rw[ho] at hc
   cases o<;>simp_all [Obj.isCells]
  rw[h.2 _ _ ho hcl hne];rw[ho] at hc;exact hc
theorem dP.ow {A B:World} {bo:Option Nat} (h:dP bo A B) {base e:Nat} {v:Value} {xs:List Value} (ho:Ow A base e v xs) (hne:∀k,v.ownBlock=bA k->bA k≠bo):Ow B base e v xs:=by
 refine⟨ho.1,?_⟩;rcases ho.2 with hn|⟨g,cap,cur,e1,hBg,hg,rest⟩
 ·exact .inl hn
 ·exact .inr ⟨g,cap,cur,e1,hBg,h.2 g _ hg rfl (hne g (by rw[e1];rfl)),rest⟩
theorem MP (W:World) (g i:Nat) (v:Value):W.grownBy (W.setCell ⟨g,i,none⟩ v) (some g):=
 ⟨rfl,rfl,rfl,by simp,fun k _ hne=>kT W ⟨g,i,none⟩ k v (fun e=>hne (by rw[e]))⟩
def ZW {α:Type} (n:Nat) (P:gD) (g:Nat) (lb:Array Value) (encs:α->Array Value) (Kp:World->World->Prop) (Pre:Nat->List α->α->World->Prop) (Fin:List α->Prop) (w:World):Prop:=
 ∀(l:Nat) (J Jx:List α->World->Prop) (W:World),Below w.heap.size w W->(∀s A B,J s A->Below W.heap.size A B->J s B)->(∀s A B,Jx s A->Below W.heap.size A B->Jx s B)->
  (∀pre x W1,J pre W1->W.heap.size<=W1.heap.size->Pre W.heap.size pre x W1->
   YieldAt eA (n-1) P l (encs x) W1 fun e W'=>(e=.returned (.bool true)/\J (pre++[x]) W'/\Kp W1 W')\/(e=.returned (.bool false)/\Jx (pre++[x]) W'))->
  J [] W->
  mD eA n P g (#[.func (.yield l) #[] #[]]++lb) W fun e W'=>(∃v,e=.returned v)/\((∃xs,Fin xs/\J xs W')\/∃pre,Jx pre W')
theorem ZX {α:Type} {n:Nat} {P:gD} {g:iM} {ps:Array Tmp} {assign body:Code} {Q:Exit->Act->World->Prop} {a:Act} {w:World}
  (h1:1<=n) {gf:Nat} {lb:Array Value} (hg:a.eval g=.func (.func gf) #[] lb) (eg:∀args w,(callFunc gf args).run P w=.ok (.enter gf args) w)
  {encs:α->Array Value} {Kp:World->World->Prop} {Pre:Nat->List α->α->World->Prop} {Fin:List α->Prop} {w0:World} (hseq:ZW (n-1) P gf lb encs Kp Pre Fin w0) (hb0:Below w0.heap.size w0 w) (hps:∀x,(encs x).size=ps.size)
  (hKt:∀{A B C:World},Kp A B->Kp B C->Kp A C) (hKc:∀A B,dP none A B->Kp A B)
  (hPs:∀B pre x A A',Pre B pre x A->dP none A A'->Pre B pre x A')
  (I:List α->World->Prop) (Ix:Code->List α->World->Prop) (hI:∀s A B,I s A->Below w.heap.size A B->I s B) (hIx:∀c s A B,Ix c s A->Below w.heap.size A B->Ix c s B) (h0:I [] w)
  (Ax:α->Act->World->Prop) (hAx:∀x a' A A',Ax x a' A->dP none A A'->Ax x a' A')
  (hassign:∀(l B:Nat) (pre:List α) (x:α) (W:World) (K:Act->World->Prop),I pre W->w.heap.size<=B->B<=W.heap.size->Pre B pre x W->(∀a' W',Below W.heap.size W W'->Ax x a' W'->K a' W')->
   assign.wpIn (eA.inRound l) (n-1-1) P (Exit.then K (fun _ _ _=>False)) {tmps:=(ps.zip (encs x)).foldl (fun t (p,v)=>t.setIfInBounds p v) a.tmps,defers:=[]} W)
  (hbody:∀(l B:Nat) (pre:List α) (x:α) (a':Act) (W:World),I pre W->w.heap.size<=B->B<=W.heap.size->Pre B pre x W->Ax x a' W->body.wpIn (eA.inRound l) (n-1-1) P (ownPostG w.heap.size Kp I Ix (pre++[x]) W) a' W)
  (hdone:∀(D:Nat) (xs:List α) (W:World),w.heap.size<=D->Fin xs->I xs W->W.heap[D]? =some (.deferred (some []))->Q .normal {a with defers:={target:=.collected D,args:=#[]}::a.defers} W)
  (hstop:∀(D:Nat) (c:Code) (pre:List α) (W:World),w.heap.size<=D->Ix c pre W->W.heap[D]? =some (.deferred (some []))->c.wpIn eA n P Q {a with defers:={target:=.collected D,args:=#[]}::a.defers} W):
  (Code.rangeFunc g ps assign body).wpIn eA n P Q a w:=by
 refine wpIn_rangeFunc ?_;intro fn hfn;rw[show eA.round=none from rfl];obtain⟨rec,hrec⟩:∃rec:LoopState->Option Code->Loop,rec=fun st pe=>{state:=st,pending:=pe,fn,tmps:=a.tmps,params:=ps,assign,body,defers:=w.heap.size}:=⟨_,rfl⟩
 obtain⟨W1,hW1⟩:∃W1,(w.alloc (.deferred (some []))).alloc (.loop (rec .ready none))=W1:=⟨_,rfl⟩;have hL1:W1.heap[w.heap.size+1]? =some (.loop (rec .ready none)):=by
  rw[<-hW1];have:=BC (w.alloc (.deferred (some []))) (.loop (rec .ready none));rwa[fV] at this
 have hK1:W1.heap[w.heap.size]? =some (.deferred (some [])):=by
  rw[<-hW1];exact(oF _ _ _ (by simp)).trans (BC w _)
 have hbw:Below w.heap.size w W1:=by rw[<-hW1];exact((aB _ w).alloc (aA _) _).alloc (by simp) _
 have hI1:I [] W1:=hI _ _ _ h0 hbw;have hs1:W1.heap.size=w.heap.size+2:=by rw[<-hW1];simp
 have hb1:Below w0.heap.size w0 W1:=hb0.trans (hbw.mono hb0.size);have hbp:∀(A:World) (l:Nat) (o o':Obj),w.heap.size<=l->A.heap[l]? =some o->o.isCells=false->o.isWalk=false->Below w.heap.size A (A.putObj l o'):=fun A l o o' hl h k1 k2=>pJ (w:=w) (aA _) A l o o' hl h k1 k2
 refine⟨w.heap.size+1,[{target:=.collected w.heap.size,args:=#[]}],W1,{target:=.fn (.func gf) lb,args:=#[.func (.yield (w.heap.size+1)) #[] #[]]},W1,gf,
  #[.func (.yield (w.heap.size+1)) #[] #[]]++lb,W1,?_,?_,?_,?_,fun _=>h1,?_⟩
 ·rw[<-hW1,hrec];exact run_enterLoop_outer _ _ _ _ _
 ·simp only[resolve,hg];simp[go_sem]
 ·exact fun _ _=>trivial
 ·simp[invoke,go_sem,eg]
 ·have hkl:∀{A B:World} {k:Nat} {o:Obj},Below W1.heap.size A B->k<W1.heap.size->A.heap[k]? =some o->B.heap[k]? =some o:=fun h hk ho=>(h.block _ hk).trans ho
  refine(hseq (w.heap.size+1)
   (fun pre W=>I pre W/\W.heap[w.heap.size+1]? =some (.loop (rec .ready none))/\W.heap[w.heap.size]? =some (.deferred (some [])))
   (fun pre W=>∃c,Ix c pre W/\W.heap[w.heap.size+1]? =some (.loop (rec .done (some c)))/\W.heap[w.heap.size]? =some (.deferred (some [])))
   W1 hb1
   (fun s A B hs hAB=>⟨hI s A B hs.1 (hAB.mono (by omega)),hkl hAB (by omega) hs.2.1,hkl hAB (by omega) hs.2.2⟩)
   (fun s A B hs hAB=>by
    obtain⟨c,hc,hl,hk⟩:=hs;exact⟨c,hIx c s A B hc (hAB.mono (by omega)),hkl hAB (by omega) hl,hkl hAB (by omega) hk⟩)
   ?_ ⟨hI1,hL1,hK1⟩).mono ?_
  ·rintro pre x W ⟨hi,hl,hk⟩ hWs hpre;have hlt:w.heap.size+1<W.heap.size:=(gQ.1 hl).1;have hy:=run_yield (P:=P) (args:=encs x) hl (by rw[hrec];exact hps x);rw[hrec] at hy;refine⟨fn,_,assign,body,hy,roundIn_of_wpIn hfn (hassign _ _ pre x W _ hi (by omega) hWs hpre ?_)⟩;clear hy;intro a' Wa hba hax;have hl':Wa.heap[w.heap.size+1]? =some (.loop (rec .ready none)):=(hba.block _ hlt).trans hl;have hk':Wa.heap[w.heap.size]? =some (.deferred (some [])):=(hba.block _ (by omega)).trans hk;have hlt':w.heap.size+1<Wa.heap.size:=(gQ.1 hl').1
   have hia:I pre Wa:=hI _ _ _ hi (hba.mono (by omega));have hpa:=hPs _ _ _ _ _ hpre (dP.of_below hba);refine⟨_,run_beginRound hl' (by rw[hrec]),?_⟩;have hl2:(Wa.putObj (w.heap.size+1) (.loop {rec .ready none with state:=.busy})).heap[w.heap.size+1]? =some (.loop {rec .ready none with state:=.busy}):=BD hlt';have hk2:(Wa.putObj (w.heap.size+1) (.loop {rec .ready none with state:=.busy})).heap[w.heap.size]? =some (.deferred (some [])):=(pK (by omega)).trans hk'
   have hck:∀bo,dP bo Wa (Wa.putObj (w.heap.size+1) (.loop {rec .ready none with state:=.busy})):=fun bo=>dP.putObj _ _ hl' rfl
   refine wpIn_mono (hbody _ _ pre x a' _ (hI _ _ _ hia (hbp _ _ _ _ (by omega) hl' rfl rfl)) (by omega) (by have:=hba.size;simp;omega) (hPs _ _ _ _ _ hpa (hck none)) (hAx _ _ _ _ hax (hck none))) ?_;have fin:∀(jump:Option Code) (W3:World),KeepsFrom w.heap.size (Wa.putObj (w.heap.size+1) (.loop {rec .ready none with state:=.busy})) W3->
     (Instr.endRound (w.heap.size+1) jump).run P W3=.ok (.bool jump.isNone) (W3.putObj (w.heap.size+1) (.loop (rec (if jump.isNone then .ready else .done) jump)))/\
     W3.heap[w.heap.size+1]? =some (.loop {rec .ready none with state:=.busy})/\
     (W3.putObj (w.heap.size+1) (.loop (rec (if jump.isNone then .ready else .done) jump))).heap[w.heap.size+1]? =some (.loop (rec (if jump.isNone then .ready else .done) jump))/\
     (W3.putObj (w.heap.size+1) (.loop (rec (if jump.isNone then .ready else .done) jump))).heap[w.heap.size]? =some (.deferred (some [])):=fun jump W3 hk3=>by
    have hl3:=hk3.same _ _ (by omega) hl2 rfl;have:=run_endRound (P:=P) jump hl3;rw[hrec] at this ⊢;exact⟨this,by rw[hrec] at hl3;exact hl3,BD (gQ.1 hl3).1,(pK (by omega)).trans (hk3.same _ _ (aA _) hk2 rfl)⟩
   rintro e a3 W3 hp
   cases e with
   |normal=>
    obtain⟨hk3,hkp3,hi3⟩:=hp;obtain⟨hr,hl3,hl4,hk4⟩:=fin none W3 hk3;exact⟨_,_,hr,.inl ⟨rfl,⟨hI _ _ _ hi3 (hbp _ _ _ _ (by omega) hl3 rfl rfl),hl4,hk4⟩,hKt (hKc _ _ (dP.of_below hba)) (hKt (hKc _ _ (hck none)) (hKt hkp3 (hKc _ _ (dP.putObj _ _ hl3 rfl))))⟩⟩
   |ret=>
    obtain⟨hk3,hi3⟩:=hp;obtain⟨hr,hl3,hl4,hk4⟩:=fin (some .ret) W3 hk3;exact⟨_,_,hr,.inr ⟨rfl,.ret,hIx _ _ _ _ hi3 (hbp _ _ _ _ (by omega) hl3 rfl rfl),hl4,hk4⟩⟩
   |exit id=>
    obtain⟨hk3,hi3⟩:=hp;obtain⟨hr,hl3,hl4,hk4⟩:=fin (some (.exit id)) W3 hk3;exact⟨_,_,hr,.inr ⟨rfl,.exit id,hIx _ _ _ _ hi3 (hbp _ _ _ _ (by omega) hl3 rfl rfl),hl4,hk4⟩⟩
   |goto t=>
    obtain⟨hk3,hi3⟩:=hp;obtain⟨hr,hl3,hl4,hk4⟩:=fin (some (.goto t)) W3 hk3;exact⟨_,_,hr,.inr ⟨rfl,.goto t,hIx _ _ _ _ hi3 (hbp _ _ _ _ (by omega) hl3 rfl rfl),hl4,hk4⟩⟩
   |panic ch=>exact hp.elim
   |outgrown=>exact hp.elim
  ·rintro e W2 ⟨⟨v,rfl⟩,(⟨xs,hS,hi,hl,hk⟩|⟨pre,c,hi,hl,hk⟩)⟩
   ·exact⟨none,_,by have:=run_endLoop (P:=P) hl (by rw[hrec];simp);rw[hrec] at this;exact this,hdone _ xs _ (aA _) hS (hI _ _ _ hi (hbp _ _ _ _ (by omega) hl rfl rfl)) ((pK (by omega)).trans hk)⟩
   ·exact⟨some c,_,by have:=run_endLoop (P:=P) hl (by rw[hrec];simp);rw[hrec] at this;exact this,hstop _ c pre _ (aA _) (hIx _ _ _ _ hi (hbp _ _ _ _ (by omega) hl rfl rfl)) ((pK (by omega)).trans hk)⟩
def mS (T:List TypeId) (p:Option Nat) (A B:World):Prop:=A.heap.size<=B.heap.size/\∀k c e fz,A.heap[k]? =some (.cells c e fz)->e∈T->some k≠p->B.heap[k]? =some (.cells c e fz)
theorem mS.of_kept {T:List TypeId} {p:Option Nat} {A B:World} (h:dP none A B):mS T p A B:=⟨h.1,fun k c e fz hk _ _=>h.2 k _ hk rfl (fun q=>by cases q)⟩
theorem mS.of_below {T:List TypeId} {p:Option Nat} {A B:World} (h:Below A.heap.size A B):mS T p A B:=.of_kept (.of_below h)
theorem mS.trans {T:List TypeId} {p:Option Nat} {A B C:World} (h:mS T p A B) (k:mS T p B C):mS T p A C:=⟨aW h.1 k.1,fun i c e fz hi ht hne=>k.2 i c e fz (h.2 i c e fz hi ht hne) ht hne⟩
theorem mS.arr {T:List TypeId} {p:Option Nat} {A B:World} {b e:Nat} {l:List Value} (h:mS T p A B) (ha:Arr A b e l) (ht:e∈T) (hne:some b≠p):Arr B b e l:=h.2 b _ _ _ ha ht hne
theorem mS.own {T:List TypeId} {A B:World} {base e size n:Nat} {v:Value} {xs:List Value} (h:mS T none A B) (ho:A.ownsRow base e size v n xs) (ht:e∈T):B.ownsRow base e size v n xs:=by
 refine⟨ho.1,?_⟩;rcases ho.2 with hn|⟨g,cap,cur,rfl,h1,hg,rest⟩
 ·exact .inl hn
 ·exact .inr ⟨g,cap,cur,rfl,h1,h.2 g _ _ _ hg ht (fun q=>by cases q),rest⟩
theorem mS.box {T:List TypeId} {p:Option Nat} {w:World} {g i e:Nat} {l:List Value} (h:Arr w g e l) (he:e ∉ T) (v:Value):mS T p w (w.setCell ⟨g,i,none⟩ v):=
 ⟨by simp,fun k c e' fz hk ht _=>by
  have:k≠g:=fun q=>by
   subst q;have h2:w.heap[k]? =some (.cells l.toArray e (0,0)):=h;rw[h2] at hk
   injection hk with hk
   injection hk with _ q2 _
   exact he (q2▸ht)
  rw[kT w ⟨g,i,none⟩ k v this];exact hk⟩
theorem mS.grownBox {T:List TypeId} {p:Option Nat} {A B:World} {b e:Nat} {l:List Value} (h:A.grownBy B (some b)) (ha:Arr A b e l) (he:e ∉ T):mS T p A B:=
 ⟨h.size,fun k c e' fz hk ht _=>(h.block k (gQ.1 hk).1 (fun q=>by
  obtain rfl:=bW q;have h2:A.heap[k]? =some (.cells l.toArray e (0,0)):=ha;rw[h2] at hk
  injection hk with hk
  injection hk with _ q2 _
  exact he (q2▸ht))).trans hk⟩
theorem mS.app {T:List TypeId} {p:Option Nat} {e B size n:Nat} {w w':World} {v:Value} {xs:List Value} (ho:w.ownsRow B e size v n xs) (h:w.grownBy w' v.ownBlock) (he:e ∉ T):mS T p w w':=
 ⟨h.size,fun k c e' fz hk ht _=>by
  refine(h.block k (gQ.1 hk).1 (fun q=>?_)).trans hk;rcases ho.2 with⟨rfl,_⟩|⟨g,cap,cur,rfl,_,hg,_⟩
  ·cases q
  ·obtain rfl:=bW q;rw[hk] at hg
   injection hg with hg
   injection hg with _ q2 _
   exact he (q2▸ht)⟩
theorem mS.grown {T:List TypeId} {A B:World} {b:Nat} (h:A.grownBy B (some b)):mS T (some b) A B:=⟨h.size,fun k c e fz hk _ hne=>(h.block k (gQ.1 hk).1 hne).trans hk⟩
def aV4 {α:Type} (n:Nat) (P:gD) (g:Nat) (lb:Array Value) (encs:α->Array Value) (Ri Kp:World->World->Prop) (Ok:World->Prop) (Pre:List α->α->Prop) (Fin:List α->Prop) (w:World):Prop:=
 ∀(l:Nat) (J Jx:List α->World->Prop) (W:World),Below w.heap.size w W->(∀s A B,J s A->Below W.heap.size A B->Ri A B->J s B)->(∀s A B,Jx s A->Below W.heap.size A B->Ri A B->Jx s B)->(∀s A,J s A->Ok A)->
  (∀pre x W1,J pre W1->W.heap.size<=W1.heap.size->Pre pre x->
   YieldAt eA (n-1) P l (encs x) W1 fun e W'=>(e=.returned (.bool true)/\J (pre++[x]) W'/\Kp W1 W')\/(e=.returned (.bool false)/\Jx (pre++[x]) W'))->
  J [] W->
  mD eA n P g (#[.func (.yield l) #[] #[]]++lb) W fun e W'=>(∃v,e=.returned v)/\((∃xs,Fin xs/\J xs W')\/∃pre,Jx pre W')
theorem aXd {α:Type} {n:Nat} {P:gD} {g:iM} {ps:Array Tmp} {assign body:Code} {Q:Exit->Act->World->Prop} {a:Act} {w:World}
  (h1:1<=n) {gf:Nat} {lb:Array Value} (hg:a.eval g=.func (.func gf) #[] lb) (eg:∀args w,(callFunc gf args).run P w=.ok (.enter gf args) w)
  {encs:α->Array Value} {Ri Kp:World->World->Prop} {Ok:World->Prop} {Pre:List α->α->Prop} {Fin:List α->Prop} {w0:World} (hseq:aV4 (n-1) P gf lb encs Ri Kp Ok Pre Fin w0) (hb0:Below w0.heap.size w0 w) (hps:∀x,(encs x).size=ps.size)
  (hKt:∀{A B C:World},Kp A B->Kp B C->Kp A C) (hKc:∀A B,dP none A B->Kp A B) (hRi:∀A B,dP none A B->Ri A B)
  (I:List α->World->Prop) (Ix:Code->List α->World->Prop) (hI:∀s A B,I s A->Below w.heap.size A B->Ri A B->I s B) (hIx:∀c s A B,Ix c s A->Below w.heap.size A B->Ri A B->Ix c s B) (h0:I [] w) (hOk:∀s A,I s A->Ok A)
  (Ax:α->Act->World->Prop) (hAx:∀x a' A A',Ax x a' A->dP none A A'->Ax x a' A')
  (hassign:∀(l:Nat) (pre:List α) (x:α) (W:World) (K:Act->World->Prop),I pre W->w.heap.size<=W.heap.size->Pre pre x->(∀a' W',Below W.heap.size W W'->Ax x a' W'->K a' W')->
   assign.wpIn (eA.inRound l) (n-1-1) P (Exit.then K (fun _ _ _=>False)) {tmps:=(ps.zip (encs x)).foldl (fun t (p,v)=>t.setIfInBounds p v) a.tmps,defers:=[]} W)
  (hbody:∀(l:Nat) (pre:List α) (x:α) (a':Act) (W:World),I pre W->w.heap.size<=W.heap.size->Pre pre x->Ax x a' W->body.wpIn (eA.inRound l) (n-1-1) P (ownPostG w.heap.size Kp I Ix (pre++[x]) W) a' W)
  (hdone:∀(D:Nat) (xs:List α) (W:World),w.heap.size<=D->Fin xs->I xs W->W.heap[D]? =some (.deferred (some []))->Q .normal {a with defers:={target:=.collected D,args:=#[]}::a.defers} W)
  (hstop:∀(D:Nat) (c:Code) (pre:List α) (W:World),w.heap.size<=D->Ix c pre W->W.heap[D]? =some (.deferred (some []))->c.wpIn eA n P Q {a with defers:={target:=.collected D,args:=#[]}::a.defers} W):
  (Code.rangeFunc g ps assign body).wpIn eA n P Q a w:=by
 refine wpIn_rangeFunc ?_;intro fn hfn;rw[show eA.round=none from rfl];obtain⟨rec,hrec⟩:∃rec:LoopState->Option Code->Loop,rec=fun st pe=>{state:=st,pending:=pe,fn,tmps:=a.tmps,params:=ps,assign,body,defers:=w.heap.size}:=⟨_,rfl⟩
 obtain⟨W1,hW1⟩:∃W1,(w.alloc (.deferred (some []))).alloc (.loop (rec .ready none))=W1:=⟨_,rfl⟩;have hL1:W1.heap[w.heap.size+1]? =some (.loop (rec .ready none)):=by
  rw[<-hW1];have:=BC (w.alloc (.deferred (some []))) (.loop (rec .ready none));rwa[fV] at this
 have hK1:W1.heap[w.heap.size]? =some (.deferred (some [])):=by
  rw[<-hW1];exact(oF _ _ _ (by simp)).trans (BC w _)
 have hbw:Below w.heap.size w W1:=by rw[<-hW1];exact((aB _ w).alloc (aA _) _).alloc (by simp) _
 have hI1:I [] W1:=hI _ _ _ h0 hbw (hRi _ _ (dP.of_below hbw));have hs1:W1.heap.size=w.heap.size+2:=by rw[<-hW1];simp
 have hb1:Below w0.heap.size w0 W1:=hb0.trans (hbw.mono hb0.size);have hbp:∀(A:World) (l:Nat) (o o':Obj),w.heap.size<=l->A.heap[l]? =some o->o.isCells=false->o.isWalk=false->Below w.heap.size A (A.putObj l o'):=fun A l o o' hl h k1 k2=>pJ (w:=w) (aA _) A l o o' hl h k1 k2
 refine⟨w.heap.size+1,[{target:=.collected w.heap.size,args:=#[]}],W1,{target:=.fn (.func gf) lb,args:=#[.func (.yield (w.heap.size+1)) #[] #[]]},W1,gf,
  #[.func (.yield (w.heap.size+1)) #[] #[]]++lb,W1,?_,?_,?_,?_,fun _=>h1,?_⟩
 ·rw[<-hW1,hrec];exact run_enterLoop_outer _ _ _ _ _
 ·simp only[resolve,hg];simp[go_sem]
 ·exact fun _ _=>trivial
 ·simp[invoke,go_sem,eg]
 ·have hkl:∀{A B:World} {k:Nat} {o:Obj},Below W1.heap.size A B->k<W1.heap.size->A.heap[k]? =some o->B.heap[k]? =some o:=fun h hk ho=>(h.block _ hk).trans ho
  refine(hseq (w.heap.size+1)
   (fun pre W=>I pre W/\W.heap[w.heap.size+1]? =some (.loop (rec .ready none))/\W.heap[w.heap.size]? =some (.deferred (some [])))
   (fun pre W=>∃c,Ix c pre W/\W.heap[w.heap.size+1]? =some (.loop (rec .done (some c)))/\W.heap[w.heap.size]? =some (.deferred (some [])))
   W1 hb1
   (fun s A B hs hAB hr=>⟨hI s A B hs.1 (hAB.mono (by omega)) hr,hkl hAB (by omega) hs.2.1,hkl hAB (by omega) hs.2.2⟩)
   (fun s A B hs hAB hr=>by
    obtain⟨c,hc,hl,hk⟩:=hs;exact⟨c,hIx c s A B hc (hAB.mono (by omega)) hr,hkl hAB (by omega) hl,hkl hAB (by omega) hk⟩)
   (fun s A hs=>hOk s A hs.1) ?_ ⟨hI1,hL1,hK1⟩).mono ?_
  ·rintro pre x W ⟨hi,hl,hk⟩ hWs hpre;have hlt:w.heap.size+1<W.heap.size:=(gQ.1 hl).1;have hy:=run_yield (P:=P) (args:=encs x) hl (by rw[hrec];exact hps x);rw[hrec] at hy;refine⟨fn,_,assign,body,hy,roundIn_of_wpIn hfn (hassign _ pre x W _ hi (by omega) hpre ?_)⟩;clear hy;intro a' Wa hba hax;have hl':Wa.heap[w.heap.size+1]? =some (.loop (rec .ready none)):=(hba.block _ hlt).trans hl;have hk':Wa.heap[w.heap.size]? =some (.deferred (some [])):=(hba.block _ (by omega)).trans hk;have hlt':w.heap.size+1<Wa.heap.size:=(gQ.1 hl').1
   have hia:I pre Wa:=hI _ _ _ hi (hba.mono (by omega)) (hRi _ _ (dP.of_below hba));refine⟨_,run_beginRound hl' (by rw[hrec]),?_⟩;have hl2:(Wa.putObj (w.heap.size+1) (.loop {rec .ready none with state:=.busy})).heap[w.heap.size+1]? =some (.loop {rec .ready none with state:=.busy}):=BD hlt';have hk2:(Wa.putObj (w.heap.size+1) (.loop {rec .ready none with state:=.busy})).heap[w.heap.size]? =some (.deferred (some [])):=(pK (by omega)).trans hk'
   have hck:∀bo,dP bo Wa (Wa.putObj (w.heap.size+1) (.loop {rec .ready none with state:=.busy})):=fun bo=>dP.putObj _ _ hl' rfl
   refine wpIn_mono (hbody _ pre x a' _ (hI _ _ _ hia (hbp _ _ _ _ (by omega) hl' rfl rfl) (hRi _ _ (hck none))) (by have:=hba.size;simp;omega) hpre (hAx _ _ _ _ hax (hck none))) ?_;have fin:∀(jump:Option Code) (W3:World),KeepsFrom w.heap.size (Wa.putObj (w.heap.size+1) (.loop {rec .ready none with state:=.busy})) W3->
     (Instr.endRound (w.heap.size+1) jump).run P W3=.ok (.bool jump.isNone) (W3.putObj (w.heap.size+1) (.loop (rec (if jump.isNone then .ready else .done) jump)))/\
     W3.heap[w.heap.size+1]? =some (.loop {rec .ready none with state:=.busy})/\
     (W3.putObj (w.heap.size+1) (.loop (rec (if jump.isNone then .ready else .done) jump))).heap[w.heap.size+1]? =some (.loop (rec (if jump.isNone then .ready else .done) jump))/\
     (W3.putObj (w.heap.size+1) (.loop (rec (if jump.isNone then .ready else .done) jump))).heap[w.heap.size]? =some (.deferred (some [])):=fun jump W3 hk3=>by
    have hl3:=hk3.same _ _ (by omega) hl2 rfl;have:=run_endRound (P:=P) jump hl3;rw[hrec] at this ⊢;exact⟨this,by rw[hrec] at hl3;exact hl3,BD (gQ.1 hl3).1,(pK (by omega)).trans (hk3.same _ _ (aA _) hk2 rfl)⟩
   rintro e a3 W3 hp
   cases e with
   |normal=>
    obtain⟨hk3,hkp3,hi3⟩:=hp;obtain⟨hr,hl3,hl4,hk4⟩:=fin none W3 hk3;exact⟨_,_,hr,.inl ⟨rfl,⟨hI _ _ _ hi3 (hbp _ _ _ _ (by omega) hl3 rfl rfl) (hRi _ _ (dP.putObj _ _ hl3 rfl)),hl4,hk4⟩,hKt (hKc _ _ (dP.of_below hba)) (hKt (hKc _ _ (hck none)) (hKt hkp3 (hKc _ _ (dP.putObj _ _ hl3 rfl))))⟩⟩
   |ret=>
    obtain⟨hk3,hi3⟩:=hp;obtain⟨hr,hl3,hl4,hk4⟩:=fin (some .ret) W3 hk3;exact⟨_,_,hr,.inr ⟨rfl,.ret,hIx _ _ _ _ hi3 (hbp _ _ _ _ (by omega) hl3 rfl rfl) (hRi _ _ (dP.putObj _ _ hl3 rfl)),hl4,hk4⟩⟩
   |exit id=>
    obtain⟨hk3,hi3⟩:=hp;obtain⟨hr,hl3,hl4,hk4⟩:=fin (some (.exit id)) W3 hk3;exact⟨_,_,hr,.inr ⟨rfl,.exit id,hIx _ _ _ _ hi3 (hbp _ _ _ _ (by omega) hl3 rfl rfl) (hRi _ _ (dP.putObj _ _ hl3 rfl)),hl4,hk4⟩⟩
   |goto t=>
    obtain⟨hk3,hi3⟩:=hp;obtain⟨hr,hl3,hl4,hk4⟩:=fin (some (.goto t)) W3 hk3;exact⟨_,_,hr,.inr ⟨rfl,.goto t,hIx _ _ _ _ hi3 (hbp _ _ _ _ (by omega) hl3 rfl rfl) (hRi _ _ (dP.putObj _ _ hl3 rfl)),hl4,hk4⟩⟩
   |panic ch=>exact hp.elim
   |outgrown=>exact hp.elim
  ·rintro e W2 ⟨⟨v,rfl⟩,(⟨xs,hS,hi,hl,hk⟩|⟨pre,c,hi,hl,hk⟩)⟩
   ·exact⟨none,_,by have:=run_endLoop (P:=P) hl (by rw[hrec];simp);rw[hrec] at this;exact this,hdone _ xs _ (aA _) hS (hI _ _ _ hi (hbp _ _ _ _ (by omega) hl rfl rfl) (hRi _ _ (dP.putObj _ _ hl rfl))) ((pK (by omega)).trans hk)⟩
   ·exact⟨some c,_,by have:=run_endLoop (P:=P) hl (by rw[hrec];simp);rw[hrec] at this;exact this,hstop _ c pre _ (aA _) (hIx _ _ _ _ hi (hbp _ _ _ _ (by omega) hl rfl rfl) (hRi _ _ (dP.putObj _ _ hl rfl))) ((pK (by omega)).trans hk)⟩
end
section
open Go.RowKit Go Go.Shelf
attribute [local go_sem] rB
theorem aPw {n:Nat} {F:Fence} {ops:Array Oper} {rest:List Oper} {o:Oper} {a:Act} {Q:Exit->Act->World->Prop} {w:World} (hgd:o.guard=none) (s x:iM)
  (ho:o.op=.call {callee:=.builtin .append,args:=#[s,x],argTypes:=#[57,57]}) (base:Nat) (v:Value) (l:List Int) (hs:a.eval s=v) (hown:OwI w base v l)
  (g:Nat) (y:Int) (hx:a.eval x=.slice (some ⟨g,0,none⟩) 1 1) (hc:w.cell? ⟨g,0,none⟩=some (.int .i64 y)) (hroom:(l.length+1)*8<=140737488355328) (hbase:base<=w.heap.size)
  (h:∀v' w',OwI w' base v' (l++[y])->Below base w w'->w.grownBy w' v.ownBlock->wpListIn F n Tryz.prog ops Q rest (a.put o.dst v') w'):wpListIn F n Tryz.prog ops Q (o::rest) a w:=by
 obtain⟨i,hi,hz,h2,h3⟩:=gL.info;have h4:(bO .i64 0).cells.size=1:=by rw[gL.cells];rfl
 have hown':w.ownsRow base 3 1 v l.length (l.map (bO .i64)):=by have:=hown;unfold OwI Ow at this;rwa[bJ] at this
 refine wpListIn_append_own w hgd s x 57 ho base 3 i (.int .i64 0) 1 8 gL.under hi hz h2 h3 h4 (by decide) v l.length (l.map (bO .i64)) hs hown' ⟨g,0,none⟩ 1 1 [.int .i64 y] hx rfl ?_ (by simp[Value.oneCell']) (by simp only[maxLen];omega) hroom hbase (fun v' w' q1 q2 _=>h v' w' ?_ (rC hown' q2 hbase) q2)
 ·intro j u' hj
  cases j with
  |zero=>simp at hj;subst hj;simpa [iN] using hc
  |succ j=>simp at hj
 ·unfold OwI Ow;rw[fI,aL]
  simpa using q1
def iY (l:List Int) (k:Nat):List Nat:=(dG k).filter (fun n=>decide (bU l n≠0))
theorem ZY (l:List Int) (k:Nat):iY l (k+1)=iY l k++if bU l k≠0 then[k] else[]:=by
 unfold iY;rw[sF,List.filter_append]
 congr 1
 by_cases h:bU l k≠0
 ·rw[if_pos h,List.filter_cons_of_pos (by simpa using h),NP]
 ·rw[if_neg h,aTp (by simpa using h),NP]
theorem ZZ (l:List Int):∀m k,∃r,iY l (k+m)=iY l k++r
 |0,k=>⟨[],by simp⟩
 |m+1,k=>by
  obtain⟨r,hr⟩:=ZZ l m k;rw[show k+(m+1)=k+m+1 by omega,ZY,hr,cF];exact⟨_,rfl⟩
def lI (l:List Int) (n i:Nat):List Int:=(lR l n i).map (fun s:Nat=>(s:Int))
theorem ET (l:List Int) (n i:Nat) (h:i<=l.length):(lI l n i).length=bU (l.take i) n:=by unfold lI;rw[bJ,BO l n i h]
theorem aPx (l:List Int) (n i:Nat):lI l n (i+1)=lI l n i++if l.getD i 0==(n:Int) then[(i:Int)] else[]:=by
 unfold lI;rw[II,fI]
 congr 1
 split<;>rfl
def tI (l:List Int) (x:Nat×Value):Array Value:=#[.agg #[.int .i64 (x.1:Int),.int .u64 (fC l x.1:Int),x.2]]
def xA (l:List Int) (B:Nat) (pre:List (Nat×Value)) (x:Nat×Value) (W:World):Prop:=
 (∃r,pre.map (·.1)++x.1::r=iY l 21)/\(1<=x.1/\x.1<=20)/\0<bU l x.1/\pre.map (·.1)=iY l x.1/\OwI W B x.2 (lI l x.1 l.length)
theorem aPy (n:Nat) (hn:1<=n) (l0 Bs bo b1 o1 ca:Nat) (ls:List Int) (hE:bL ls=0) (J Jx:List (Nat×Value)->World->Prop) (W:World)
  (hA:Arr W Bs 57 [.slice (some ⟨b1,o1,none⟩) ls.length ca]) (hc:∀i x,ls[i]? =some x->W.cell? ⟨b1,o1+i,none⟩=some (.int .i64 x)) (hb1:b1≠bo) (hBs:Bs≠bo) (hbo:bo<W.heap.size) (hb1W:b1<W.heap.size)
  (hJs:∀s A B,J s A->Below W.heap.size A B->J s B)
  (hY:∀pre x W1,J pre W1->W.heap.size<=W1.heap.size->xA ls W.heap.size pre x W1->YieldAt eA (n-1) Tryz.prog l0 (tI ls x) W1 fun e W'=>(e=.returned (.bool true)/\J (pre++[x]) W'/\dP (some bo) W1 W')\/(e=.returned (.bool false)/\Jx (pre++[x]) W'))
  (h0:J [] W):
  mD eA n Tryz.prog 160 #[.func (.yield l0) #[] #[],.pointer (some ⟨Bs,0,none⟩)] W fun e W'=>(∃v,e=.returned v)/\((∃xs:List (Nat×Value),xs.map (·.1)=iY ls 21/\J xs W')\/∃pre,Jx pre W'):=by
 have hok:=eH hE;have HLT:=hid (fun i (h:i<ls.length)=>(jG hok.1 h));have hl2:=hok.1.2.1;have HNB:=hid (fun k (hk:k<=20)=>DJ (i:=ls.length) hok.1 hok.2 hk);have HF1:=hid (PA (fun x hx=>(hok.1.2.2 x hx).1));have HL1:=hid (show iY ls 1=[] by
  unfold iY;rw[show dG 1=[0] from rfl,aTp (by simp[OZ (fun x hx=>(hok.1.2.2 x hx).1)]),NP])
 have HJS:=hid hJs;have HC0:=hid hc;clear hok hJs hc;refine tW Tryz.func160 rfl trivial ?_ rfl;simp only[Tryz.ntmps160,mY,cR,cX,lZ,mZ,lL,lM,lN,lO,iG,gE]
 gi_wp2_with fail
 gi_loopg [3,4] 20 (fun g s3 s4 wr=>∃(k V:Nat) (pre:List (Nat×Value)),1<=k/\k<=21/\g=21-k/\s4=.int .i64 (k:Int)/\s3=.int .u64 (V:Int)/\Hid (2*V=fC ls k)/\V<=1048576/\Hid (pre.map (·.1)=iY ls k)/\J pre wr/\W.heap.size<=wr.heap.size/\dP (some bo) W wr)
 case atStart=>exact⟨1,0,[],by omega,by omega,rfl,rfl,rfl,hid (by rw[HF1.out]),by omega,hid (by rw[HL1.out];rfl),h0,aA _,dP.refl _ _⟩
 case round=>
  obtain⟨k,V,pre,hk1,hk2,hg,rfl,rfl,HV,hVb,HP,hJ,hsz,hck⟩:=hrel;have HG:=hid hg;clear hg
  by_cases hk:k<=20
  ·have t1:decide ((k:Int)<=20)=true:=decide_eq_true (by omega);obtain⟨X,hX⟩:∃X,X=2*V:=⟨_,rfl⟩;have HX:=hid (show X=fC ls k by rw[hX,HV.out]);have m1:fU.wrap ((V:Int)*2)=(X:Int):=by rw[gF];omega
   have m2:(V:Int)*2=(X:Int):=by omega
   have m3:(V:Int)*2%18446744073709551616=(X:Int):=by omega
   have m4:fU.wrap (X:Int)=(X:Int):=by rw[gF];omega
   have hXb:X<=2097152:=by omega
   have hA1:=hck.arr hA (by simp;exact hBs);have hB1:=hA1.lt;have c0:=hA1.cell (i:=0) rfl;clear hX hA1
   gi_wp2_with fail
   have hSA:=Arr.new wr 244 [.int .i64 (k:Int),.int .u64 (X:Int),.slice none 0 0];change Arr (wr.alloc (.cells #[.int .i64 (k:Int),.int .u64 (X:Int),.slice none 0 0] 244)) _ _ _ at hSA;have hBw:Below wr.heap.size wr (wr.alloc (.cells #[.int .i64 (k:Int),.int .u64 (X:Int),.slice none 0 0] 244)):=bD (aB _ _) _;have hsw:(wr.alloc (.cells #[.int .i64 (k:Int),.int .u64 (X:Int),.slice none 0 0] 244)).heap.size=wr.heap.size+1:=by simp
   generalize wr.alloc (.cells #[.int .i64 (k:Int),.int .u64 (X:Int),.slice none 0 0] 244)=w1 at*
   obtain⟨S,hS⟩:∃S,S=wr.heap.size:=⟨_,rfl⟩;rw[<-hS] at hSA hBw hsw ⊢;have hcK:∀i x,ls[i]? =some x->wr.cell? ⟨b1,o1+i,none⟩=some (.int .i64 x):=fun i x hi=>hck.cell (HC0.out i x hi) (by simp;exact hb1)
   have HCK:=hid hcK;have hb1S:b1<S:=by rw[hS];exact dR hb1W hsz
   have hJ1:J pre w1:=HJS.out _ _ _ hJ (hBw.mono (by omega));have hck1:dP (some bo) W w1:=hck.trans (dP.of_below (by rw[<-hS];exact hBw));have hWS:W.heap.size<=S:=by omega
   obtain⟨W0,hW0⟩:∃W0,W0=wr:=⟨_,rfl⟩;rw[<-hW0] at hBw HCK hsz hck hJ hS;have HJ0:=hid hJ;have HS:=hid hS;clear hS hcK c0 hB1 hJ hJ1 hck1
   gi_loopg [6,7,19] ls.length (fun g _s6 _s7 s19 wx=>∃(i:Nat) (u:Value),i<=ls.length/\g=ls.length-i/\s19=.int .i64 (i:Int)/\Arr wx S 244 [.int .i64 (k:Int),.int .u64 (X:Int),u]/\OwI wx (S+1) u (lI ls k i)/\Below S W0 wx/\S<wx.heap.size)
   case atStart=>exact⟨0,.slice none 0 0,Nat.zero_le _,rfl,rfl,hSA,OwI.nil _ _,hBw,by omega⟩
   case round=>
    clear hSA hBw;obtain⟨i,u,hi,hg,rfl,hSA,ho,hBw,hSs⟩:=hrel;have HG2:=hid hg;clear hg
    by_cases hlt:i<ls.length
    ·have t2:decide ((i:Int)<(ls.length:Int))=true:=decide_eq_true (by omega);obtain⟨hx1,hx2,hx⟩:=HLT.out i hlt;have c1:=(hBw.cell (p:=⟨b1,o1+i,none⟩) hb1S).trans (HCK.out i _ hx);have hgD:ls.getD i 0=(bG ls i:Int):=by rw[List.getD_eq_getElem?_getD,hx];rfl
     have hws:=aPx ls k i;rw[hgD] at hws;obtain⟨x,hxe⟩:∃x,x=bG ls i:=⟨_,rfl⟩;rw[<-hxe] at c1 hws hx1 hx2;clear hxe hx hgD;have d2:=hSA.cell (i:=2) rfl;have hwl:(lI ls k i).length<=258:=by rw[ET ls k i (by omega)];unfold bU;exact aW List.countP_le_length (by rw[List.length_take];omega)
     have hne:some S≠u.ownBlock:=fun e=>by have:=(Ow.lt ho S e.symm).1;omega
     by_cases hxk:x=k
     ·subst hxk;have t3:decide ((x:Int)=(x:Int))=true:=decide_eq_true rfl;have hws2:=hws;rw[if_pos (by simp)] at hws2;have HWS:=hid hws2;clear hws hws2
      gi_wp2_with (gi_at_builtin;refine aPw rfl _ _ rfl (S+1) _ _ rfl (OwI.alloc ho _) _ (i:Int) rfl (bS _ _ _) ?_ ?_ ?_;(omega);(simp;omega);intro v3 w3 p1 p2 p3;(obtain⟨a3,c3,hv3e,_,_,_⟩:=(OwI.rd p1).open);subst hv3e;(have hS3:=(hSA.alloc (.cells #[.int .i64 (i:Int)] 3)).grown p3 hne);(have e2:=hS3.cell (i:=2) rfl);(have g2:=hS3.free 2))
      have hg2:=HG2.out
      gi_roundg (ls.length-(i+1))
      case measure=>omega
      case rel=>
       have e3:(lI ls x i++[(i:Int)]).length=(lI ls x i).length+1:=by simp
       rw[e3] at p1;have hv3:Value.ownBlock (.slice a3 ((lI ls x i).length+1) c3)≠some S:=fun e=>by have:=(Ow.lt p1 S e).1;omega
       refine⟨i+1,.slice a3 ((lI ls x i).length+1) c3,by omega,rfl,by go_num,hS3.set 2 _,?_,(((hBw.alloc (by omega) _).trans (p2.mono (by omega))).setCell (p:=⟨S,2,none⟩) (aA _) _),?_⟩
       ·rw[HWS.out];exact Ow.kept p1 (MP w3 S 2 _) (.inr hv3)
       ·have:=p2.size;simp at this ⊢;omega
     ·have t3:decide ((x:Int)=(k:Int))=false:=decide_eq_false (by omega);rw[if_neg (by simp;omega),eE] at hws;have HWS:=hid hws;clear hws
      gi_wp2_with fail
      have hg2:=HG2.out
      gi_roundg (ls.length-(i+1))
      case measure=>omega
      case rel=>exact⟨i+1,u,by omega,rfl,by go_num,hSA,by rw[HWS.out];exact ho,hBw,hSs⟩
    ·have t2:decide ((i:Int)<(ls.length:Int))=false:=decide_eq_false (by omega);have hie:i=ls.length:=by omega
     subst hie;obtain⟨C,hC⟩:∃C,C=bU ls k:=⟨_,rfl⟩;have hwl:(lI ls k ls.length).length=C:=by rw[ET ls k _ (aA _),kE,hC]
     have hnb:=HNB.out k hk;unfold iW at hnb;rw[kE,<-HX.out,<-hC] at hnb;obtain⟨V2,hV2⟩:∃V2,V2=X+C:=⟨_,rfl⟩;have m5:fU.wrap (C:Int)=(C:Int):=by rw[gF];omega
     have m6:(C:Int)%18446744073709551616=(C:Int):=by omega
     have m7:fU.wrap (V2:Int)=(V2:Int):=by rw[gF];omega
     have m8:(X:Int)+(C:Int)=(V2:Int):=by omega
     have hV2b:V2<=1048576:=by omega
     have HV2:=hid (show 2*V2=fC ls (k+1) by rw[hV2,HX.out,hC];rfl);have hls:=ZY ls k;rw[<-hC] at hls;have hJr:J pre wr:=HJS.out _ _ _ HJ0.out (hBw.mono hWS);have hckr:dP (some bo) W wr:=hck.trans (dP.of_below (by rw[<-HS.out];exact hBw));obtain⟨r',hr'⟩:=ZZ ls (21-(k+1)) (k+1);rw[show k+1+(21-(k+1))=21 by omega] at hr';obtain⟨a',ca',hua,_,_,_⟩:=(OwI.rd ho).open;rw[hwl] at hua;subst hua;have d2:=hSA.cell (i:=2) rfl;have d0:=hSA.cell (i:=0) rfl;have d1:=hSA.cell (i:=1) rfl
     by_cases hC0:C=0
     ·have t3:decide ((C:Int)>0)=false:=decide_eq_false (by omega);have t4:decide (0<C)=false:=decide_eq_false (by omega);have t5:¬0<C:=by omega
      rw[if_neg (fun q=>q hC0),eE] at hls;obtain rfl:V2=X:=by omega
      have HPF:=hid (show pre.map (·.1)=iY ls (k+1) by rw[HP.out,hls]);clear hC hls hV2 hr' hnb hwl
      gi_wp2_with fail
      refine⟨fun _ h=>(by cases h),?_⟩
      gi_wp2_with fail
      have hg:=HG.out
      gi_roundg (21-(k+1))
      case measure=>omega
      case rel=>exact⟨k+1,V2,pre,by omega,by omega,rfl,by go_num,rfl,HV2,hV2b,HPF,hJr,by omega,hckr⟩
     ·have t3:decide ((C:Int)>0)=true:=decide_eq_true (by omega);have t4:decide (0<C)=true:=decide_eq_true (by omega);have t5:0<C:=by omega
      rw[if_pos hC0] at hls;have HPF:=hid (show(pre++[(k,Value.slice a' C ca')]).map (·.1)=iY ls (k+1) by rw[fI,HP.out,hls];rfl);obtain⟨fn,tmps,assign,body,hy,hR⟩:=hY pre (k,.slice a' C ca') wr hJr (by omega) ⟨⟨r',by rw[HP.out,hr',hls,cF];rfl⟩,⟨hk1,hk⟩,by rw[<-hC];omega,HP.out,OwI.base ho (by omega)⟩;have hy2:(Instr.yield l0 #[.agg #[.int .i64 (k:Int),.int .u64 (X:Int),.slice a' C ca']]).run Tryz.prog wr=.ok (.round l0 fn tmps assign body) wr:=by
       have e:tI ls (k,.slice a' C ca')=#[.agg #[.int .i64 (k:Int),.int .u64 (X:Int),.slice a' C ca']]:=by unfold tI;rw[HX.out]
       rw[<-e];exact hy
      have hbS:some S≠some bo:=fun e=>by injection e with e;omega
      clear hC hls hV2 hr' hnb hwl hy
      gi_wp2_with fail
      refine hR.mono ?_;rintro e W3 (⟨rfl,hJ3,hk3⟩|⟨rfl,hJ3⟩)
      ·have hS3:=hk3.arr hSA hbS;have e2:=hS3.cell (i:=2) rfl;have hs3:=hk3.1;clear d0 d1 d2
       gi_wp2_with fail
       have hg:=HG.out
       gi_roundg (21-(k+1))
       case measure=>omega
       case rel=>exact⟨k+1,V2,pre++[(k,.slice a' C ca')],by omega,by omega,rfl,by go_num,rfl,HV2,hV2b,HPF,hJ3,by omega,hckr.trans hk3⟩
      ·gi_wp2_with fail
       refine gJ (qX rfl _ _ _) rfl ?_;exact⟨⟨_,rfl⟩,.inr ⟨_,hJ3⟩⟩
  ·have t1:decide ((k:Int)<=20)=false:=decide_eq_false (by omega);have hke:k=21:=by omega
   have HPF:=hid (show pre.map (·.1)=iY ls 21 by rw[HP.out,hke])
   gi_wp2_with fail
   go_end0
   exact⟨⟨_,rfl⟩,.inl ⟨pre,HPF.out,hJ⟩⟩
end
section
open Go.RowKit Go Go.Shelf
theorem aP9 {l0 n:Nat} {P:gD} {row:String} {args:Array Value} {w:World} {R:Value->World->Prop} (h:Rows P row args w R):RowsIn (eA.inRound l0) n P row args w R:=fun c cs _=>
 let⟨v,w',r,s⟩:=h c cs;⟨v,w',r,stepsIn_wide.2 s⟩
theorem aQa {l0 n:Nat} (h1:1<=n) {P:gD} {o:Oper} (hd:∀c,o.op≠.defer c) {a:Act} {w:World} {K:Act->World->Prop} {Q:Exit->Act->World->Prop} (h:o.wp P a w K Q):o.wpIn (eA.inRound l0) n P a w K Q:=by
 refine⟨fun _ _=>trivial,?_⟩;rw[Oper.semAt_plain (eA.inRound l0) _ _ hd];unfold lX at h
 revert h
 generalize (execOp a.eval o).run P w=r;intro h
 cases r with
 |ok x w'=>
  cases x<;>first|exact h|exact⟨fun _=>h1,callsIn_wide.2 h⟩|exact⟨fun _=>h1,aP9 h⟩|exact h.elim
 |halt hh w'=>
  cases hh<;>first|exact h|exact h.elim
theorem aAe {l0 n:Nat} (h1:1<=n) {P:gD} {md:Region.Mode} {ops:Array Oper} {Q:Exit->Act->World->Prop} (hq:¬LetsOut Q) (hd:∀(i:Nat) (o:Oper),ops[i]? =some o->∀c,o.op≠.defer c):
  ∀(fuel:Nat) (listed:Array Bool) (a:Act) (w:World),wpAny P md ops Q fuel listed a w->wpAnyIn (eA.inRound l0) n P md ops Q fuel listed a w
 |0,_,_,_,h=>h
 |fuel+1,listed,a,w,h=>⟨h.1,fun i hi=>by
  have h2:=h.2 i hi;have ih:=aAe (l0:=l0) (P:=P) (md:=md) (Q:=Q) h1 hq hd fuel (listed.setIfInBounds i true);unfold wpOp at h2;unfold wpOpIn
  cases e:ops[i]? with
  |none=>rw[e] at h2;exact ih _ _ h2
  |some o=>
   rw[e] at h2;dsimp only at h2 ⊢;split
   ·next hw=>
    rw[if_pos hw] at h2;refine aQa h1 (hd i o e) ?_;exact Oper.wp_mono (fun a' w'=>ih a' w') (h2.resolve_right (fun x=>hq x.2))
   ·next hw=>
    rw[if_neg hw] at h2;exact⟨fun _ _=>trivial,ih _ _ h2⟩⟩
def MQ (o:Oper):Bool:=match o.op with|.defer _=>false|_=>true
theorem aQb {ops:Array Oper} (h:ops.toList.all MQ=true):∀(i:Nat) (o:Oper),ops[i]? =some o->∀c,o.op≠.defer c:=fun i o hi c hc=>by
 rw[List.all_eq_true] at h;have:=h o (by rw[<-Array.getElem?_toList] at hi;exact List.mem_of_getElem? hi);unfold MQ at this;rw[hc] at this;exact tQ this
theorem aAf {l0 n:Nat} (h1:1<=n) {P:gD} {id:Nat} {ops:Array Oper} {Q:Exit->Act->World->Prop} {a:Act} {w:World} (S:World->Prop) (hm:P.follows .mixedOrders=true) (hq:¬LetsOut Q) (hd:ops.toList.all MQ=true)
  (h:wpAnyH P .any ops Q S ops.size (Array.replicate ops.size false) a w.drew):(Code.region id ops true).wpIn (eA.inRound l0) n P Q a w:=
 wpIn_region_any hm (aAe h1 hq (aQb hd) _ _ _ _ (wpAny_of_held _ _ _ _ h))
theorem jW {b c o p:Nat} (h:b≠c):(⟨b,o,none⟩:Addr)≠⟨c,p,none⟩:=fun e=>h (congrArg Addr.block e)
theorem zU {w:World} {p1 p2 p3 p4 q:Addr} {v1 v2 v3 v4:Value} (h:w.cell? p1=some v1/\w.cell? p2=some v2/\w.cell? p3=some v3/\w.cell? p4=some v4) (n1:q≠p1) (n2:q≠p2) (n3:q≠p3) (n4:q≠p4) (v:Value):
  (w.setCell q v).cell? p1=some v1/\(w.setCell q v).cell? p2=some v2/\(w.setCell q v).cell? p3=some v3/\(w.setCell q v).cell? p4=some v4:=by
 rw[iQ _ _ _ _ n1,iQ _ _ _ _ n2,iQ _ _ _ _ n3,iQ _ _ _ _ n4];exact h
end
end Go.Proofs.YtmcogmmncfihhaaGreatDoor
