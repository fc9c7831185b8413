/-
  Texts put together (part 6): the walks and the plain laws on which the statement stands.
-/
import Derived.RangeFuncNested
import Derived.RangeFuncBound
import Derived.RangeFuncCalls
import Derived.RangeFuncLeaves
import Derived.RangeFuncBox
import Derived.Shelf.RegionOpen
import Derived.OwnWalkIn
import Derived.TacticsInMore
import Derived.LoopNIn
import Derived.LoopIn
import Derived.Sort.OwnSortedInts
import Derived.Test.YtfckbfofgeilgaaGreatDoorZ2
set_option maxRecDepth 100000
set_option maxHeartbeats 12800000
set_option linter.unusedVariables false
set_option linter.unusedSimpArgs false
open Go.Proofs.Tryz
open Go.Proofs.Tryz renaming prog->pG
open And renaming intro->tK
open Array renaming getElem?_eq_some_iff->fE,replicate_succ->jG,replicate_zero->jH
open Go renaming CallsIn->iV,belowK_b->pH,callsIn_of_wp->pX,cell_kept->yQ,grownBy_putObj'->kV,heap_setCell_other->kF,run_takeDeferred->sE
open Go.Fence renaming wide->cZ
open Go.KeepsOthers renaming setCell->kJ
open Go.RowKit.Below renaming refl->aH
open Go.Value renaming int->bQ
open Go.World renaming alloc_heap_new->AZ,cell?_setCell_other->lI,cell?_setCell_same->rX,frozen?_setCell->IG,putObj_heap_other->qA,putObj_heap_same->BA,size_alloc->fP
open List renaming append_assoc->bU,append_toArray->jJ,cons_append->fF,drop_eq_getElem_cons->pF,drop_of_length_le->sB,drop_zero->pI,eq_nil_of_length_eq_zero->wY,getD->jD,getElem?_eq_getElem->aN,getElem?_eq_some_iff->eF,length_append->aL,length_cons->aU,length_drop->bA,length_map->aS,length_nil->aV,length_replicate->AT,length_singleton->fQ,nil_append->eL,push_toArray->jI,range->eT,range_succ->wU,replicate->aX,size_toArray->dB
open Nat renaming le_refl->aD,le_succ->tJ,lt_of_lt_of_le->fB,lt_or_ge->cF,mod_eq_of_lt->jT,reduceAdd->cV,reduceSub->dC,sub_zero->sD,zero_le->aO
open Option renaming some->aY
namespace Go.Proofs.YtfckbfofgeilgaaGreatDoor
section
open Go.RowKit
def qT (d:List Int):Int:=if num d<=1099511627776 then(num d:Int) else 0
def oB (d:List Int):Int:=if num d<=1099511627776 then 0 else 4
end
section
open Go.RowKit Go.Shelf
attribute [local go_sem] Oper.semAt_some
def bv (b:Bool):Int:=if b then 1 else 0
def sP {α:Type} (f:Nat->α) (k:Nat):List α:=(eT k).map f
theorem QD {α:Type} (f:Nat->α) (k:Nat):sP f (k+1)=sP f k++[f k]:=by simp[sP,wU]
theorem aOu {α:Type} (f:Nat->α) (k:Nat):(sP f k).length=k:=by simp[sP]
def bk (d:List Bool) (j:Nat):Nat×Bool:=(d.length-1-j,d[d.length-1-j]?.getD false)
def JV (x:Nat×Bool):Array Value:=#[bQ .i64 (x.1:Int),bQ .i64 (bv x.2)]
def KpB (e d:Nat) (A B:World):Prop:=Below e A B/\B.heap[d]? =A.heap[d]?
theorem JW {d e:Nat} {A B C:World} (h:KpB d e A B) (k:KpB d e B C):KpB d e A C:=⟨h.1.trans k.1,k.2.trans h.2⟩
theorem QE {D d:Nat} {w:World} (F:D<=w.heap.size) (L:d<w.heap.size) (W:World) (l:Nat) (o A:Obj) (G:w.heap.size<=l) (h:W.heap[l]? =some o) (I:o.isCells=false) (J:o.isWalk=false):KpB D d W (W.putObj l A):=
 ⟨pH F W l o A G h I J,(kV W l A).block d (by grind) (fun e=>by cases e;omega)⟩
theorem KpB.cell {e d:Nat} {A B:World} (h:KpB e d A B) (k:Nat):B.cell? ⟨d,k,none⟩=A.cell? ⟨d,k,none⟩:=World.cell?_of_block h.2
theorem aOv (F:Fence) (n:Nat) (Y:F.fn 257) (Z:F.round=none) (hn:1<=n) (l G L b off cap:Nat) (d:List Bool) (a4:d.length<=1000000) (hb:b<L) (J U:List (Nat×Bool)->World->Prop)
  (hY:∀A x W,J A W->A.length<d.length->YieldAt F (n-1) pG l (JV x) W fun e D=>
   (e=.returned (.bool true)/\J (A++[x]) D/\KpB L G W D)\/(e=.returned (.bool false)/\U (A++[x]) D))
  (W:World) (a0:W.cell? ⟨G,0,none⟩=some (.slice (some ⟨b,off,none⟩) d.length cap)) (hc:∀j,j<d.length->W.cell? ⟨b,off+j,none⟩=some (.int .i64 (bv (d[j]?.getD false)))) (h0:J [] W):
  iV F n pG 257 #[.func (.yield l) #[] #[],.pointer (some ⟨G,0,none⟩)] W fun e D=>(∃v,e=.returned v)/\
   ((∃V,V=sP (bk d) d.length/\J V D)\/(∃A,(∃k,k<=d.length/\A=sP (bk d) k)/\U A D)):=by
 refine pX func257 rfl Y ?_ Z;simp only[ntmps257,dB,aU,aV,cV,dC,jG,jH,jI,jJ,eL,fF]
 gi_wp2
 gi_loopw [3] (fun i wr=>∃q:Nat,q<=d.length/\i=.int .i64 ((q:Int)-1)/\J (sP (bk d) (d.length-q)) wr/\KpB L G W wr)
  (fun i _=>(intOf i+1).toNat)
 case atStart=>exact⟨d.length,aD _,rfl,by rw[Nat.sub_self];exact h0,aH _ _,rfl⟩
 case round=>
  obtain⟨q,hq,I,M,O⟩:=hrel
  cases q with
  |zero=>
   rw[show(((0:Nat):Int)-1)= -1 by omega] at I;subst I
   gi_wp2
   go_end0
   exact⟨⟨_,rfl⟩,.inl ⟨_,rfl,by rw[sD] at M;exact M⟩⟩
  |succ p=>
   rw[show(((p+1:Nat):Int)-1)=(p:Int) by omega] at I;subst I;have e1:d.length-1-(d.length-(p+1))=p:=by omega
   have a5:=(O.cell 0).trans a0;have a6:=(O.1.cell (p:=⟨b,off+p,none⟩) hb).trans (hc p (by omega));obtain⟨fn,tmps,assign,body,R,hR⟩:=hY _ (bk d (d.length-(p+1))) wr M (by rw[aOu];omega);unfold JV bk at R;dsimp only at R;rw[e1] at R
   gi_wp2
   refine hR.mono ?_;rintro e W3 (⟨rfl,a1,a2⟩|⟨rfl,a3⟩)
   ·gi_wp2
    go_roundw
    case rel=>exact⟨p,by omega,by go_num,by rw[show d.length-p=(d.length-(p+1))+1 by omega,QD];exact a1,JW O a2⟩
    case measure=>simp[intOf]
   ·gi_wp2
    refine bodyPost_ret (results_none rfl _ _ _) rfl ?_;exact⟨⟨_,rfl⟩,.inr ⟨_,⟨d.length-(p+1)+1,by omega,(QD _ _).symm⟩,a3⟩⟩
theorem aOw (F:Fence) (n:Nat) (A:F.fn 257) (D:F.round=none) (l d cap:Nat) (a:Option Addr) (J:List (Nat×Bool)->World->Prop) (W:World) (M:W.cell? ⟨d,0,none⟩=some (.slice a 0 cap)) (G:J [] W):
  iV F n pG 257 #[.func (.yield l) #[] #[],.pointer (some ⟨d,0,none⟩)] W fun e I=>(∃v,e=.returned v)/\J [] I:=by
 refine pX func257 rfl A ?_ D;simp only[ntmps257,dB,aU,aV,cV,dC,jG,jH,jI,jJ,eL,fF]
 gi_wp2
 gi_loopw [3] (fun i wr=>i=.int .i64 (-1)/\J [] wr) (fun _ _=>0)
 case atStart=>exact⟨rfl,G⟩
 case round=>
  obtain⟨rfl,L⟩:=hrel
  gi_wp2
  go_end0
  exact⟨⟨_,rfl⟩,L⟩
def EC (A:Nat) (W:World) (e:Value) (d:List Bool):Prop:=
 (∃a cap,e=.slice a 0 cap/\d=[])\/∃b off cap,e=.slice (some ⟨b,off,none⟩) d.length cap/\b<A/\∀j,j<d.length->W.cell? ⟨b,off+j,none⟩=some (.int .i64 (bv (d[j]?.getD false)))
theorem EC.below {d:Nat} {A B:World} (h:Below d A B) {D:Value} {F:List Bool}:EC d A D F->EC d B D F
 |.inl e=>.inl e
 |.inr ⟨b,off,cap,e,G,I⟩=>.inr ⟨b,off,cap,e,G,fun j J=>(h.cell (p:=⟨b,off+j,none⟩) G).trans (I j J)⟩
theorem aOx (F:Fence) (n:Nat) (G:F.fn 257) (I:F.round=none) (U:1<=n) (A D:Nat) (L:Value) (d:List Bool) (V:d.length<=1000000) (w:World) (Y:A<w.heap.size) (Z:D<=w.heap.size)
  (hc:w.cell? ⟨A,0,none⟩=some L) (hI:EC D w L d):
  SeqStopsK F n pG 257 #[.pointer (some ⟨A,0,none⟩)] JV (KpB D A) (fun ys=>ys=sP (bk d) d.length)
   (fun a0=>∃k,k<=d.length/\a0=sP (bk d) k) d.length w:=fun l J Jx W M _ _ hY O=>by
 have R:=(M.cell (p:=⟨A,0,none⟩) Y).trans hc;rcases hI.below (M.mono Z) with⟨a,cap,rfl,rfl⟩|⟨b,off,cap,rfl,hb,a1⟩
 ·exact(aOw F n G I l A cap a J W R O).mono fun e W' ⟨he,hj⟩=>⟨he,.inl ⟨_,rfl,hj⟩⟩
 ·exact aOv F n G I U l A D b off cap d V hb J Jx hY W R a1 O
theorem aOy (F:Fence) (n:Nat) (A:F.fn 256) (D:F.round=none) (a:Option Addr) (d cap:Nat) (w:World):
  iV F n pG 256 #[.slice a d cap] w fun e w'=>e=.returned (.func (.func 257) #[] #[.pointer (some ⟨w.heap.size,0,none⟩)])/\w'=w.alloc (.cells #[.slice a d cap] 53):=by
 refine pX func256 rfl A ?_ D;simp only[ntmps256,dB,aU,aV,cV,dC,jG,jH,jI,jJ,eL,fF]
 gi_wp2
 go_ret;exact⟨rfl,rfl⟩
def hor (l:List (Nat×Bool)):Nat:=l.foldl (fun n x=>2*n+(if x.2 then 2 else 1)) 0
theorem aAk (l:List (Nat×Bool)) (x:Nat×Bool):hor (l++[x])=2*hor l+(if x.2 then 2 else 1):=by simp[hor]
theorem aAl (d:List Bool):∀k,k<=d.length->hor (sP (bk d) k)=num ((d.drop (d.length-k)).map bv):=by
 intro k
 induction k with
 |zero=>intro _;simp[sP,hor,num]
 |succ k A=>
  intro F;have D:d.length-(k+1)<d.length:=by omega
  rw[QD,aAk,A (by omega),pF D,List.map_cons,num,show d.length-(k+1)+1=d.length-k by omega];have e:(bk d k).2=d[d.length-(k+1)]:=by
   unfold bk
   grind
  rw[e]
  cases d[d.length-(k+1)]
  ·simp[bv];omega
  ·simp[bv];omega
theorem aOz:∀(l:List Int) (k:Nat),num (l.drop k)<=num l:=by
 intro l
 induction l with
 |nil=>intro k;simp
 |cons d l e=>
  intro k
  cases k with
  |zero=>simp
  |succ k=>rw[List.drop_succ_cons,num];have:=e k;omega
theorem aO0 (d:List Bool):iR (fun x=> !(x==0)&& !(x==1)) (d.map bv)= -1:=by grind [sK,iR,bv]
theorem aO1 (n:Nat) (hn:3<=n) (a:Option Addr) (cap:Nat) (d:List Bool) (b2:d.length<=1000000) (w:World) (G:RdI w (.slice a d.length cap) (d.map bv)) (hI:EC w.heap.size w (.slice a d.length cap) d):
  iV cZ n pG 247 #[.slice a d.length cap] w fun e W'=>e=.returned (.tuple #[.int .i64 (qT (d.map bv)),.int .i64 (oB (d.map bv))])/\Below w.heap.size w W':=by
 have h1:1<=n:=by omega
 have a2:cZ.round=none:=rfl;have a8:∀W,Below w.heap.size w W->Calls pG 230 #[.slice a d.length cap,.func (.func 255) #[] #[]] W fun e w'=>e=.returned (.bool false)/\w'=W:=fun W hW=>
  (zC 255 #[] (fun x=> !(x==0)&& !(x==1)) (.slice a d.length cap) (d.map bv) W (G.below hW) (enters_of func255 (by kernel_rfl) rfl) (fun W _ x _=>aN5 x W)).mono fun e w' ⟨h1,h2⟩=>by
  rw[aO0] at h1;exact⟨h1,h2⟩
 refine callsIn_of_wp_marks func247 rfl trivial ?_ a2;simp only[ntmps247,dB,aU,aV,cV,dC,jG,jH,jI,jJ,eL,fF]
 gi_wp2_with fail
 have a9:Below w.heap.size w ((w.alloc (.cells #[.int .i64 0] 3)).alloc (.cells #[.int .i64 0] 27)):=((aH _ w).alloc (aD _) _).alloc (by simp) _;refine⟨trivial,(callsIn_wide.2 (a8 _ a9)).mono ?_⟩;rintro e w' ⟨rfl,rfl⟩
 gi_wp2_with fail
 refine⟨trivial,(aOy cZ (n-1) trivial a2 a d.length cap _).mono ?_⟩;rintro e w' ⟨rfl,rfl⟩;have bR:=Boxed.new w 3 (.int .i64 0);have bE:=Boxed.new (w.alloc (.cells #[.int .i64 0] 3)) 27 (.int .i64 0);have bN:=Boxed.new ((w.alloc (.cells #[.int .i64 0] 3)).alloc (.cells #[.int .i64 0] 27)) 53 (.slice a d.length cap);rw[fP] at bE;rw[fP,fP] at bN;have b0:=a9.alloc (o:=.cells #[.slice a d.length cap] 53) (by simp;omega)
 gi_wp2_with fail
 refine wpIn_rangeFunc_ownG a2 h1 (gf:=257) (lb:=#[.pointer (some ⟨w.heap.size+1+1,0,none⟩)]) rfl trivial (enters_of func257 (by kernel_rfl) rfl)
  (aOx cZ (n-1) trivial a2 (by omega) (w.heap.size+1+1) w.heap.size _ d b2 _ (by simp) (by simp;omega) bN.cell (hI.below b0)) JW (QE (by simp;omega) (by simp)) (aH _ _) (fun _=>rfl)
  (fun I W=>(hor I<=1099511627776/\(W.cell? ⟨w.heap.size,0,none⟩=some (.int .i64 (hor I:Int))/\W.frozen? ⟨w.heap.size,0,none⟩=false)/\(W.cell? ⟨w.heap.size+1,0,none⟩=some (.int .i64 0)/\W.frozen? ⟨w.heap.size+1,0,none⟩=false))/\Below w.heap.size w W)
  (fun c I W=>(c=.ret/\1099511627776<hor I/\W.cell? ⟨w.heap.size,0,none⟩=some (.int .i64 0)/\W.cell? ⟨w.heap.size+1,0,none⟩=some (.int .i64 4))/\Below w.heap.size w W)
  (OwnFrom.and (Own.from (fun s A B row F U G=>⟨F.1,⟨yQ F.2.1.1 U G,(frozen_kept F.2.1.1 U G).trans F.2.1.2⟩,yQ F.2.2.1 U G,(frozen_kept F.2.2.1 U G).trans F.2.2.2⟩) _) (ownFrom_below (aD _) (by simp;omega)))
  (fun c=>OwnFrom.and (Own.from (fun s A B row F U G=>⟨F.1,F.2.1,yQ F.2.2.1 U G,yQ F.2.2.2 U G⟩) _) (ownFrom_below (aD _) (by simp;omega)))
  ⟨⟨by simp[hor],⟨((bR.alloc _).alloc _).cell,((bR.alloc _).alloc _).frozen⟩,(bE.alloc _).cell,(bE.alloc _).frozen⟩,b0⟩
  (fun x=>{tmps:=#[.slice a d.length cap,undef,.pointer (some ⟨w.heap.size,0,none⟩),.pointer (some ⟨w.heap.size+1,0,none⟩),undef,.int .i64 (bv x.2),.slice a d.length cap,.bool false,.slice a d.length cap,.func (.func 257) #[] #[.pointer (some ⟨w.heap.size+1+1,0,none⟩)],.int .i64 (x.1:Int),.int .i64 (bv x.2),undef,undef,undef,undef,undef,undef,undef,undef],defers:=[]}) ?assign ?body ?done ?stop
 case assign=>
  intro l x W K M;unfold JV
  gi_wp2
  exact M
 case body=>
  rintro l I ⟨i,b⟩ W ⟨⟨Z,⟨J,hf⟩,O,a4⟩,R⟩ _;obtain⟨h,hh⟩:=ex1 (hor I);have F:=aAk I (i,b);rw[<-hh] at Z J F;have Y:=hid F;have b1:w.heap.size+1+1≠w.heap.size:=by omega
  clear hh F a8 G;have a0:(⟨w.heap.size+1,0,none⟩:Addr)≠⟨w.heap.size,0,none⟩:=fun e=>by have:=congrArg Addr.block e;simp at this
  have L:(⟨w.heap.size,0,none⟩:Addr)≠⟨w.heap.size+1,0,none⟩:=fun e=>a0 e.symm
  cases b
  ·have a5:bv false=0:=rfl;dsimp only
   rw[a5]
   by_cases b3:1099511627776<2*h+1
   ·have t1:decide ((1099511627776:Int)<2*(h:Int)+1)=true:=aG (by omega);have t2:(1099511627776:Int)<2*(h:Int)+1:=by omega
    gi_wp2
    refine⟨(((kJ W _ _).trans (kJ _ _ _)).trans (kJ _ _ _)).from _,⟨rfl,by rw[Y.out,aA (by decide)];omega,?_,?_⟩,
     ((R.setCell (p:=⟨w.heap.size,0,none⟩) (aD _) _).setCell (p:=⟨w.heap.size,0,none⟩) (aD _) _).setCell (p:=⟨w.heap.size+1,0,none⟩) (tJ _) _⟩
    ·rw[lI _ _ _ _ a0];exact rX _ _ _ (rX _ _ _ J)
    ·refine rX (u:=.int .i64 0) _ _ _ ?_;rw[lI _ _ _ _ L,lI _ _ _ _ L];exact O
   ·have t1:decide ((1099511627776:Int)<2*(h:Int)+1)=false:=aE (by omega);have t2:2*(h:Int)+1<=(1099511627776:Int):=by omega
    gi_wp2
    refine⟨(kJ W _ _).from _,⟨(aH w.heap.size W).setCell (p:=⟨w.heap.size,0,none⟩) (aD _) _,kF _ _ _ _ b1⟩,⟨by rw[Y.out,aA (by decide)];omega,⟨?_,?_⟩,?_,?_⟩,R.setCell (p:=⟨w.heap.size,0,none⟩) (aD _) _⟩
    ·have e:(hor (I++[(i,false)]):Int)=2*(h:Int)+1:=by rw[Y.out,aA (by decide)];omega
     rw[e];exact rX _ _ _ J
    ·rw[IG];exact hf
    ·rw[lI _ _ _ _ L];exact O
    ·rw[IG];exact a4
  ·have a5:bv true=1:=rfl;dsimp only
   rw[a5]
   by_cases b3:1099511627776<2*h+2
   ·have t1:decide ((1099511627776:Int)<2*(h:Int)+1+1)=true:=aG (by omega);have t2:(1099511627776:Int)<2*(h:Int)+1+1:=by omega
    gi_wp2
    refine⟨(((kJ W _ _).trans (kJ _ _ _)).trans (kJ _ _ _)).from _,⟨rfl,by rw[Y.out,aB trivial];omega,?_,?_⟩,
     ((R.setCell (p:=⟨w.heap.size,0,none⟩) (aD _) _).setCell (p:=⟨w.heap.size,0,none⟩) (aD _) _).setCell (p:=⟨w.heap.size+1,0,none⟩) (tJ _) _⟩
    ·rw[lI _ _ _ _ a0];exact rX _ _ _ (rX _ _ _ J)
    ·refine rX (u:=.int .i64 0) _ _ _ ?_;rw[lI _ _ _ _ L,lI _ _ _ _ L];exact O
   ·have t1:decide ((1099511627776:Int)<2*(h:Int)+1+1)=false:=aE (by omega);have t2:2*(h:Int)+1+1<=(1099511627776:Int):=by omega
    gi_wp2
    refine⟨(kJ W _ _).from _,⟨(aH w.heap.size W).setCell (p:=⟨w.heap.size,0,none⟩) (aD _) _,kF _ _ _ _ b1⟩,⟨by rw[Y.out,aB trivial];omega,⟨?_,?_⟩,?_,?_⟩,R.setCell (p:=⟨w.heap.size,0,none⟩) (aD _) _⟩
    ·have e:(hor (I++[(i,true)]):Int)=2*(h:Int)+1+1:=by rw[Y.out,aB trivial];omega
     rw[e];exact rX _ _ _ J
    ·rw[IG];exact hf
    ·rw[lI _ _ _ _ L];exact O
    ·rw[IG];exact a4
 case done=>
  rintro D ys W hD rfl ⟨⟨Z,⟨J,hf⟩,O,a4⟩,R⟩ M;rw[aAl d _ (aD _),Nat.sub_self,pI] at Z J;have hv:qT (d.map bv)=(num (d.map bv):Int):=by unfold qT;rw[aB Z]
  have he:oB (d.map bv)=0:=by unfold oB;rw[aB Z]
  have a1:=hid (tK hv he);clear hv he
  gi_wp2
  have L:(⟨w.heap.size,0,none⟩:Addr)≠⟨w.heap.size+1,0,none⟩:=fun e=>by have:=congrArg Addr.block e;simp at this
  have a0:(⟨w.heap.size+1,0,none⟩:Addr)≠⟨w.heap.size,0,none⟩:=fun e=>L e.symm
  obtain⟨V,hV⟩:=ex1 (num (d.map bv));have a3:=((kJ W ⟨w.heap.size,0,none⟩ (.int .i64 (num (d.map bv):Int))).trans (kJ _ ⟨w.heap.size+1,0,none⟩ (.int .i64 0))).same D _ M rfl;refine⟨by simp,.inl ⟨_,_,rfl,sE a3,?_⟩⟩;have b4:((W.setCell ⟨w.heap.size,0,none⟩ (.int .i64 (num (d.map bv):Int))).setCell ⟨w.heap.size+1,0,none⟩ (.int .i64 0)).cell? ⟨w.heap.size,0,none⟩=some (.int .i64 (num (d.map bv):Int)):=by
   rw[lI _ _ _ _ a0];exact rX _ _ _ J
  have b5:((W.setCell ⟨w.heap.size,0,none⟩ (.int .i64 (num (d.map bv):Int))).setCell ⟨w.heap.size+1,0,none⟩ (.int .i64 0)).cell? ⟨w.heap.size+1,0,none⟩=some (.int .i64 0):=by
   refine rX (u:=.int .i64 0) _ _ _ ?_;rw[lI _ _ _ _ L];exact O
  have a6:=yQ b4 (kV _ D (.deferred none)) (fun r e=>by cases e;exact⟨_,a3,rfl⟩);have a7:=yQ b5 (kV _ D (.deferred none)) (fun r e=>by cases e;exact⟨_,a3,rfl⟩);refine⟨.tuple #[.int .i64 (num (d.map bv):Int),.int .i64 0],?_,by rw[a1.out.1,a1.out.2],((R.setCell (p:=⟨w.heap.size,0,none⟩) (aD _) _).setCell (p:=⟨w.heap.size+1,0,none⟩) (tJ _) _).trans (pH (w:=w) (aD _) _ D _ _ (by simp at hD;omega) a3 rfl rfl)⟩;simp[results,f247,go_sem,a6,a7]
 case stop=>
  rintro D c I W hD ⟨k,hk,rfl⟩ ⟨⟨rfl,b6,J,O⟩,R⟩ M;rw[aAl d _ hk] at b6;have b7:num ((d.drop (d.length-k)).map bv)<=num (d.map bv):=by rw[List.map_drop];exact aOz _ _
  have hv:qT (d.map bv)=0:=by unfold qT;rw[aA (by omega)]
  have he:oB (d.map bv)=4:=by unfold oB;rw[aA (by omega)]
  have a1:=hid (tK hv he);clear hv he
  gi_wp2
  refine⟨by simp,.inl ⟨_,_,rfl,sE M,?_⟩⟩;have a6:=yQ J (kV _ D (.deferred none)) (fun r e=>by cases e;exact⟨_,M,rfl⟩);have a7:=yQ O (kV _ D (.deferred none)) (fun r e=>by cases e;exact⟨_,M,rfl⟩);refine⟨.tuple #[.int .i64 0,.int .i64 4],?_,by rw[a1.out.1,a1.out.2],R.trans (pH (w:=w) (aD _) W D _ _ (by simp at hD;omega) M rfl rfl)⟩;simp[results,f247,go_sem,a6,a7]
theorem aO2 (v:Value) (d:List Int) (w:World) (F:RdI w v d) (G:d.length<=1000000) (J:∀x∈d,x=0\/x=1):
  Calls pG 247 #[v] w fun e w'=>e=.returned (.tuple #[.int .i64 (qT d),.int .i64 (oB d)])/\Below w.heap.size w w':=by
 obtain⟨A,rfl⟩:∃A:List Bool,d=A.map bv:=by
  refine⟨d.map (fun x=>decide (x=1)),?_⟩;rw[List.map_map];rw[List.map_congr_left (g:=id) (fun x L=>by rcases J x L with rfl|rfl<;>rfl),List.map_id]
 obtain⟨a,cap,rfl,M,U,I⟩:=F.open;rw[aS] at F G I M ⊢;refine callsIn_wide.1 (aO1 3 (aD _) a cap A G w F ?_);rcases Nat.eq_zero_or_pos A.length with D|D
 ·exact .inl ⟨a,cap,by rw[D],wY D⟩
 ·obtain⟨b,off,rfl,O,R⟩:=I D;exact .inr ⟨b,off,cap,rfl,O,fun j V=>R j _ (by grind)⟩
end
section
open Go.RowKit
theorem aAm (l:List Int):dT l=aX (num (l.take (gR 1 l))) 0++dT (l.drop (gR 1 l)):=by
 have d:=PK (l.take (gR 1 l)) 0 1 (l.drop (gR 1 l)) (fun x e=>by have:=DW 1 l x e;omega);rw[List.take_append_drop] at d
 grind [dT,zx,cF,gR,aN,BL,pF,JM,sB,PL,num]
theorem aAn {x:Int} {l:List Int} (h:1<x):dT (x::l)=(x-1)::dT l:=by grind [dT,JM]
def sQ (m:List Int) (most:Int):List Int:=if((dT m).length:Int)<=most then dT m else[]
def rM (m:List Int) (most:Int):Int:=if((dT m).length:Int)<=most then 0 else 4
theorem vW {m:List Int} {most:Int} (h:¬((dT m).length:Int)<=most):sQ m most=[]/\rM m most=4:=by grind [sQ,rM,dT]
theorem BN {m:List Int} {most:Int} (h:((dT m).length:Int)<=most):sQ m most=dT m/\rM m most=0:=by grind [sQ,rM,dT]
theorem aAo {w:World} {b off cap:Nat} {l:List Int} (e:b<w.heap.size) (A:∀j x,l[j]? =some x->w.cell? ⟨b,off+j,none⟩=some (.int .i64 x)) (i n:Nat) (D:i+n<=l.length) (F:l.length<=cap) (G:cap<=maxLen):
  RdI w (.slice (some ⟨b,off+i,none⟩) n (cap-i)) ((l.drop i).take n):=by
 have d:((l.drop i).take n).length=n:=by grind
 refine⟨some ⟨b,off+i,none⟩,cap-i,by rw[d],by rw[d];omega,by omega,.inr ⟨b,off+i,rfl,e,fun j I=>?_⟩⟩
 grind
theorem aO4 (w:World) (n:Nat):tQ (w.alloc (.cells (gW (.int .i64 0) n) 3)) (.slice (some ⟨w.heap.size,0,none⟩) n n) (aX n 0):=by
 refine .inr ⟨w.heap.size,0,n,by rw[AT],by simp,fun j x A=>?_⟩;obtain⟨d,e⟩:=eF.1 A;rw[AT] at d;rw[List.getElem_replicate] at e;subst e;rw[Nat.zero_add];exact(Arr.made w 3 (.int .i64 0) n).cell (by simp[d])
theorem aO5 {l:List Int} (e:∀x∈l,0<=x):∀x∈l.take (gR 1 l),x=0\/x=1:=fun x d=>by
 have A:=DW 1 l x d
 grind
theorem aO6 (v:Value) (m:List Int) (most:Int) (w:World) (hr:RdI w v m) (e6:m.length<=1000000) (hv:∀x∈m,0<=x/\x<=1000000) (e7: -9223372036854775808<=most) (e8:most<=1000000) (d3:0<m.length):
  Calls pG 232 #[v,.int .i64 most] w fun e w'=>∃v',e=.returned (.tuple #[v',.int .i64 (rM m most)])/\OwI w' w.heap.size v' (sQ m most)/\Below w.heap.size w w':=by
 have hb:Calls pG 244 #[v] w fun e w'=>e=.returned (.bool false)/\w'=w:=(PT v m w hr).mono fun e w' ⟨h1,U⟩=>by
  rw[sK (fun x A=>aE (by have:=hv x A;omega))] at h1;exact⟨h1,U⟩
 have HB:=hid hb;obtain⟨a,ca,rfl,d4,b6,hA⟩:=hr.open;obtain⟨D,o0,rfl,V,b7⟩:=hA d3;have HV:=hid hv;have HA:=hid b7;have d5:=hid b6;unfold maxLen at b6;obtain⟨M,e9,f0,f1,f2,f3⟩:∃M:Nat,(if most<0 then 0 else most)=(M:Int)/\max most 0=(M:Int)/\M<=1000000/\most<=(M:Int)/\(if 0<most then most else 0)=(M:Int):=⟨most.toNat,by split<;>omega,by omega,by omega,by omega,by split<;>omega⟩;clear hr hA hv b7 hb;go_enter func232,ntmps232;go_wp2_with fail;refine HB.out.mono ?_;rintro e G ⟨rfl,rfl⟩;clear HB;go_wp2_with fail
 go_loopg [0,8,9,10] m.length (fun gh s0 _s8 _s9 _s10 wq=>∃(rest d:List Int) (off cap:Nat),s0=.slice (some ⟨D,off,none⟩) rest.length cap/\rest.length<=cap/\cap<=maxLen/\rest.length<=m.length/\gh=rest.length/\uJ wq G.heap.size d/\Hid (d++dT rest=dT m)/\d.length<=1000001/\
  Below G.heap.size G wq/\Hid (∀j x,rest[j]? =some x->G.cell? ⟨D,off+j,none⟩=some (.int .i64 x))/\Hid (∀x∈rest,0<=x/\x<=1000000))
 case atStart=>exact⟨m,[],o0,ca,rfl,d4,d5.out,aD _,rfl,⟨.slice none 0 0,Arr.new G _ _,OwI.nil _ _⟩,hid rfl,by simp,(aH _ _).alloc (aD _) _,HA,HV⟩
 case round=>
 obtain⟨rest,d,off,cap,rfl,b8,a8,f4,hg,a9,HP,f5,L,a1,HR⟩:=hrel;have HG:=hid hg;clear hg
 by_cases f6:0<rest.length
 ·have b9:RdI wr (.slice (some ⟨D,off,none⟩) rest.length cap) rest:=
   ⟨_,_,rfl,b8,a8,.inr ⟨D,off,rfl,fB V L.size,fun j hj=>by
    rw[aS] at hj;rw[L.cell (p:=⟨D,off+j,none⟩) V,a1.out j _ (aN hj)];simp[jD,hj]⟩⟩
  have c0:=hid b9;have d6:=hid a8;have d7:=BK 1 rest;obtain⟨k,hk⟩:=ex1 (gR 1 rest);have a2:=aAm rest;have b1:=aO5 (l:=rest) (fun x A=>(HR.out x A).1);rw[<-hk] at d7 a2 b1;have HK:=hid hk;obtain⟨N,hN⟩:=ex1 (num (rest.take k));rw[<-hN] at a2;have HN:=hid hN;have HZ:=hid a2;have d8:=hid b1;unfold maxLen at a8;have c2:=hid (show(dT m).length=d.length+N+(dT (rest.drop k)).length by
   rw[<-HP.out,aL,HZ.out,aL,AT];omega)
  clear b9 hk a2 b1 hN;go_wp2_with fail;refine(ZR _ rest 1 _ c0.out).mono ?_;rintro e w2 ⟨rfl,U⟩;rw[<-HK.out];have c3:=a9.below U;have a3:=aW L U;have d9:=hid (show RdI w2 (.slice (some ⟨D,off,none⟩) k cap) (rest.take k) by
   have:=aAo (w:=w2) (b:=D) (off:=off) (cap:=cap) (fB V a3.size) (fun j x A=>by rw[a3.cell (p:=⟨D,off+j,none⟩) V];exact a1.out j x A) 0 k (by omega) b8 d6.out
   simpa using this)
  clear a9 L c0 U;go_wp2_with fail;refine(aO2 _ (rest.take k) _ d9.out (by rw[List.length_take];omega) d8.out).mono ?_;rintro e w3 ⟨rfl,h3⟩;have a4:=c3.below h3;have a5:=aW a3 h3;clear c3 a3 h3;obtain⟨lv,Y,O⟩:=a4;obtain⟨la,lc,rfl,e2,b2,_⟩:=O.rd.open;have c1:=Y.cell (i:=0) rfl;have a4:uJ w3 G.heap.size d:=⟨_,Y,O⟩;unfold maxLen at b2
  by_cases b3:N<=1099511627776
  ·have nv:qT (rest.take k)=(N:Int):=by unfold qT;rw[<-HN.out,aB b3]
   have Z:oB (rest.take k)=0:=by unfold oB;rw[<-HN.out,aB b3]
   rw[nv,Z];clear nv Z
   by_cases a0:(M:Int)-(d.length:Int)<(N:Int)
   ·have t6:decide ((M:Int)-(d.length:Int)<(N:Int))=true:=aG a0;go_wp2_with fail
    go_ret2
    have J:¬((dT m).length:Int)<=most:=by have:=c2.out;omega
    obtain⟨F,I⟩:=vW J;rw[F,I];exact⟨_,rfl,OwI.nil _ _,a5⟩
   ·have t6:decide ((M:Int)-(d.length:Int)<(N:Int))=false:=aE a0;go_wp2_with (at_make;refine mkA jL rfl _ _ rfl N rfl rfl ?_ ?_;omega);refine(JU G.heap.size _ d (aX N 0) _ (a4.below ((aH _ _).alloc (aD _) _)) (aO4 _ _) (by rw[AT];omega)).mono ?_;rintro e w4 ⟨rfl,c4,h4⟩;have b4:=(bD a5 _).trans h4;have c5:(d++aX N (0:Int)).length=d.length+N:=by simp
    have a6:=hid c5;clear a4 Y O c1 h4 a5 c5 t6
    by_cases c6:k=rest.length
    ·have a7:=hid (show(d++aX N 0)++dT []=dT m by
      have:=HZ.out;rw[sB (by omega)] at this;rw[bU,<-this];exact HP.out)
     have F:decide (0<rest.length-k)=false:=aE (by omega);have e0:rest.length-k=0:=by omega
     by_cases e3:cap=k
     all_goals
      go_wp2_with fail;have hg:=HG.out
      go_roundg 0
      ·exact⟨[],_,_,_,rfl,aO _,by unfold maxLen;omega,aO _,rfl,c4,a7,by rw[a6.out];omega,b4,hid (fun j x A=>by simp at A),hid (fun x A=>by simp at A)⟩
      ·omega
    ·have c7:k<rest.length:=by omega
     obtain⟨x,A⟩:=eG c7;have f7:=HR.out x (List.mem_of_getElem? A);have e4:1<x:=BL 1 rest (by rw[<-HK.out];exact A);have c1:w4.cell? ⟨D,off+k,none⟩=some (.int .i64 x):=by
      rw[b4.cell (p:=⟨D,off+k,none⟩) V];exact a1.out k x A
     have a7:=hid (show((d++aX N 0)++[x-1])++dT (rest.drop (k+1))=dT m by
      have:=HZ.out;rw[pF c7,(eF.1 A).2,aAn e4] at this;rw[bU,bU,List.singleton_append,<-this];exact HP.out)
     have F:decide (0<rest.length-k)=true:=aG (by omega);have I:0<rest.length-k:=by omega
     have e3:¬cap=k:=by omega
     have hl:=hid (show rest.length-k-1=(rest.drop (k+1)).length by rw[bA];omega);have c8:Hid (∀x∈rest.drop (k+1),0<=x/\x<=1000000):=hid (fun y R=>HR.out y (List.mem_of_mem_drop R));have HE:=hid c6;clear A c6
     by_cases f8:cap-k=1
     all_goals
      go_wp2_with fail;refine(JU G.heap.size _ (d++aX N 0) [x-1] _ (c4.below ((aH _ _).alloc (aD _) _)) (aAe _ _ _) (by rw[a6.out,fQ];omega)).mono ?_;rintro e w5 ⟨rfl,c9,h5⟩;have d0:=(bD b4 _).trans h5;go_wp2_with fail;rw[hl.out];have hg:=HG.out
      go_roundg (rest.drop (k+1)).length
      case measure=>rw[bA];omega
     ·refine⟨rest.drop (k+1),_,off+k,0,rfl,by rw[bA];omega,by simp[maxLen],by rw[bA];omega,rfl,c9,a7,by rw[aL,a6.out,fQ];omega,d0,hid (fun j y R=>?_),c8⟩;rw[sB (by omega)] at R;simp at R
     ·refine⟨rest.drop (k+1),_,off+k+1,cap-k-1,rfl,by rw[bA];omega,by unfold maxLen;omega,by rw[bA];omega,rfl,c9,a7,by rw[aL,a6.out,fQ];omega,d0,hid (fun j y R=>?_),c8⟩;have:=RdI.dropS a1.out (k+1) j y R;rw[Nat.add_assoc off k 1];exact this
  ·have Z:oB (rest.take k)=4:=by unfold oB;rw[<-HN.out,aA b3]
   rw[Z];clear Z;go_wp2_with fail
   go_ret2
   have J:¬((dT m).length:Int)<=most:=by have:=c2.out;omega
   obtain⟨F,I⟩:=vW J;rw[F,I];exact⟨_,rfl,OwI.nil _ _,a5⟩
 ·have e5:rest=[]:=wY (by omega);subst e5;obtain⟨lv,Y,O⟩:=a9;obtain⟨la,lc,rfl,e2,b2,_⟩:=O.rd.open;have c1:=Y.cell (i:=0) rfl;unfold maxLen at b2;have b5:=hid (show d=dT m by have:=HP.out;rw[show dT []=[] from rfl,List.append_nil] at this;exact this)
  by_cases a0:most<(d.length:Int)
  ·have t6:decide (most<(d.length:Int))=true:=aG a0;go_wp2_with fail
   go_ret2
   have J:¬((dT m).length:Int)<=most:=by rw[<-b5.out];omega
   obtain⟨F,I⟩:=vW J;rw[F,I];exact⟨_,rfl,OwI.nil _ _,L⟩
  ·have t6:decide (most<(d.length:Int))=false:=aE a0;go_wp2_with fail
   go_ret2
   have J:((dT m).length:Int)<=most:=by rw[<-b5.out];omega
   obtain⟨F,I⟩:=BN J;rw[F,I,<-b5.out];exact⟨_,rfl,Ow.base O (tJ _),L⟩
def iY (n:Nat) (o:Nat->Int):List Int:=(eT n).map o
theorem qE (n:Nat) (o:Nat->Int):(iY n o).length=n:=by simp[iY]
theorem BP (n:Nat) (o:Nat->Int) (k:Nat) (h:k<n):(iY n o)[k]? =some (o k):=by simp[iY,h]
theorem aAp (l:List Int):iY l.length (fun k=>l.getD k 0)=l:=by
 apply List.ext_getElem?
 grind [BP,qE,iY]
theorem Dat.other {w:World} {g cap n:Nat} {f:Nat->Int} (h:Dat w g cap n f) (p:Addr) (d:p.block≠g) (v:Value):Dat (w.setCell p v) g cap n f:=by
 obtain⟨A,h,D⟩:=h;exact⟨A,by rw[Below.heap_setCell w p v g (fun e=>d e.symm)];exact h,D⟩
noncomputable def vr (c:Nat->Nat) (m:Nat) (o:Nat->Int):Nat->Int
 |0=>0
 |i+1=>vr c m o i+ @ite _ (eqm c m (o i).toNat (o (i+1)).toNat) (Classical.propDecidable _) 0 1
def cQ (s:ByteArray) (i:Nat):Nat:=(s.data.toList.getD (i%s.size) 0).toNat
theorem xI (s:ByteArray):Cyc (cQ s) s.size:=by simp[cQ,Cyc]
def rot (s:ByteArray) (k:Nat):List UInt8:=s.data.toList.drop k++s.data.toList.take k
theorem EE (s:ByteArray) (k:Nat) (h:k<=s.size):(rot s k).length=s.size:=by
 simp[rot];omega
theorem QH (s:ByteArray) (k i:Nat) (A:k<s.size) (D:i<s.size):(rot s k)[i]? =some (s.data.toList.getD ((k+i)%s.size) 0):=by
 have d:=mV s;unfold rot;rcases cF i (s.size-k) with h|h
 ·grind [List.getElem?_append_left,bA,jT,jD,aN,rot]
 ·rw[List.getElem?_append_right (by grind),bA,List.getElem?_take_of_lt (by omega),d];have e:(k+i)%s.size=i-(s.size-k):=by
   rw[Nat.mod_eq_sub_mod (by omega),jT (by omega)];omega
  grind
theorem QI (s:ByteArray) (k:Nat):s.extract k s.size++s.extract 0 k=mkS (rot s k):=by
 rw[iW,iW,sI];unfold rot;rw[pI,sD,List.take_of_length_le (by simp)]
theorem aPt (s:ByteArray) (k:Nat) (w:World) (A:s.size<=1000000) (D:k<=s.size):
  Calls pG 140 #[.string s,.int .i64 (k:Int)] w fun e w'=>e=.returned (.string (mkS (rot s k)))/\Below w.heap.size w w':=by
 have e:=QI s k;have d:=hid e;clear e;go_enter func140,ntmps140;go_wp2
 go_quiet (fail)
 go_wp2;go_ret;exact⟨yV d.out,kY (aH _ _) _⟩
def eM (s:ByteArray) (o:Nat->Int) (k:Nat):List UInt8:=(eT k).map (fun i=>s.data.toList.getD (((o i).toNat+(s.size-1))%s.size) 0)
theorem xJ (s:ByteArray) (o:Nat->Int) (k:Nat):(eM s o k).length=k:=by simp[eM]
theorem QJ (s:ByteArray) (o:Nat->Int) (k:Nat):eM s o (k+1)=eM s o k++[s.data.toList.getD (((o k).toNat+(s.size-1))%s.size) 0]:=by simp[eM,wU]
def gX (o:Nat->Int):Nat->Nat
 |0=>0
 |k+1=>if o k=0 then k else gX o k
theorem aAr (o:Nat->Int):∀k,gX o k<=k:=by
 intro k
 induction k with
 |zero=>exact aD _
 |succ k d=>
   unfold gX;by_cases h:o k=0
   ·grind
   ·grind
end
section
open Go.RowKit Go Go.Shelf
def bW (e:Option Nat) (W d:World):Prop:=W.heap.size<=d.heap.size/\∀k o,W.heap[k]? =some o->o.isCells=true->some k≠e->d.heap[k]? =some o
theorem bW.refl (d:Option Nat) (W:World):bW d W W:=by grind [bW]
theorem bW.trans {d:Option Nat} {A B C:World} (h:bW d A B) (k:bW d B C):bW d A C:=by grind [bW]
theorem bW.of_below {e:Option Nat} {A B:World} (h:Below A.heap.size A B):bW e A B:=⟨h.size,fun k _ d _ _=>(h.block k (fE.1 d).1).trans d⟩
theorem bW.some {A B:World} (h:bW none A B) (d:Option Nat):bW d A B:=by grind [bW]
theorem bW.putObj {d:Option Nat} (W:World) {l:Nat} {o:Obj} (A:Obj) (h:W.heap[l]? =aY o) (F:o.isCells=false):bW d W (W.putObj l A):=
 ⟨by simp,fun k q D G _=>by
  have:k≠l:=fun e=>by grind
  rw[qA this];exact D⟩
theorem bW.grownBy {A B:World} {d:Option Nat} (h:A.grownBy B d):bW d A B:=⟨h.size,fun k _ e _ D=>(h.block k (fE.1 e).1 D).trans e⟩
theorem bW.arr {d:Option Nat} {A B:World} (h:bW d A B) {b:Nat} {e:TypeId} {l:List Value} (D:Arr A b e l) (F:aY b≠d):Arr B b e l:=h.2 b _ D rfl F
theorem bW.cell {D:Option Nat} {A B:World} (h:bW D A B) {p:Addr} {v:Value} (d:A.cell? p=aY v) (F:aY p.block≠D):B.cell? p=aY v:=by
 unfold World.cell? at d ⊢
 cases e:A.heap[p.block]? with
 |none=>rw[e] at d;simp at d
 |some o=>
  have G:o.isCells=true:=by
   rw[e] at d
   cases o<;>simp_all [Obj.isCells]
  rw[h.2 _ _ e G F];rw[e] at d;exact d
theorem bW.ow {A B:World} {d:Option Nat} (h:bW d A B) {base e:Nat} {v:Value} {D:List Value} (F:Ow A base e v D) (I:∀k,v.ownBlock=aY k->aY k≠d):Ow B base e v D:=by
 refine⟨F.1,?_⟩;rcases F.2 with J|⟨g,cap,L,G,M,O,rest⟩
 ·exact .inl J
 ·exact .inr ⟨g,cap,L,G,M,h.2 g _ O rfl (I g (by rw[G];rfl)),rest⟩
theorem TW (W:World) (g i:Nat) (v:Value):W.grownBy (W.setCell ⟨g,i,none⟩ v) (some g):=
 ⟨rfl,rfl,rfl,by simp,fun k _ d=>kF W ⟨g,i,none⟩ k v (fun e=>d (by rw[e]))⟩
def aG6 {α:Type} (n:Nat) (P:Program) (g:Nat) (lb:Array Value) (encs:α->Array Value) (Kp:World->World->Prop) (Pre:Nat->List α->α->World->Prop) (I:List α->Prop) (w:World):Prop:=
 ∀(l:Nat) (J F:List α->World->Prop) (W:World),Below w.heap.size w W->(∀s A B,J s A->Below W.heap.size A B->J s B)->(∀s A B,F s A->Below W.heap.size A B->F s B)->
  (∀d x W1,J d W1->W.heap.size<=W1.heap.size->Pre W.heap.size d x W1->
   YieldAt cZ (n-1) P l (encs x) W1 fun e D=>(e=.returned (.bool true)/\J (d++[x]) D/\Kp W1 D)\/(e=.returned (.bool false)/\F (d++[x]) D))->
  J [] W->
  iV cZ n P g (#[.func (.yield l) #[] #[]]++lb) W fun e D=>(∃v,e=.returned v)/\((∃G,I G/\J G D)\/∃d,F d D)
theorem aG7 {α:Type} {n:Nat} {P:Program} {g:Operand} {ps:Array Tmp} {assign body:Code} {Q:Exit->Act->World->Prop} {a:Act} {w:World}
  (h1:1<=n) {gf:Nat} {lb:Array Value} (hg:a.eval g=.func (.func gf) #[] lb) (eg:∀args w,(callFunc gf args).run P w=.ok (.enter gf args) w)
  {encs:α->Array Value} {Kp:World->World->Prop} {Pre:Nat->List α->α->World->Prop} {b3:List α->Prop} {w0:World} (b8:aG6 (n-1) P gf lb encs Kp Pre b3 w0) (b4:Below w0.heap.size w0 w) (b9:∀x,(encs x).size=ps.size)
  (b0:∀{A B C:World},Kp A B->Kp B C->Kp A C) (b1:∀A B,bW none A B->Kp A B)
  (b5:∀B d x A A',Pre B d x A->bW none A A'->Pre B d x A')
  (I:List α->World->Prop) (Ix:Code->List α->World->Prop) (hI:∀s A B,I s A->Below w.heap.size A B->I s B) (a6:∀c s A B,Ix c s A->Below w.heap.size A B->Ix c s B) (h0:I [] w)
  (Ax:α->Act->World->Prop) (c0:∀x O A A',Ax x O A->bW none A A'->Ax x O A')
  (c1:∀(l B:Nat) (d:List α) (x:α) (W:World) (K:Act->World->Prop),I d W->w.heap.size<=B->B<=W.heap.size->Pre B d x W->(∀O W',Below W.heap.size W W'->Ax x O W'->K O W')->
   assign.wpIn (cZ.inRound l) (n-1-1) P (Exit.then K (fun _ _ _=>False)) {tmps:=(ps.zip (encs x)).foldl (fun t (p,v)=>t.setIfInBounds p v) a.tmps,defers:=[]} W)
  (hbody:∀(l B:Nat) (d:List α) (x:α) (O:Act) (W:World),I d W->w.heap.size<=B->B<=W.heap.size->Pre B d x W->Ax x O W->body.wpIn (cZ.inRound l) (n-1-1) P (ownPostG w.heap.size Kp I Ix (d++[x]) W) O W)
  (hdone:∀(D:Nat) (xs:List α) (W:World),w.heap.size<=D->b3 xs->I xs W->W.heap[D]? =some (.deferred (some []))->Q .normal {a with defers:={target:=.collected D,args:=#[]}::a.defers} W)
  (hstop:∀(D:Nat) (c:Code) (d:List α) (W:World),w.heap.size<=D->Ix c d W->W.heap[D]? =some (.deferred (some []))->c.wpIn cZ n P Q {a with defers:={target:=.collected D,args:=#[]}::a.defers} W):
  (Code.rangeFunc g ps assign body).wpIn cZ n P Q a w:=by
 refine wpIn_rangeFunc ?_;intro fn c2;rw[show cZ.round=none from rfl];obtain⟨F,R⟩:∃F:LoopState->Option Code->Loop,F=fun st pe=>{state:=st,pending:=pe,fn,tmps:=a.tmps,params:=ps,assign,body,defers:=w.heap.size}:=⟨_,rfl⟩
 obtain⟨W1,a7⟩:∃W1,(w.alloc (.deferred (some []))).alloc (.loop (F .ready none))=W1:=⟨_,rfl⟩;have c3:W1.heap[w.heap.size+1]? =some (.loop (F .ready none)):=by
  rw[<-a7];have:=AZ (w.alloc (.deferred (some []))) (.loop (F .ready none));rwa[fP] at this
 have c4:W1.heap[w.heap.size]? =some (.deferred (some [])):=by
  rw[<-a7];exact(Below.heap_alloc _ _ _ (by simp)).trans (AZ w _)
 have b6:Below w.heap.size w W1:=by rw[<-a7];exact((aH _ w).alloc (aD _) _).alloc (by simp) _
 have c5:I [] W1:=hI _ _ _ h0 b6;have d7:W1.heap.size=w.heap.size+2:=by rw[<-a7];simp
 have c6:Below w0.heap.size w0 W1:=b4.trans (b6.mono b4.size);have Z:∀(A:World) (l:Nat) (o o':Obj),w.heap.size<=l->A.heap[l]? =some o->o.isCells=false->o.isWalk=false->Below w.heap.size A (A.putObj l o'):=fun A l o o' G h k1 k2=>pH (w:=w) (aD _) A l o o' G h k1 k2
 refine⟨w.heap.size+1,[{target:=.collected w.heap.size,args:=#[]}],W1,{target:=.fn (.func gf) lb,args:=#[.func (.yield (w.heap.size+1)) #[] #[]]},W1,gf,
  #[.func (.yield (w.heap.size+1)) #[] #[]]++lb,W1,?_,?_,?_,?_,fun _=>h1,?_⟩
 ·rw[<-a7,R];exact run_enterLoop_outer _ _ _ _ _
 ·simp only[resolve,hg];simp[go_sem]
 ·exact fun _ _=>trivial
 ·simp[invoke,go_sem,eg]
 ·have a8:∀{A B:World} {k:Nat} {o:Obj},Below W1.heap.size A B->k<W1.heap.size->A.heap[k]? =some o->B.heap[k]? =some o:=fun h V ho=>(h.block _ V).trans ho
  refine(b8 (w.heap.size+1)
   (fun d W=>I d W/\W.heap[w.heap.size+1]? =some (.loop (F .ready none))/\W.heap[w.heap.size]? =some (.deferred (some [])))
   (fun d W=>∃c,Ix c d W/\W.heap[w.heap.size+1]? =some (.loop (F .done (some c)))/\W.heap[w.heap.size]? =some (.deferred (some [])))
   W1 c6
   (fun s A B hs a0=>⟨hI s A B hs.1 (a0.mono (by omega)),a8 a0 (by omega) hs.2.1,a8 a0 (by omega) hs.2.2⟩)
   (fun s A B hs a0=>by
    obtain⟨c,hc,G,V⟩:=hs;exact⟨c,a6 c s A B hc (a0.mono (by omega)),a8 a0 (by omega) G,a8 a0 (by omega) V⟩)
   ?_ ⟨c5,c3,c4⟩).mono ?_
  ·rintro d x W ⟨hi,G,V⟩ c7 b7;have c8:w.heap.size+1<W.heap.size:=(fE.1 G).1;have hy:=run_yield (P:=P) (args:=encs x) G (by rw[R];exact b9 x);rw[R] at hy;refine⟨fn,_,assign,body,hy,roundIn_of_wpIn c2 (c1 _ _ d x W _ hi (by omega) c7 b7 ?_)⟩;clear hy;intro O Y a5 c9;have a9:Y.heap[w.heap.size+1]? =some (.loop (F .ready none)):=(a5.block _ c8).trans G;have d0:Y.heap[w.heap.size]? =some (.deferred (some [])):=(a5.block _ (by omega)).trans V;have d1:w.heap.size+1<Y.heap.size:=(fE.1 a9).1;have d2:I d Y:=hI _ _ _ hi (a5.mono (by omega))
   have d3:=b5 _ _ _ _ _ b7 (bW.of_below a5);refine⟨_,run_beginRound a9 (by rw[R]),?_⟩;have d4:(Y.putObj (w.heap.size+1) (.loop {F .ready none with state:=.busy})).heap[w.heap.size+1]? =some (.loop {F .ready none with state:=.busy}):=BA d1;have d5:(Y.putObj (w.heap.size+1) (.loop {F .ready none with state:=.busy})).heap[w.heap.size]? =some (.deferred (some [])):=(qA (by omega)).trans d0;have b2:∀bo,bW bo Y (Y.putObj (w.heap.size+1) (.loop {F .ready none with state:=.busy})):=fun bo=>bW.putObj _ _ a9 rfl
   refine wpIn_mono (hbody _ _ d x O _ (hI _ _ _ d2 (Z _ _ _ _ (by omega) a9 rfl rfl)) (by omega) (by have:=a5.size;simp;omega) (b5 _ _ _ _ _ d3 (b2 none)) (c0 _ _ _ _ c9 (b2 none))) ?_;have fin:∀(L:Option Code) (M:World),KeepsFrom w.heap.size (Y.putObj (w.heap.size+1) (.loop {F .ready none with state:=.busy})) M->
     (Instr.endRound (w.heap.size+1) L).run P M=.ok (.bool L.isNone) (M.putObj (w.heap.size+1) (.loop (F (if L.isNone then .ready else .done) L)))/\
     M.heap[w.heap.size+1]? =some (.loop {F .ready none with state:=.busy})/\
     (M.putObj (w.heap.size+1) (.loop (F (if L.isNone then .ready else .done) L))).heap[w.heap.size+1]? =some (.loop (F (if L.isNone then .ready else .done) L))/\
     (M.putObj (w.heap.size+1) (.loop (F (if L.isNone then .ready else .done) L))).heap[w.heap.size]? =some (.deferred (some [])):=fun L M U=>by
    have J:=U.same _ _ (by omega) d4 rfl;have:=run_endRound (P:=P) L J;rw[R] at this ⊢;exact⟨this,by rw[R] at J;exact J,BA (fE.1 J).1,(qA (by omega)).trans (U.same _ _ (aD _) d5 rfl)⟩
   rintro e a3 M hp
   cases e with
   |normal=>
    obtain⟨U,d6,a1⟩:=hp;obtain⟨hr,J,a2,a4⟩:=fin none M U;exact⟨_,_,hr,.inl ⟨rfl,⟨hI _ _ _ a1 (Z _ _ _ _ (by omega) J rfl rfl),a2,a4⟩,b0 (b1 _ _ (bW.of_below a5)) (b0 (b1 _ _ (b2 none)) (b0 d6 (b1 _ _ (bW.putObj _ _ J rfl))))⟩⟩
   |ret=>
    obtain⟨U,a1⟩:=hp;obtain⟨hr,J,a2,a4⟩:=fin (some .ret) M U;exact⟨_,_,hr,.inr ⟨rfl,.ret,a6 _ _ _ _ a1 (Z _ _ _ _ (by omega) J rfl rfl),a2,a4⟩⟩
   |exit id=>
    obtain⟨U,a1⟩:=hp;obtain⟨hr,J,a2,a4⟩:=fin (some (.exit id)) M U;exact⟨_,_,hr,.inr ⟨rfl,.exit id,a6 _ _ _ _ a1 (Z _ _ _ _ (by omega) J rfl rfl),a2,a4⟩⟩
   |goto t=>
    obtain⟨U,a1⟩:=hp;obtain⟨hr,J,a2,a4⟩:=fin (some (.goto t)) M U;exact⟨_,_,hr,.inr ⟨rfl,.goto t,a6 _ _ _ _ a1 (Z _ _ _ _ (by omega) J rfl rfl),a2,a4⟩⟩
   |panic ch=>exact hp.elim
   |outgrown=>exact hp.elim
  ·rintro e W2 ⟨⟨v,rfl⟩,(⟨xs,hS,hi,G,V⟩|⟨d,c,hi,G,V⟩)⟩
   ·exact⟨none,_,by have:=run_endLoop (P:=P) G (by rw[R];simp);rw[R] at this;exact this,hdone _ xs _ (aD _) hS (hI _ _ _ hi (Z _ _ _ _ (by omega) G rfl rfl)) ((qA (by omega)).trans V)⟩
   ·exact⟨some c,_,by have:=run_endLoop (P:=P) G (by rw[R];simp);rw[R] at this;exact this,hstop _ c d _ (aD _) (a6 _ _ _ _ hi (Z _ _ _ _ (by omega) G rfl rfl)) ((qA (by omega)).trans V)⟩
end
end Go.Proofs.YtfckbfofgeilgaaGreatDoor
