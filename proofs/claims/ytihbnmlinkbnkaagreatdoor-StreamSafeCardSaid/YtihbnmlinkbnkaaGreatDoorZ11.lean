/-
  Texts put together (part 11): the walks and the plain laws on which the statement stands.
-/
import Derived.RangeFuncNested
import Derived.RangeFuncBound
import Derived.RangeFuncCalls
import Derived.RangeFuncLeaves
import Derived.RangeFuncBox
import Derived.Shelf.RegionOpen
import Derived.OwnWalkIn
import Derived.TacticsInMore
import Derived.LoopNIn
import Derived.LoopIn
import Derived.Test.YtihbnmlinkbnkaaGreatDoorZ7
import Derived.Test.YtihbnmlinkbnkaaGreatDoorZ8
import Derived.Test.YtihbnmlinkbnkaaGreatDoorZ9
set_option maxRecDepth 100000
set_option maxHeartbeats 12800000
set_option linter.unusedVariables false
set_option linter.unusedSimpArgs false
open Go.Proofs.Tryz
open Go.Proofs.Tryz renaming prog->pG
open And renaming intro->tK
open Array renaming replicate_succ->jG,replicate_zero->jH
open Go renaming CallsIn->iV,Operand->iF,Program->fO,belowK_b->pH,bodyPost_ret->fM,callsIn_of_wp->pX,cell_kept->yQ,grownBy_putObj'->kV,heap_setCell_other->kF,ownFrom_below->OD,run_append_own->IJ,run_append_owned_none->aLl,run_takeDeferred->sE,wpList_plain->yK
open Go.Addr renaming add->gP
open Go.Builtin renaming append_->sA
open Go.Fence renaming wide->cZ
open Go.IntKind renaming i64->aJ
open Go.IntWalk renaming i64_in->yM
open Go.KeepsOthers renaming setCell->kJ
open Go.Oper renaming wp->nC
open Go.OwnFrom renaming and->OC
open Go.Region renaming wanted->qL
open Go.Result renaming andThen_ok->AR
open Go.RowKit.Below renaming refl->aH
open Go.Sem renaming run_bind->vI,run_pure->AQ
open Go.Value renaming int->bQ
open Go.World renaming cell?_setCell_other->lI,cell?_setCell_same->rX,frozen?_setCell->IG,size_alloc->fP
open Go.World.ownsRow renaming alloc->WK,kept->yJ,lt->aK9
open List renaming append_assoc->bU,append_nil->dI,append_toArray->jJ,cons_append->fF,getElem?_eq_some_iff->eF,length_append->aL,length_cons->aU,length_map->aS,length_nil->aV,map_cons->kI,map_nil->vJ,map_toArray->AS,mem_of_getElem?->cN,nil_append->eL,push_toArray->jI,singleton_append->NZ,size_toArray->dB,take_length->jS
open Nat renaming eq_zero_or_pos->jE,le_refl->aD,le_succ->tJ,le_trans->aR,lt_of_lt_of_le->fB,reduceAdd->cV,reduceSub->dC,sub_self->yP,zero_le->aO
namespace Go.Proofs.YtihbnmlinkbnkaaGreatDoor
section
open Go.RowKit
def tQ (w:World) (v:Value) (m:List Int):Prop:=
 (v=.slice none 0 0/\m=[])\/∃b off cap,v=.slice (some ⟨b,off,none⟩) m.length cap/\b<w.heap.size/\∀j x,m[j]? =some x->w.cell? ⟨b,off+j,none⟩=some (.int .i64 x)
theorem tQ.below {w w':World} {v:Value} {m:List Int} (h:tQ w v m) (d:Below w.heap.size w w'):tQ w' v m:=by
 rcases h with h|⟨b,off,cap,rfl,A,F⟩
 ·exact .inl h
 ·exact .inr ⟨b,off,cap,rfl,fB A d.size,fun j x G=>by rw[d.cell (p:=⟨b,off+j,none⟩) A];exact F j x G⟩
theorem OwI.src {w:World} {B:Nat} {v:Value} {l:List Int} (h:OwI w B v l):tQ w v l:=by
 have d:=h.rd.open;obtain⟨a,cap,rfl,_,_,A⟩:=d;rcases h.2 with⟨e,F⟩|⟨g,G,H,e,_⟩
 ·grind [OwI,tQ]
 grind [OwI,tQ]
theorem aAe (w:World) (t:TypeId) (x:Int):tQ (w.alloc (.cells #[.int .i64 x] t)) (.slice (some ⟨w.heap.size,0,none⟩) 1 1) [x]:=
 .inr ⟨w.heap.size,0,1,rfl,by simp,fun j y d=>by grind [bX,tQ]⟩
theorem aAf {w:World} (G:TypeId) (A:Nat) (v:Value) (l:List Int) (J:OwI w A v l) (L:Value) (m:List Int) (U:tQ w L m) (V:(l.length+m.length)*8<=140737488355328) (M:A<=w.heap.size):
  ∃F w',(sA #[26,26] G #[v,L]).run pG w=.ok F w'/\OwI w' A F (l++m)/\Below A w w'/\w.grownBy w' v.ownBlock:=by
 obtain⟨i,hi,Z,h2,h3⟩:=jL.info;have h4:(bQ .i64 0).cells.size=1:=by rw[jL.cells];rfl
 have H:w.ownsRow A 3 1 v l.length (l.map (bQ .i64)):=by have:=J;unfold OwI Ow at this;rwa[aS] at this
 rcases U with⟨rfl,rfl⟩|⟨b,off,cap,rfl,_,hc⟩
 ·refine⟨v,w,aLl (P:=pG) (w:=w) A _ G 3 i 1 jL.under hi v l.length _ H,by rw[dI];exact J,aH _ _,⟨rfl,rfl,rfl,aD _,fun _ _ _=>rfl⟩⟩
 ·obtain⟨F,w',q1,q2,O,_⟩:=IJ (P:=pG) w A 26 G 3 i _ 1 8 jL.under hi Z h2 h3 h4 (by decide) v l.length _ H ⟨b,off,none⟩ m.length cap (m.map (bQ .i64)) (by simp) (fun j u d=>by
    rw[List.getElem?_map] at d
    cases I:m[j]? with
    |none=>rw[I] at d;simp at d
    |some y=>
     rw[I] at d;simp at d;subst d;have e:(⟨b,off,none⟩:Addr).add j=⟨b,off+j,none⟩:=by unfold gP;split<;>simp_all
     rw[e];exact hc j y I) (fun u d=>by obtain⟨y,_,rfl⟩:=List.mem_map.1 d;rfl) (by simp only[maxLen];omega) V M
  refine⟨F,w',q1,?_,rJ H O M,O⟩;unfold OwI Ow;rw[List.map_append,aL,aS,aS];exact q2
theorem JT {A:Array Oper} {rest:List Oper} {o:Oper} {a:Act} {Q:Exit->Act->World->Prop} {w:World} (F:o.guard=none) (s x:iF)
  (G:o.op=.call {callee:=.builtin .append,args:=#[s,x],argTypes:=#[26,26]}) (base:Nat) (v:Value) (l:List Int) (hs:a.eval s=v) (hown:OwI w base v l)
  (sv:Value) (m:List Int) (hx:a.eval x=sv) (hsrc:tQ w sv m) (hroom:(l.length+m.length)*8<=140737488355328) (hbase:base<=w.heap.size)
  (h:∀d w',OwI w' base d (l++m)->Below base w w'->w.grownBy w' v.ownBlock->wpList pG A Q rest (a.put o.dst d) w'):wpList pG A Q (o::rest) a w:=by
 refine yK F fun K H=>?_
 obtain⟨d,w',I,J,L,M⟩:=aAf o.type base v l hown sv m hsrc hroom hbase;unfold nC execOp;simp only[G,resolve,invoke,builtin,vI,AQ,AR,AS,kI,vJ,hs,hx,I];exact H _ _ (h d w' J L M)
theorem RdI.dropS {w:World} {b off:Nat} {l:List Int} (d:∀j x,l[j]? =some x->w.cell? ⟨b,off+j,none⟩=some (.int .i64 x)) (k:Nat):∀j x,(l.drop k)[j]? =some x->w.cell? ⟨b,off+k+j,none⟩=some (.int .i64 x):=by grind
theorem aAg (m:Nat) (h:0<m):∃b:Nat,b<=1/\dig m=(b:Int)::dig ((m-1)/2)/\((m:Int)-1).tmod 2=(b:Int)/\((m:Int)-1)%2=(b:Int)/\(1:Int)-(m:Int).tmod 2=(b:Int)/\(1:Int)-(m:Int)%2=(b:Int)/\
  ((m:Int)-1).tdiv 2=(((m-1)/2:Nat):Int)/\((m:Int)-1)/2=(((m-1)/2:Nat):Int):=by
 obtain⟨p,rfl⟩:∃p,m=p+1:=⟨m-1,by omega⟩;refine⟨p%2,by omega,?_,?_,by omega,?_,by omega,?_,by omega⟩
 ·grind [JJ,dig]
 ·grind
 ·grind
 simp
theorem aOm (n:Nat) (w:World) (hn:n<=1000000):
  Calls pG 199 #[.int .i64 (n:Int)] w fun e w'=>∃v,e=.returned v/\OwI w' w.heap.size v (dig n)/\Below w.heap.size w w':=by
 go_enter func199,ntmps199;go_wp2_with fail
 go_loopg [0,2] n (fun J L M wr=>∃(m:Nat) (l:List Int),m<=n/\J=m/\L=.int .i64 m/\OwI wr w.heap.size M l/\Hid (l++dig m=dig n)/\l.length+m<=n/\Below w.heap.size w wr)
 case atStart=>exact⟨n,[],aD _,rfl,rfl,OwI.nil _ _,hid rfl,by simp,aH _ _⟩
 case round=>
  obtain⟨m,l,hm,A,rfl,G,H,a0,d⟩:=hrel;have O:=hid A;clear A;rcases jE m with F|F
  ·subst F;go_wp2_with fail;go_ret;refine⟨_,rfl,?_,d⟩;have:=H.out;rw[uG,dI] at this;rw[<-this];exact G
  ·obtain⟨b,hb,I,e2,e3,_,_,e6,e7⟩:=aAg m F;have U:=hid I;clear I;have a1:=d.size;have s1:aJ.wrap ((m:Int)-1)=(m:Int)-1:=yM _ (by omega);go_wp2_with (at_builtin;refine gK rfl _ _ rfl w.heap.size _ _ rfl (G.alloc _) wr.heap.size (b:Int) rfl ?_ ?_ ?_ ?_;(exact bX _ _ _);omega;(simp;omega);intro v' w1 V Z a2);have A:=O.out
   go_roundg ((m-1)/2)
   case measure=>omega
   case rel=>
    refine⟨(m-1)/2,l++[(b:Int)],by omega,rfl,by go_num,V,hid ?_,by simp;omega,(d.alloc d.size _).trans Z⟩;rw[bU,NZ,<-U.out];exact H.out
theorem QC (n:Nat) (w:World) (hn:n<=1000000):
  Calls pG 212 #[.int .i64 (n:Int)] w fun e w'=>∃v,e=.returned v/\OwI w' w.heap.size v (dig n)/\Below w.heap.size w w':=by
 go_enter func212,ntmps212;go_wp2_with fail
 go_loopg [3,4] n (fun J L M wr=>∃(m:Nat) (l:List Int),m<=n/\J=m/\M=.int .i64 m/\OwI wr w.heap.size L l/\Hid (l++dig m=dig n)/\l.length+m<=n/\Below w.heap.size w wr)
 case atStart=>exact⟨n,[],aD _,rfl,rfl,OwI.nil _ _,hid rfl,by simp,aH _ _⟩
 case round=>
  obtain⟨m,l,hm,A,rfl,G,H,a0,d⟩:=hrel;have O:=hid A;clear A;rcases jE m with F|F
  ·subst F;go_wp2_with fail;go_ret;refine⟨_,rfl,?_,d⟩;have:=H.out;rw[uG,dI] at this;rw[<-this];exact G
  ·obtain⟨b,hb,I,_,_,e4,e5,e6,e7⟩:=aAg m F;have U:=hid I;clear I;have a1:=d.size;have s1:aJ.wrap ((m:Int)-1)=(m:Int)-1:=yM _ (by omega);go_wp2_with (at_builtin;refine gK rfl _ _ rfl w.heap.size _ _ rfl (G.alloc _) wr.heap.size (b:Int) rfl ?_ ?_ ?_ ?_;(exact bX _ _ _);omega;(simp;omega);intro v' w1 V Z a2);have A:=O.out
   go_roundg ((m-1)/2)
   case measure=>omega
   case rel=>
    refine⟨(m-1)/2,l++[(b:Int)],by omega,rfl,by go_num,V,hid ?_,by simp;omega,(d.alloc d.size _).trans Z⟩;rw[bU,NZ,<-U.out];exact H.out
theorem aAh (v:Value) (l:List Int) (w:World) (F:RdI w v l) (I:∀x∈l,0<=x):
  Calls pG 211 #[v] w fun e w'=>e=.returned (.bool false)/\w'=w:=by
 obtain⟨a,V,rfl,Z,J,G⟩:=F.open;unfold maxLen at J;clear F;go_enter func211,ntmps211;go_wp2_with fail
 go_loopg [3] l.length (fun L M wr=>∃k:Nat,k<=l.length/\L=l.length-k/\M=.int .i64 k/\wr=w)
 case atStart=>exact⟨0,aO _,rfl,rfl,rfl⟩
 case round=>
  obtain⟨k,hk,d,rfl,rfl⟩:=hrel;have O:=hid d;clear d
  by_cases U:k<l.length
  ·obtain⟨b1,o1,rfl,a0,H⟩:=G (by omega);obtain⟨x,A⟩:=eG U;have c1:=H k x A;have a1:=I x (cN A);have t1:decide (x<0)=false:=aE (by omega);clear H A G;go_wp2_with fail;have d:=O.out
   go_roundg (l.length-(k+1))
   case measure=>omega
   case rel=>exact⟨k+1,by omega,rfl,by go_num,rfl⟩
  ·go_wp2_with fail;go_ret;exact⟨rfl,rfl⟩
theorem OwI.setLow {w:World} {B:Nat} {v:Value} {l:List Int} (h:OwI w B v l) {p:Addr} (H:p.block<B) (x:Value):OwI (w.setCell p x) B v l:=by
 refine⟨h.1,?_⟩;rcases h.2 with d|⟨g,cap,A,rfl,F,G,rest⟩
 ·exact .inl d
 ·refine .inr ⟨g,cap,A,rfl,F,?_,rest⟩;rw[kF w p g x (fun e=>by omega)];exact G
def uJ (w:World) (b:Nat) (l:List Int):Prop:=∃v,Arr w b 258 [v]/\OwI w (b+1) v l
theorem uJ.lt {w:World} {b:Nat} {l:List Int} (h:uJ w b l):b<w.heap.size:=by obtain⟨v,h,_⟩:=h;exact h.lt
theorem uJ.below {w w':World} {b:Nat} {l:List Int} (h:uJ w b l) (d:Below w.heap.size w w'):uJ w' b l:=by
 have:=h.lt;obtain⟨v,A,F⟩:=h;exact⟨v,A.below d this,F.below d (aD _)⟩
theorem JU (b:Nat) (G:Value) (l m:List Int) (w:World) (H:uJ w b l) (J:tQ w G m) (L:(l.length+m.length)*8<=140737488355328):
  Calls pG 197 #[.pointer (some ⟨b,0,none⟩),G] w fun e w'=>e=.returned (.tuple #[])/\uJ w' b (l++m)/\Below b w w':=by
 have O:=H.lt;obtain⟨v,d,M⟩:=H;have U:=d.cell (i:=0) rfl;have V:=d.free 0;go_enter func197,ntmps197;go_wp2_with (at_builtin;refine JT rfl _ _ rfl (b+1) _ _ rfl M _ m rfl J L (by omega) ?_;intro Z w1 A I a0;(obtain⟨a',a1,rfl,_,_,_⟩:=A.rd.open);(have F:=d.below I (by omega));(have c2:=F.cell (i:=0) rfl);(have f2:=F.free 0))
 go_end0
 rw[aL] at A;exact⟨rfl,⟨_,F.set 0 _,A.setLow (p:=⟨b,0,none⟩) (Nat.lt_succ_self b) _⟩,(I.mono (tJ b)).setCell (p:=⟨b,0,none⟩) (aD _) _⟩
def qT (d:List Int):Int:=if num d<=1099511627776 then(num d:Int) else 0
def oB (d:List Int):Int:=if num d<=1099511627776 then 0 else 4
end
section
open Go.RowKit Go.Shelf
attribute [local go_sem] Oper.semAt_some
def bv (b:Bool):Int:=if b then 1 else 0
def sP {α:Type} (f:Nat->α) (k:Nat):List α:=(List.range k).map f
theorem QD {α:Type} (f:Nat->α) (k:Nat):sP f (k+1)=sP f k++[f k]:=by simp[sP,List.range_succ]
theorem aOu {α:Type} (f:Nat->α) (k:Nat):(sP f k).length=k:=by simp[sP]
def bk (d:List Bool) (j:Nat):Nat×Bool:=(d.length-1-j,d[d.length-1-j]?.getD false)
def JV (x:Nat×Bool):Array Value:=#[bQ .i64 (x.1:Int),bQ .i64 (bv x.2)]
def KpB (d Bs:Nat) (A B:World):Prop:=Below d A B/\B.heap[Bs]? =A.heap[Bs]?
theorem JW {d Bs:Nat} {A B C:World} (h:KpB d Bs A B) (k:KpB d Bs B C):KpB d Bs A C:=⟨h.1.trans k.1,k.2.trans h.2⟩
theorem QE {A Bs:Nat} {w:World} (F:A<=w.heap.size) (J:Bs<w.heap.size) (W:World) (l:Nat) (o d:Obj) (G:w.heap.size<=l) (h:W.heap[l]? =some o) (H:o.isCells=false) (I:o.isWalk=false):KpB A Bs W (W.putObj l d):=
 ⟨pH F W l o d G h H I,(kV W l d).block Bs (by grind) (fun e=>by cases e;omega)⟩
theorem KpB.cell {d Bs:Nat} {A B:World} (h:KpB d Bs A B) (k:Nat):B.cell? ⟨Bs,k,none⟩=A.cell? ⟨Bs,k,none⟩:=World.cell?_of_block h.2
theorem aOv (F:Fence) (n:Nat) (U:F.fn 301) (V:F.round=none) (hn:1<=n) (l Bs G b off cap:Nat) (d:List Bool) (a4:d.length<=1000000) (Z:b<G) (J M:List (Nat×Bool)->World->Prop)
  (hY:∀pre x W,J pre W->pre.length<d.length->YieldAt F (n-1) pG l (JV x) W fun e A=>
   (e=.returned (.bool true)/\J (pre++[x]) A/\KpB G Bs W A)\/(e=.returned (.bool false)/\M (pre++[x]) A))
  (W:World) (a0:W.cell? ⟨Bs,0,none⟩=some (.slice (some ⟨b,off,none⟩) d.length cap)) (hc:∀j,j<d.length->W.cell? ⟨b,off+j,none⟩=some (.int .i64 (bv (d[j]?.getD false)))) (h0:J [] W):
  iV F n pG 301 #[.func (.yield l) #[] #[],.pointer (some ⟨Bs,0,none⟩)] W fun e A=>(∃v,e=.returned v)/\
   ((∃O,O=sP (bk d) d.length/\J O A)\/(∃pre,(∃k,k<=d.length/\pre=sP (bk d) k)/\M pre A)):=by
 refine pX func301 rfl U ?_ V;simp only[ntmps301,dB,aU,aV,cV,dC,jG,jH,jI,jJ,eL,fF]
 gi_wp2
 gi_loopw [3] (fun i wr=>∃q:Nat,q<=d.length/\i=.int .i64 ((q:Int)-1)/\J (sP (bk d) (d.length-q)) wr/\KpB G Bs W wr)
  (fun i _=>(intOf i+1).toNat)
 case atStart=>exact⟨d.length,aD _,rfl,by rw[yP];exact h0,aH _ _,rfl⟩
 case round=>
  obtain⟨q,hq,hi,H,I⟩:=hrel
  cases q with
  |zero=>
   rw[show(((0:Nat):Int)-1)= -1 by omega] at hi;subst hi
   gi_wp2
   go_end0
   exact⟨⟨_,rfl⟩,.inl ⟨_,rfl,by rw[Nat.sub_zero] at H;exact H⟩⟩
  |succ p=>
   rw[show(((p+1:Nat):Int)-1)=(p:Int) by omega] at hi;subst hi;have e1:d.length-1-(d.length-(p+1))=p:=by omega
   have a5:=(I.cell 0).trans a0;have a6:=(I.1.cell (p:=⟨b,off+p,none⟩) Z).trans (hc p (by omega));obtain⟨fn,tmps,assign,body,L,hR⟩:=hY _ (bk d (d.length-(p+1))) wr H (by rw[aOu];omega);unfold JV bk at L;dsimp only at L;rw[e1] at L
   gi_wp2
   refine hR.mono ?_;rintro e W3 (⟨rfl,a1,a2⟩|⟨rfl,a3⟩)
   ·gi_wp2
    go_roundw
    case rel=>exact⟨p,by omega,by go_num,by rw[show d.length-p=(d.length-(p+1))+1 by omega,QD];exact a1,JW I a2⟩
    case measure=>simp[intOf]
   ·gi_wp2
    refine fM (results_none rfl _ _ _) rfl ?_;exact⟨⟨_,rfl⟩,.inr ⟨_,⟨d.length-(p+1)+1,by omega,(QD _ _).symm⟩,a3⟩⟩
theorem aOw (F:Fence) (n:Nat) (d:F.fn 301) (A:F.round=none) (l Bs cap:Nat) (a:Option Addr) (J:List (Nat×Bool)->World->Prop) (W:World) (L:W.cell? ⟨Bs,0,none⟩=some (.slice a 0 cap)) (G:J [] W):
  iV F n pG 301 #[.func (.yield l) #[] #[],.pointer (some ⟨Bs,0,none⟩)] W fun e H=>(∃v,e=.returned v)/\J [] H:=by
 refine pX func301 rfl d ?_ A;simp only[ntmps301,dB,aU,aV,cV,dC,jG,jH,jI,jJ,eL,fF]
 gi_wp2
 gi_loopw [3] (fun i wr=>i=.int .i64 (-1)/\J [] wr) (fun _ _=>0)
 case atStart=>exact⟨rfl,G⟩
 case round=>
  obtain⟨rfl,I⟩:=hrel
  gi_wp2
  go_end0
  exact⟨⟨_,rfl⟩,I⟩
def EC (F:Nat) (W:World) (A:Value) (d:List Bool):Prop:=
 (∃a cap,A=.slice a 0 cap/\d=[])\/∃b off cap,A=.slice (some ⟨b,off,none⟩) d.length cap/\b<F/\∀j,j<d.length->W.cell? ⟨b,off+j,none⟩=some (.int .i64 (bv (d[j]?.getD false)))
theorem EC.below {d:Nat} {A B:World} (h:Below d A B) {F:Value} {G:List Bool}:EC d A F G->EC d B F G
 |.inl e=>.inl e
 |.inr ⟨b,off,cap,e,H,I⟩=>.inr ⟨b,off,cap,e,H,fun j J=>(h.cell (p:=⟨b,off+j,none⟩) H).trans (I j J)⟩
theorem aOx (F:Fence) (n:Nat) (G:F.fn 301) (H:F.round=none) (U:1<=n) (Bs A:Nat) (I:Value) (d:List Bool) (V:d.length<=1000000) (w:World) (Z:Bs<w.heap.size) (a0:A<=w.heap.size)
  (hc:w.cell? ⟨Bs,0,none⟩=some I) (hI:EC A w I d):
  SeqStopsK F n pG 301 #[.pointer (some ⟨Bs,0,none⟩)] JV (KpB A Bs) (fun ys=>ys=sP (bk d) d.length)
   (fun pre=>∃k,k<=d.length/\pre=sP (bk d) k) d.length w:=fun l J Jx W L _ _ hY M=>by
 have O:=(L.cell (p:=⟨Bs,0,none⟩) Z).trans hc;rcases hI.below (L.mono a0) with⟨a,cap,rfl,rfl⟩|⟨b,off,cap,rfl,hb,a1⟩
 ·exact(aOw F n G H l Bs cap a J W O M).mono fun e W' ⟨he,hj⟩=>⟨he,.inl ⟨_,rfl,hj⟩⟩
 ·exact aOv F n G H U l Bs A b off cap d V hb J Jx hY W O a1 M
theorem aOy (F:Fence) (n:Nat) (A:F.fn 284) (G:F.round=none) (a:Option Addr) (d cap:Nat) (w:World):
  iV F n pG 284 #[.slice a d cap] w fun e w'=>e=.returned (.func (.func 301) #[] #[.pointer (some ⟨w.heap.size,0,none⟩)])/\w'=w.alloc (.cells #[.slice a d cap] 26):=by
 refine pX func284 rfl A ?_ G;simp only[ntmps284,dB,aU,aV,cV,dC,jG,jH,jI,jJ,eL,fF]
 gi_wp2
 go_ret;exact⟨rfl,rfl⟩
def hor (l:List (Nat×Bool)):Nat:=l.foldl (fun n x=>2*n+(if x.2 then 2 else 1)) 0
theorem aAk (l:List (Nat×Bool)) (x:Nat×Bool):hor (l++[x])=2*hor l+(if x.2 then 2 else 1):=by simp[hor]
theorem aAl (d:List Bool):∀k,k<=d.length->hor (sP (bk d) k)=num ((d.drop (d.length-k)).map bv):=by
 intro k
 induction k with
 |zero=>intro _;simp[sP,hor,num]
 |succ k A=>
  intro G;have F:d.length-(k+1)<d.length:=by omega
  rw[QD,aAk,A (by omega),List.drop_eq_getElem_cons F,kI,num,show d.length-(k+1)+1=d.length-k by omega];have e:(bk d k).2=d[d.length-(k+1)]:=by
   unfold bk
   grind
  rw[e]
  cases d[d.length-(k+1)]
  ·simp[bv];omega
  ·simp[bv];omega
theorem aOz:∀(l:List Int) (k:Nat),num (l.drop k)<=num l:=by
 intro l
 induction l with
 |nil=>intro k;simp
 |cons d l A=>
  intro k
  cases k with
  |zero=>simp
  |succ k=>rw[List.drop_succ_cons,num];have:=A k;omega
theorem aO0 (d:List Bool):iR (fun x=> !(x==0)&& !(x==1)) (d.map bv)= -1:=by grind [sK,iR,bv]
theorem aO1 (n:Nat) (hn:3<=n) (a:Option Addr) (cap:Nat) (d:List Bool) (b2:d.length<=1000000) (w:World) (G:RdI w (.slice a d.length cap) (d.map bv)) (hI:EC w.heap.size w (.slice a d.length cap) d):
  iV cZ n pG 263 #[.slice a d.length cap] w fun e W'=>e=.returned (.tuple #[.int .i64 (qT (d.map bv)),.int .i64 (oB (d.map bv))])/\Below w.heap.size w W':=by
 have h1:1<=n:=by omega
 have a2:cZ.round=none:=rfl;have a8:∀W,Below w.heap.size w W->Calls pG 141 #[.slice a d.length cap,.func (.func 283) #[] #[]] W fun e w'=>e=.returned (.bool false)/\w'=W:=fun W hW=>
  (zC 283 #[] (fun x=> !(x==0)&& !(x==1)) (.slice a d.length cap) (d.map bv) W (G.below hW) (enters_of func283 (by kernel_rfl) rfl) (fun W _ x _=>aN5 x W)).mono fun e w' ⟨h1,h2⟩=>by
  rw[aO0] at h1;exact⟨h1,h2⟩
 refine callsIn_of_wp_marks func263 rfl trivial ?_ a2;simp only[ntmps263,dB,aU,aV,cV,dC,jG,jH,jI,jJ,eL,fF]
 gi_wp2_with fail
 have a9:Below w.heap.size w ((w.alloc (.cells #[.int .i64 0] 3)).alloc (.cells #[.int .i64 0] 29)):=((aH _ w).alloc (aD _) _).alloc (by simp) _;refine⟨trivial,(callsIn_wide.2 (a8 _ a9)).mono ?_⟩;rintro e w' ⟨rfl,rfl⟩
 gi_wp2_with fail
 refine⟨trivial,(aOy cZ (n-1) trivial a2 a d.length cap _).mono ?_⟩;rintro e w' ⟨rfl,rfl⟩;have bR:=Boxed.new w 3 (.int .i64 0);have bE:=Boxed.new (w.alloc (.cells #[.int .i64 0] 3)) 29 (.int .i64 0);have bN:=Boxed.new ((w.alloc (.cells #[.int .i64 0] 3)).alloc (.cells #[.int .i64 0] 29)) 26 (.slice a d.length cap);rw[fP] at bE;rw[fP,fP] at bN;have b0:=a9.alloc (o:=.cells #[.slice a d.length cap] 26) (by simp;omega)
 gi_wp2_with fail
 refine wpIn_rangeFunc_ownG a2 h1 (gf:=301) (lb:=#[.pointer (some ⟨w.heap.size+1+1,0,none⟩)]) rfl trivial (enters_of func301 (by kernel_rfl) rfl)
  (aOx cZ (n-1) trivial a2 (by omega) (w.heap.size+1+1) w.heap.size _ d b2 _ (by simp) (by simp;omega) bN.cell (hI.below b0)) JW (QE (by simp;omega) (by simp)) (aH _ _) (fun _=>rfl)
  (fun pre W=>(hor pre<=1099511627776/\(W.cell? ⟨w.heap.size,0,none⟩=some (.int .i64 (hor pre:Int))/\W.frozen? ⟨w.heap.size,0,none⟩=false)/\(W.cell? ⟨w.heap.size+1,0,none⟩=some (.int .i64 0)/\W.frozen? ⟨w.heap.size+1,0,none⟩=false))/\Below w.heap.size w W)
  (fun c pre W=>(c=.ret/\1099511627776<hor pre/\W.cell? ⟨w.heap.size,0,none⟩=some (.int .i64 0)/\W.cell? ⟨w.heap.size+1,0,none⟩=some (.int .i64 4))/\Below w.heap.size w W)
  (OC (Own.from (fun s A B row F O G=>⟨F.1,⟨yQ F.2.1.1 O G,(frozen_kept F.2.1.1 O G).trans F.2.1.2⟩,yQ F.2.2.1 O G,(frozen_kept F.2.2.1 O G).trans F.2.2.2⟩) _) (OD (aD _) (by simp;omega)))
  (fun c=>OC (Own.from (fun s A B row F O G=>⟨F.1,F.2.1,yQ F.2.2.1 O G,yQ F.2.2.2 O G⟩) _) (OD (aD _) (by simp;omega)))
  ⟨⟨by simp[hor],⟨((bR.alloc _).alloc _).cell,((bR.alloc _).alloc _).frozen⟩,(bE.alloc _).cell,(bE.alloc _).frozen⟩,b0⟩
  (fun x=>{tmps:=#[.slice a d.length cap,undef,.pointer (some ⟨w.heap.size,0,none⟩),.pointer (some ⟨w.heap.size+1,0,none⟩),undef,.int .i64 (bv x.2),.slice a d.length cap,.bool false,.slice a d.length cap,.func (.func 301) #[] #[.pointer (some ⟨w.heap.size+1+1,0,none⟩)],.int .i64 (x.1:Int),.int .i64 (bv x.2),undef,undef,undef,undef,undef,undef,undef,undef],defers:=[]}) ?assign ?body ?done ?stop
 case assign=>
  intro l x W K J;unfold JV
  gi_wp2
  exact J
 case body=>
  rintro l pre ⟨i,b⟩ W ⟨⟨Z,⟨H,hf⟩,L,a4⟩,M⟩ _;obtain⟨h,hh⟩:∃h,h=hor pre:=⟨_,rfl⟩;have F:=aAk pre (i,b);rw[<-hh] at Z H F;have U:=hid F;have b1:w.heap.size+1+1≠w.heap.size:=by omega
  clear hh F a8 G;have a0:(⟨w.heap.size+1,0,none⟩:Addr)≠⟨w.heap.size,0,none⟩:=fun e=>by have:=congrArg Addr.block e;simp at this
  have I:(⟨w.heap.size,0,none⟩:Addr)≠⟨w.heap.size+1,0,none⟩:=fun e=>a0 e.symm
  cases b
  ·have a5:bv false=0:=rfl;dsimp only
   rw[a5]
   by_cases b3:1099511627776<2*h+1
   ·have t1:decide ((1099511627776:Int)<2*(h:Int)+1)=true:=aG (by omega);have t2:(1099511627776:Int)<2*(h:Int)+1:=by omega
    gi_wp2
    refine⟨(((kJ W _ _).trans (kJ _ _ _)).trans (kJ _ _ _)).from _,⟨rfl,by rw[U.out,aA (by decide)];omega,?_,?_⟩,
     ((M.setCell (p:=⟨w.heap.size,0,none⟩) (aD _) _).setCell (p:=⟨w.heap.size,0,none⟩) (aD _) _).setCell (p:=⟨w.heap.size+1,0,none⟩) (tJ _) _⟩
    ·rw[lI _ _ _ _ a0];exact rX _ _ _ (rX _ _ _ H)
    ·refine rX (u:=.int .i64 0) _ _ _ ?_;rw[lI _ _ _ _ I,lI _ _ _ _ I];exact L
   ·have t1:decide ((1099511627776:Int)<2*(h:Int)+1)=false:=aE (by omega);have t2:2*(h:Int)+1<=(1099511627776:Int):=by omega
    gi_wp2
    refine⟨(kJ W _ _).from _,⟨(aH w.heap.size W).setCell (p:=⟨w.heap.size,0,none⟩) (aD _) _,kF _ _ _ _ b1⟩,⟨by rw[U.out,aA (by decide)];omega,⟨?_,?_⟩,?_,?_⟩,M.setCell (p:=⟨w.heap.size,0,none⟩) (aD _) _⟩
    ·have e:(hor (pre++[(i,false)]):Int)=2*(h:Int)+1:=by rw[U.out,aA (by decide)];omega
     rw[e];exact rX _ _ _ H
    ·rw[IG];exact hf
    ·rw[lI _ _ _ _ I];exact L
    ·rw[IG];exact a4
  ·have a5:bv true=1:=rfl;dsimp only
   rw[a5]
   by_cases b3:1099511627776<2*h+2
   ·have t1:decide ((1099511627776:Int)<2*(h:Int)+1+1)=true:=aG (by omega);have t2:(1099511627776:Int)<2*(h:Int)+1+1:=by omega
    gi_wp2
    refine⟨(((kJ W _ _).trans (kJ _ _ _)).trans (kJ _ _ _)).from _,⟨rfl,by rw[U.out,aB trivial];omega,?_,?_⟩,
     ((M.setCell (p:=⟨w.heap.size,0,none⟩) (aD _) _).setCell (p:=⟨w.heap.size,0,none⟩) (aD _) _).setCell (p:=⟨w.heap.size+1,0,none⟩) (tJ _) _⟩
    ·rw[lI _ _ _ _ a0];exact rX _ _ _ (rX _ _ _ H)
    ·refine rX (u:=.int .i64 0) _ _ _ ?_;rw[lI _ _ _ _ I,lI _ _ _ _ I];exact L
   ·have t1:decide ((1099511627776:Int)<2*(h:Int)+1+1)=false:=aE (by omega);have t2:2*(h:Int)+1+1<=(1099511627776:Int):=by omega
    gi_wp2
    refine⟨(kJ W _ _).from _,⟨(aH w.heap.size W).setCell (p:=⟨w.heap.size,0,none⟩) (aD _) _,kF _ _ _ _ b1⟩,⟨by rw[U.out,aB trivial];omega,⟨?_,?_⟩,?_,?_⟩,M.setCell (p:=⟨w.heap.size,0,none⟩) (aD _) _⟩
    ·have e:(hor (pre++[(i,true)]):Int)=2*(h:Int)+1+1:=by rw[U.out,aB trivial];omega
     rw[e];exact rX _ _ _ H
    ·rw[IG];exact hf
    ·rw[lI _ _ _ _ I];exact L
    ·rw[IG];exact a4
 case done=>
  rintro D ys W hD rfl ⟨⟨Z,⟨H,hf⟩,L,a4⟩,M⟩ J;rw[aAl d _ (aD _),yP,List.drop_zero] at Z H;have hv:qT (d.map bv)=(num (d.map bv):Int):=by unfold qT;rw[aB Z]
  have he:oB (d.map bv)=0:=by unfold oB;rw[aB Z]
  have a1:=hid (tK hv he);clear hv he
  gi_wp2
  have I:(⟨w.heap.size,0,none⟩:Addr)≠⟨w.heap.size+1,0,none⟩:=fun e=>by have:=congrArg Addr.block e;simp at this
  have a0:(⟨w.heap.size+1,0,none⟩:Addr)≠⟨w.heap.size,0,none⟩:=fun e=>I e.symm
  obtain⟨V,hV⟩:∃V,V=num (d.map bv):=⟨_,rfl⟩;have a3:=((kJ W ⟨w.heap.size,0,none⟩ (.int .i64 (num (d.map bv):Int))).trans (kJ _ ⟨w.heap.size+1,0,none⟩ (.int .i64 0))).same D _ J rfl;refine⟨by simp,.inl ⟨_,_,rfl,sE a3,?_⟩⟩;have b4:((W.setCell ⟨w.heap.size,0,none⟩ (.int .i64 (num (d.map bv):Int))).setCell ⟨w.heap.size+1,0,none⟩ (.int .i64 0)).cell? ⟨w.heap.size,0,none⟩=some (.int .i64 (num (d.map bv):Int)):=by
   rw[lI _ _ _ _ a0];exact rX _ _ _ H
  have b5:((W.setCell ⟨w.heap.size,0,none⟩ (.int .i64 (num (d.map bv):Int))).setCell ⟨w.heap.size+1,0,none⟩ (.int .i64 0)).cell? ⟨w.heap.size+1,0,none⟩=some (.int .i64 0):=by
   refine rX (u:=.int .i64 0) _ _ _ ?_;rw[lI _ _ _ _ I];exact L
  have a6:=yQ b4 (kV _ D (.deferred none)) (fun r e=>by cases e;exact⟨_,a3,rfl⟩);have a7:=yQ b5 (kV _ D (.deferred none)) (fun r e=>by cases e;exact⟨_,a3,rfl⟩);refine⟨.tuple #[.int .i64 (num (d.map bv):Int),.int .i64 0],?_,by rw[a1.out.1,a1.out.2],((M.setCell (p:=⟨w.heap.size,0,none⟩) (aD _) _).setCell (p:=⟨w.heap.size+1,0,none⟩) (tJ _) _).trans (pH (w:=w) (aD _) _ D _ _ (by simp at hD;omega) a3 rfl rfl)⟩;simp[results,f263,go_sem,a6,a7]
 case stop=>
  rintro D c pre W hD ⟨k,hk,rfl⟩ ⟨⟨rfl,b6,H,L⟩,M⟩ J;rw[aAl d _ hk] at b6;have b7:num ((d.drop (d.length-k)).map bv)<=num (d.map bv):=by rw[List.map_drop];exact aOz _ _
  have hv:qT (d.map bv)=0:=by unfold qT;rw[aA (by omega)]
  have he:oB (d.map bv)=4:=by unfold oB;rw[aA (by omega)]
  have a1:=hid (tK hv he);clear hv he
  gi_wp2
  refine⟨by simp,.inl ⟨_,_,rfl,sE J,?_⟩⟩;have a6:=yQ H (kV _ D (.deferred none)) (fun r e=>by cases e;exact⟨_,J,rfl⟩);have a7:=yQ L (kV _ D (.deferred none)) (fun r e=>by cases e;exact⟨_,J,rfl⟩);refine⟨.tuple #[.int .i64 0,.int .i64 4],?_,by rw[a1.out.1,a1.out.2],M.trans (pH (w:=w) (aD _) W D _ _ (by simp at hD;omega) J rfl rfl)⟩;simp[results,f263,go_sem,a6,a7]
theorem aO2 (v:Value) (d:List Int) (w:World) (G:RdI w v d) (H:d.length<=1000000) (J:∀x∈d,x=0\/x=1):
  Calls pG 263 #[v] w fun e w'=>e=.returned (.tuple #[.int .i64 (qT d),.int .i64 (oB d)])/\Below w.heap.size w w':=by
 obtain⟨A,rfl⟩:∃A:List Bool,d=A.map bv:=by
  refine⟨d.map (fun x=>decide (x=1)),?_⟩;rw[List.map_map];rw[List.map_congr_left (g:=id) (fun x L=>by rcases J x L with rfl|rfl<;>rfl),List.map_id]
 obtain⟨a,cap,rfl,M,V,I⟩:=G.open;rw[aS] at G H I M ⊢;refine callsIn_wide.1 (aO1 3 (aD _) a cap A H w G ?_);rcases jE A.length with F|F
 ·exact .inl ⟨a,cap,by rw[F],List.eq_nil_of_length_eq_zero F⟩
 ·obtain⟨b,off,rfl,O,U⟩:=I F;exact .inr ⟨b,off,cap,rfl,O,fun j Z=>U j _ (by grind)⟩
end
section
open Go.RowKit Go Go.Shelf
abbrev VV:=Value×Value
def prC (l:List VV):List Value:=l.flatMap (fun q=>[q.1,q.2])
theorem aFg (l m:List VV):prC (l++m)=prC l++prC m:=List.flatMap_append
theorem TF (l:List VV):(prC l).length=l.length*2:=by
 induction l with
 |nil=>rfl
 |cons x l d=>show([x.1,x.2]++prC l).length=_;rw[aL,d];simp;omega
theorem ME:∀(l:List VV) (j:Nat) (q:VV),l[j]? =some q->(prC l)[j*2]? =some q.1/\(prC l)[j*2+1]? =some q.2
 |[],j,q,h=>by simp at h
 |x::l,0,q,h=>by
  simp at h;subst h;exact⟨rfl,rfl⟩
 |x::l,j+1,q,h=>by
  have d:=ME l j q (by simpa using h);have e:prC (x::l)=x.1::x.2::prC l:=rfl
  grind
theorem aXr (l:List VV) (j:Nat) (u:Value) (h:(prC l)[j]? =some u):∃q,l[j/2]? =some q/\u=if j%2=0 then q.1 else q.2:=by
 have d:=(eF.1 h).1;rw[TF] at d;have A:l[j/2]? =some l[j/2]:=List.getElem?_eq_getElem (by omega);obtain⟨F,G⟩:=ME l _ _ A
 grind
def rA (l:List VV):Prop:=∀q∈l,q.1.oneCell'=true/\q.2.oneCell'=true
theorem rA.cells {l:List VV} (h:rA l):∀u∈prC l,u.oneCell'=true:=fun u d=>by
 obtain⟨q,A,d⟩:=List.mem_flatMap.1 d;rcases List.mem_cons.1 d with rfl|d
 ·exact(h q A).1
 ·obtain rfl:=List.mem_singleton.1 d;exact(h q A).2
theorem rA.app {l m:List VV} (h:rA l) (k:rA m):rA (l++m):=fun q d=>(List.mem_append.1 d).elim (h q) (k q)
theorem rA.sub {l m:List VV} (h:rA l) (k:∀q∈m,q∈l):rA m:=fun q d=>h q (k q d)
structure El2 (P:fO) (t e bytes:Nat) (z:Value):Prop where
 under:P.underlying t=some (.slice e)
 info:∃i,P.info? e=some i/\i.zero=some z/\i.size=2/\i.bytes=bytes
 cells:z.cells.size=2
 pos:1<=bytes
theorem El2.mk' {P:fO} {t e bytes:Nat} {z:Value} (h:(P.info? e).map (fun i=>(i.zero,i.size,i.bytes))=some (some z,2,bytes)) (d:P.underlying t=some (.slice e)) (A:z.cells.size=2) (F:1<=bytes):El2 P t e bytes z:=by
 obtain⟨G,hi,H,I,J⟩:=info_parts h;exact⟨d,⟨G,hi,H,I,J⟩,A,F⟩
def OwP (w:World) (B e:Nat) (v:Value) (l:List VV):Prop:=w.ownsRow B e 2 v l.length (prC l)
theorem OwP.nil (w:World) (B e:Nat):OwP w B e (.slice none 0 0) []:=World.ownsRow_nil _ _ _ _
theorem OwP.alloc {w:World} {B e:Nat} {v:Value} {l:List VV} (h:OwP w B e v l) (o:Obj):OwP (w.alloc o) B e v l:=WK h o
theorem OwP.below {w w':World} {B C e:Nat} {v:Value} {l:List VV} (h:OwP w B e v l) (d:Below C w w') (A:w.heap.size<=C):OwP w' B e v l:=IX h d A
theorem OwP.base {w:World} {B B' e:Nat} {v:Value} {l:List VV} (h:OwP w B e v l) (d:B'<=B):OwP w B' e v l:=DR h d
theorem OwP.kept {w w':World} {B e:Nat} {v:Value} {l:List VV} {row:Option Nat} (h:OwP w B e v l) (d:w.grownBy w' row) (A:v.ownBlock=none\/v.ownBlock≠row):OwP w' B e v l:=yJ h d A
theorem OwP.lt {w:World} {B e:Nat} {v:Value} {l:List VV} (h:OwP w B e v l):∀k,v.ownBlock=some k->B<=k/\k<w.heap.size:=aK9 h
def nN (w:World) (v:Value) (l:List VV):Prop:=
 (v=.slice none 0 0/\l=[])\/∃b off cap,v=.slice (some ⟨b,off,none⟩) l.length cap/\l.length<=cap/\cap<=maxLen/\b<w.heap.size/\∀j q,l[j]? =some q->w.cell? ⟨b,off+j*2,none⟩=some q.1/\w.cell? ⟨b,off+j*2+1,none⟩=some q.2
theorem nN.below {w w':World} {v:Value} {l:List VV} (h:nN w v l) (d:Below w.heap.size w w'):nN w' v l:=by
 rcases h with h|⟨b,off,cap,rfl,F,G,A,H⟩
 ·exact .inl h
 ·exact .inr ⟨b,off,cap,rfl,F,G,fB A d.size,fun j q I=>by rw[d.cell (p:=⟨b,off+j*2,none⟩) A,d.cell (p:=⟨b,off+j*2+1,none⟩) A];exact H j q I⟩
theorem OwP.src {w:World} {B e:Nat} {v:Value} {l:List VV} (h:OwP w B e v l):nN w v l:=by
 obtain⟨J,h⟩:=h;rcases h with⟨rfl,G⟩|⟨g,cap,A,rfl,L,d,H,I,M,O⟩
 ·exact .inl ⟨rfl,List.length_eq_zero_iff.1 G⟩
 ·refine .inr ⟨g,0,cap,rfl,H,I,(Array.getElem?_eq_some_iff.1 d).1,fun j q F=>?_⟩;obtain⟨U,V⟩:=ME l j q F;have Z:=(eF.1 F).1;rw[Nat.zero_add,cell_of_row w g (j*2) A _ (0,0) d,cell_of_row w g (j*2+1) A _ (0,0) d]
  grind
theorem nN.new (w:World) (e:TypeId) (q:VV):nN (w.alloc (.cells #[q.1,q.2] e)) (.slice (some ⟨w.heap.size,0,none⟩) 1 1) [q]:=by
 have h:=Arr.new w e [q.1,q.2];refine .inr ⟨w.heap.size,0,1,rfl,by simp,by simp[maxLen],by simp,fun j p d=>?_⟩
 cases j with
 |zero=>simp at d;subst d;exact⟨h.cell (i:=0) rfl,h.cell (i:=1) rfl⟩
 |succ j=>simp at d
theorem nN.open {w:World} {v:Value} {l:List VV} (h:nN w v l):∃a cap,v=.slice a l.length cap/\l.length<=cap/\cap<=maxLen/\
  (0<l.length->∃b off,a=some ⟨b,off,none⟩/\b<w.heap.size/\∀j q,l[j]? =some q->w.cell? ⟨b,off+j*2,none⟩=some q.1/\w.cell? ⟨b,off+j*2+1,none⟩=some q.2):=by
 rcases h with⟨rfl,rfl⟩|⟨b,off,cap,rfl,d,A,F,G⟩
 ·exact⟨none,0,rfl,aD _,by simp[maxLen],fun h=>absurd h (by simp)⟩
 grind
section
variable {P:fO} {t e bytes:Nat} {z:Value}
theorem TG (E:El2 P t e bytes z) {w:World} (F:TypeId) (d:Nat) (v:Value) (l:List VV) (G:OwP w d e v l) (H:Value) (m:List VV) (M:nN w H m) (O:rA m) (I:(l.length+m.length)*bytes<=140737488355328) (J:d<=w.heap.size):
  ∃A w',(sA #[t,t] F #[v,H]).run P w=.ok A w'/\OwP w' d e A (l++m)/\Below d w w'/\w.grownBy w' v.ownBlock:=by
 obtain⟨i,hi,U,V,Z⟩:=E.info;rcases M with⟨rfl,rfl⟩|⟨b,off,cap,rfl,_,_,_,hc⟩
 ·refine⟨v,w,aLl (P:=P) (w:=w) d t F e i 2 E.under hi v l.length _ G,by grind,aH _ _,⟨rfl,rfl,rfl,aD _,fun _ _ _=>rfl⟩⟩
 ·have a0:=E.pos;have hn:l.length+m.length<=140737488355328:=aR (Nat.le_mul_of_pos_right _ a0) I;obtain⟨A,w',q1,q2,L,_⟩:=IJ (P:=P) w d t F e i z 2 bytes E.under hi U V Z E.cells (by decide) v l.length _ G ⟨b,off,none⟩ m.length cap (prC m) (TF m) (fun j u hu=>by
    obtain⟨q,hq,rfl⟩:=aXr m j u hu;obtain⟨c1,c2⟩:=hc _ _ hq;have e:(⟨b,off,none⟩:Addr).add j=⟨b,off+j,none⟩:=by unfold gP;split<;>simp_all
    grind) O.cells (by simp only[maxLen];omega) I J
  refine⟨A,w',q1,?_,rJ G L J,L⟩;unfold OwP;rw[aFg,aL];exact q2
theorem aFh (E:El2 P t e bytes z) {A:Array Oper} {rest:List Oper} {o:Oper} {a:Act} {Q:Exit->Act->World->Prop} {w:World} (F:o.guard=none) (s x:iF)
  (G:o.op=.call {callee:=.builtin .append,args:=#[s,x],argTypes:=#[t,t]}) (base:Nat) (v:Value) (l:List VV) (hs:a.eval s=v) (hown:OwP w base e v l)
  (sv:Value) (m:List VV) (hx:a.eval x=sv) (hsrc:nN w sv m) (h1:rA m) (hroom:(l.length+m.length)*bytes<=140737488355328) (hbase:base<=w.heap.size)
  (h:∀d w',OwP w' base e d (l++m)->Below base w w'->w.grownBy w' v.ownBlock->wpList P A Q rest (a.put o.dst d) w'):wpList P A Q (o::rest) a w:=by
 refine yK F fun K H=>?_
 obtain⟨d,w',I,J,L,M⟩:=TG E o.type base v l hown sv m hsrc h1 hroom hbase;unfold nC execOp;simp only[G,resolve,invoke,builtin,vI,AQ,AR,AS,kI,vJ,hs,hx,I];exact H _ _ (h d w' J L M)
theorem MF (E:El2 P t e bytes z) {A:Array Oper} {o:Oper} {a:Act} {K:Act->World->Prop} {Q:Exit->Act->World->Prop} {F:Prop} {w:World} (G:o.guard=none) (s x:iF)
  (H:o.op=.call {callee:=.builtin .append,args:=#[s,x],argTypes:=#[t,t]}) (base:Nat) (v:Value) (l:List VV) (hs:a.eval s=v) (hown:OwP w base e v l)
  (sv:Value) (m:List VV) (hx:a.eval x=sv) (hsrc:nN w sv m) (h1:rA m) (hroom:(l.length+m.length)*bytes<=140737488355328) (hbase:base<=w.heap.size)
  (h:∀d w',OwP w' base e d (l++m)->Below base w w'->w.grownBy w' v.ownBlock->K (a.put o.dst d) w'):if qL o (yielded A a.tmps)=true then nC P o a w K Q else F:=by
 have I:qL o (yielded A a.tmps)=true:=by simp[qL,G]
 rw[aB I];obtain⟨d,w',J,L,M,O⟩:=TG E o.type base v l hown sv m hsrc h1 hroom hbase;unfold nC execOp;simp only[H,resolve,invoke,builtin,vI,AQ,AR,AS,kI,vJ,hs,hx,J];exact h d w' L M O
end
theorem TC {A:Array Oper} {o:Oper} {a:Act} {K:Act->World->Prop} {Q:Exit->Act->World->Prop} {E:Prop} {w:World} (F:o.guard=none) (s x:iF)
  (G:o.op=.call {callee:=.builtin .append,args:=#[s,x],argTypes:=#[26,26]}) (base:Nat) (v:Value) (l:List Int) (hs:a.eval s=v) (hown:OwI w base v l)
  (sv:Value) (m:List Int) (hx:a.eval x=sv) (hsrc:tQ w sv m) (hroom:(l.length+m.length)*8<=140737488355328) (hbase:base<=w.heap.size)
  (h:∀d w',OwI w' base d (l++m)->Below base w w'->w.grownBy w' v.ownBlock->K (a.put o.dst d) w'):if qL o (yielded A a.tmps)=true then nC pG o a w K Q else E:=by
 have H:qL o (yielded A a.tmps)=true:=by simp[qL,F]
 rw[aB H];obtain⟨d,w',I,J,L,M⟩:=aAf o.type base v l hown sv m hsrc hroom hbase;unfold nC execOp;simp only[G,resolve,invoke,builtin,vI,AQ,AR,AS,kI,vJ,hs,hx,I];exact h d w' J L M
theorem oF {w1 w2:World} {A F G:Addr} {H I J:Value} {B:Nat} {w0:World}
  (h:w1.cell? A=some H/\w1.cell? F=some I/\w1.cell? G=some J/\Below B w0 w1/\B<=w1.heap.size) (d:Below w1.heap.size w1 w2):
  w2.cell? A=some H/\w2.cell? F=some I/\w2.cell? G=some J/\Below B w0 w2/\B<=w2.heap.size:=by
 obtain⟨O,U,V,Z,L⟩:=h;have k:∀{p:Addr} {v:Value},w1.cell? p=some v->w2.cell? p=some v:=fun{p} {v} M=>(d.cell (World.block_lt_of_cell? w1 p M)).trans M
 exact⟨k O,k U,k V,Z.trans (d.mono L),aR L d.size⟩
theorem LZ {w1 w2:World} {A H F I G J:Nat} {L M O:Value} {B:Nat} {w0:World}
  (h:w1.cell? ⟨A,H,none⟩=some L/\w1.cell? ⟨F,I,none⟩=some M/\w1.cell? ⟨G,J,none⟩=some O/\Below B w0 w1/\B<=w1.heap.size) (d:Below B w1 w2) (U:A<B) (V:F<B) (Z:G<B):
  w2.cell? ⟨A,H,none⟩=some L/\w2.cell? ⟨F,I,none⟩=some M/\w2.cell? ⟨G,J,none⟩=some O/\Below B w0 w2/\B<=w2.heap.size:=by
 obtain⟨h1,h2,h3,h6,h7⟩:=h;exact⟨(d.cell (p:=⟨A,H,none⟩) U).trans h1,(d.cell (p:=⟨F,I,none⟩) V).trans h2,(d.cell (p:=⟨G,J,none⟩) Z).trans h3,h6.trans d,aR h7 d.size⟩
theorem aXd {v n:Nat} (h:1<=n):0<(bI (aT v n)).length:=by rw[cX,dV];omega
theorem aXe {l d:List Int} {k:Nat} {x:Int} (h:d[k]? =some x):gF l (d.take (k+1))=gF l (d.take k)++aT (gZ l x.toNat) (bL l x.toNat):=by
 rw[List.take_add_one,h];exact aCc ..
theorem aE3 (v u:Value) (l d:List Int) (w:World) (hr:RdI w v l) (hu:RdI w u d) (hE:bM l=0) (hs:∀x∈d,0<=x/\x<(l.length:Int)) (U:d.length<=10000):
  Calls pG 107 #[v,u] w fun e w'=>e=.returned (.tuple #[fT (gF l d),.int .i64 0])/\Below w.heap.size w w':=by
 have G:=gE hE;have b7:=hid (fun i (h:i<l.length)=>(lX G.1 h));have b8:=hid (fun i (h:i<l.length)=>(RD G.1 G.2 h));have d2:=G.1.2.1;have HS:=hid hs;have a7:=hid (fun k=>wG G.1 (d.take k) (fun x H=>hs x (List.mem_of_mem_take H)));clear hs G;have a2:=Arr.new w 79 [.string ⟨#[]⟩,.int .i64 0];have d3:(w.alloc (.cells #[.string ⟨#[]⟩,.int .i64 0] 79)).heap.size=w.heap.size+1:=by simp
 have V:Below w.heap.size w (w.alloc (.cells #[.string ⟨#[]⟩,.int .i64 0] 79)):=bD (aH _ _) _;change Arr (w.alloc (.cells #[.string ⟨#[]⟩,.int .i64 0] 79)) _ _ _ at a2;go_enter func107,ntmps107;go_wp2_with fail;generalize w.alloc (.cells #[.string ⟨#[]⟩,.int .i64 0] 79)=w0 at*
 refine(aE1 _ l _ (hr.below V)).mono ?_;rintro e w1 ⟨uw,rfl,I,-,A⟩;obtain⟨bw,d4,rfl,Z⟩:=I hE;rw[hE];have a8:=(hu.below V).below A;have a9:=a2.below A (by omega);have b0:=V.trans (A.mono (by omega));have d5:=A.size;obtain⟨a,ca,rfl,d6,b9,hA⟩:=a8.open;unfold maxLen at b9;clear hu a8 hr a2 V A I;go_wp2_with fail
 go_loopg [8,9] d.length (fun g s8 s9 wr=>∃k:Nat,k<=d.length/\g=d.length-k/\s9=.int .i64 (k:Int)/\OwI wr w1.heap.size s8 (bI (gF l (d.take k)))/\Below w1.heap.size w1 wr)
 case atStart=>exact⟨0,aO _,rfl,rfl,OwI.nil _ _,aH _ _⟩
 case round=>
  obtain⟨k,hk,hg,rfl,J,F⟩:=hrel;have HG:=hid hg;clear hg;have c0:=F.size
  by_cases c2:k<d.length
  ·have t1:decide ((k:Int)<(d.length:Int))=true:=aG (by omega);obtain⟨b1,o1,rfl,A,b2⟩:=hA (by omega);obtain⟨x,H⟩:=eG c2;have c1:=((pJ F).1 b1 (o1+k) A).trans (b2 k _ H);have c3:=HS.out x (cN H);have HT:=hid (aXe (l:=l) H);have a0:=a7.out k;rw[List.length_take,Nat.min_eq_left hk] at a0;obtain⟨y,rfl⟩:∃y:Nat,x=(y:Int):=⟨x.toNat,by omega⟩;rw[Int.toNat_natCast] at HT;have a1:y<l.length:=by omega
   have a3:=Z.below F Z.lt;have L:=a3.cell (zR _ _ y a1);have M:=a3.cell (zS _ _ y a1);obtain⟨b3,a4,_⟩:=b7.out y a1;have a5:=b8.out y a1;unfold uU at L M;obtain⟨n,U⟩:∃n,n=bL l y:=⟨_,rfl⟩;obtain⟨W,I⟩:∃W,W=gZ l y:=⟨_,rfl⟩;rw[<-U,<-I] at L M HT a5;rw[<-U] at b3 a4;have c4:W<18446744073709551616:=fB a5 (aR (Nat.pow_le_pow_right (by decide) a4) (by decide));have u1:decide ((y:Int)<0)=false:=aE (by omega);have u2:decide ((y:Int)>=(l.length:Int))=false:=aE (by omega);have u3:decide ((l.length:Int)<=(y:Int))=false:=aE (by omega)
   have u4:decide (l.length<=y)=false:=aE (by omega);clear U I H b2 hA c3 a5;go_wp2_with fail;have d7:=aXd (v:=W) b3;have d8:(bI (aT W n)).length<=20:=by rw[cX,dV];exact a4
   have d9:(bI (gF l (d.take k))).length<=20*k:=by rw[cX];exact a0
   have c5:=oF ⟨c1,L,M,F,c0⟩ (aH wr.heap.size wr).drew;have b4:bw<w1.heap.size:=Z.lt;have c6:OwI wr.drew w1.heap.size u8 (bI (gF l (d.take k))):=J;have e0:wr.drew.heap.size=wr.heap.size:=rfl;clear c1 L M a3 J
   go_region_held3 (fun w'=>w'.cell? ⟨b1,o1+k,none⟩=some (.int .i64 (y:Int))/\w'.cell? ⟨bw,y*2,none⟩=some (.int .i64 (n:Int))/\w'.cell? ⟨bw,y*2+1,none⟩=some (.int .u64 (W:Int))/\Below w1.heap.size w1 w'/\w1.heap.size<=w'.heap.size)
    (first
     |with_reducible assumption
     |with_reducible exact oF (by assumption) (by assumption)
     |with_reducible exact LZ (by assumption) (by assumption) A b4 b4)
    (first
     |(go_at_call 60;refine(wK W n _ c4 (by omega)).mono ?_;rintro e w2 ⟨x2,rfl,c7,b5⟩)
     |(refine TC rfl _ _ rfl w1.heap.size u8 (bI (gF l (d.take k))) rfl (OwI.below c6 (by assumption) (aD _)) x2 (bI (aT W n)) rfl (OwI.src c7) ?_ ?_ ?_;(omega);(have:=b5.size;omega);intro v3 w3 p1 p2 p3))
   all_goals go_wp2_with fail
   all_goals
    have hg:=HG.out
    go_roundg (d.length-(k+1))
    case measure=>omega
    case rel=>exact⟨k+1,by omega,rfl,by go_num,by rw[HT.out,iT];exact p1,c5.2.2.2.1.trans ((b5.mono (by omega)).trans p2)⟩
  ·have t1:decide ((k:Int)<(d.length:Int))=false:=aE (by omega);have c8:k=d.length:=by omega
   subst c8;rw[jS] at J;have a0:=a7.out d.length;rw[jS] at a0;go_wp2_with fail;refine(CF _ (gF l d) _ (OwI.rd J) (by omega)).mono ?_;rintro e w6 ⟨rfl,a6⟩;have O:=(a9.below F (by omega)).below a6 (by omega);have c9:Below w.heap.size w w6:=(b0.trans (F.mono (by omega))).trans (a6.mono (by omega));have L:=O.cell (i:=0) rfl;have M:=O.cell (i:=1) rfl;have f0:=O.free 0;have f1:=O.free 1;clear a9 a6 J F b0 Z;generalize b6:gF l d=m at*
   have HM:=hid b6;clear b6;go_wp2_with fail;have z0:Arr ((w6.setCell ⟨w.heap.size,0,none⟩ (.string (mkS (aI m)))).setCell ⟨w.heap.size,1,none⟩ (.int .i64 (m.length:Int))) w.heap.size 79 [.string (mkS (aI m)),.int .i64 (m.length:Int)]:=(O.set 0 _).set 1 _;refine fM (uS rfl _ _ w.heap.size _ _ (0,0) _ rfl z0 underlying79 rfl rQ) rfl ?_;exact⟨by rw[HM.out];rfl,(c9.setCell (p:=⟨w.heap.size,0,none⟩) (aD _) _).setCell (p:=⟨w.heap.size,1,none⟩) (aD _) _⟩
end
end Go.Proofs.YtihbnmlinkbnkaaGreatDoor
