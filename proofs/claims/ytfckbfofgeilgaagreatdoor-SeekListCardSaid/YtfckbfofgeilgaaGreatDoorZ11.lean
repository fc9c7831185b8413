/-
  Texts put together (part 11): the walks and the plain laws on which the statement stands.
-/
import Derived.OrdersIn
import Derived.Test.YtfckbfofgeilgaaGreatDoorZ6
set_option maxRecDepth 100000
set_option maxHeartbeats 12800000
set_option linter.unusedVariables false
set_option linter.unusedSimpArgs false
open Go.Proofs.Tryz
open Go.Proofs.Tryz renaming prog->pG
open Array renaming getElem?_eq_some_iff->fE
open Go renaming Program->fO,run_endLoop->DQ,run_enterLoop_outer->XV
open Go.Fence renaming wide->cZ
open Go.RowKit.Below renaming heap_alloc->oO,refl->aH
open Go.World renaming alloc_heap_new->AZ,cell?_setCell_other->lI,putObj_heap_other->qA,putObj_heap_same->BA,size_alloc->fP
open Nat renaming le_refl->aD
open Option.some renaming inj->cC
namespace Go.Proofs.YtfckbfofgeilgaaGreatDoor
open Go.RowKit Go Go.Shelf
def eS (T:List TypeId) (p:Option Nat) (A B:World):Prop:=A.heap.size<=B.heap.size/\∀k c e d,A.heap[k]? =some (.cells c e d)->e∈T->some k≠p->B.heap[k]? =some (.cells c e d)
theorem eS.of_kept {T:List TypeId} {p:Option Nat} {A B:World} (h:bW none A B):eS T p A B:=⟨h.1,fun k c e D d _ _=>h.2 k _ d rfl (fun q=>by cases q)⟩
theorem eS.of_below {T:List TypeId} {p:Option Nat} {A B:World} (h:Below A.heap.size A B):eS T p A B:=.of_kept (.of_below h)
theorem eS.trans {T:List TypeId} {p:Option Nat} {A B C:World} (h:eS T p A B) (k:eS T p B C):eS T p A C:=by grind [eS]
theorem eS.arr {T:List TypeId} {p:Option Nat} {A B:World} {b e:Nat} {l:List Value} (h:eS T p A B) (d:Arr A b e l) (D:e∈T) (F:some b≠p):Arr B b e l:=h.2 b _ _ _ d D F
theorem eS.own {T:List TypeId} {A B:World} {base e size n:Nat} {v:Value} {d:List Value} (h:eS T none A B) (D:A.ownsRow base e size v n d) (F:e∈T):B.ownsRow base e size v n d:=by
 refine⟨D.1,?_⟩;rcases D.2 with G|⟨g,cap,I,rfl,J,L,rest⟩
 ·exact .inl G
 ·exact .inr ⟨g,cap,I,rfl,J,h.2 g _ _ _ L F (fun q=>by cases q),rest⟩
theorem eS.box {T:List TypeId} {p:Option Nat} {w:World} {g i e:Nat} {l:List Value} (h:Arr w g e l) (A:e ∉ T) (v:Value):eS T p w (w.setCell ⟨g,i,none⟩ v):=
 ⟨by simp,fun k c D F d G _=>by
  have:k≠g:=fun q=>by grind [Arr,eS]
  rw[heap_setCell_other w ⟨g,i,none⟩ k v this];exact d⟩
theorem eS.grownBox {T:List TypeId} {p:Option Nat} {A B:World} {b e:Nat} {l:List Value} (h:A.grownBy B (some b)) (D:Arr A b e l) (F:e ∉ T):eS T p A B:=
 ⟨h.size,fun k c G I d J _=>(h.block k (fE.1 d).1 (fun q=>by grind [Arr,eS])).trans d⟩
theorem eS.app {T:List TypeId} {p:Option Nat} {e B size n:Nat} {w w':World} {v:Value} {A:List Value} (D:w.ownsRow B e size v n A) (h:w.grownBy w' v.ownBlock) (F:e ∉ T):eS T p w w':=
 ⟨h.size,fun k c G I d J _=>by
  refine(h.block k (fE.1 d).1 (fun q=>?_)).trans d;rcases D.2 with⟨rfl,_⟩|⟨g,cap,L,rfl,_,M,_⟩
  ·cases q
  ·obtain rfl:=cC q
   grind⟩
theorem eS.grown {T:List TypeId} {A B:World} {b:Nat} (h:A.grownBy B (some b)):eS T (some b) A B:=⟨h.size,fun k c e F d _ D=>(h.block k (fE.1 d).1 D).trans d⟩
def aIq {α:Type} (n:Nat) (P:fO) (g:Nat) (lb:Array Value) (encs:α->Array Value) (Ri Kp:World->World->Prop) (Ok:World->Prop) (Pre:List α->α->Prop) (I:List α->Prop) (w:World):Prop:=
 ∀(l:Nat) (J F:List α->World->Prop) (W:World),Below w.heap.size w W->(∀s A B,J s A->Below W.heap.size A B->Ri A B->J s B)->(∀s A B,F s A->Below W.heap.size A B->Ri A B->F s B)->(∀s A,J s A->Ok A)->
  (∀d x W1,J d W1->W.heap.size<=W1.heap.size->Pre d x->
   YieldAt cZ (n-1) P l (encs x) W1 fun e D=>(e=.returned (.bool true)/\J (d++[x]) D/\Kp W1 D)\/(e=.returned (.bool false)/\F (d++[x]) D))->
  J [] W->
  CallsIn cZ n P g (#[.func (.yield l) #[] #[]]++lb) W fun e D=>(∃v,e=.returned v)/\((∃G,I G/\J G D)\/∃d,F d D)
theorem bBz {α:Type} {n:Nat} {P:fO} {g:Operand} {ps:Array Tmp} {assign body:Code} {Q:Exit->Act->World->Prop} {a:Act} {w:World}
  (h1:1<=n) {gf:Nat} {lb:Array Value} (hg:a.eval g=.func (.func gf) #[] lb) (eg:∀args w,(callFunc gf args).run P w=.ok (.enter gf args) w)
  {encs:α->Array Value} {Ri Kp:World->World->Prop} {Ok:World->Prop} {Pre:List α->α->Prop} {b5:List α->Prop} {w0:World} (b8:aIq (n-1) P gf lb encs Ri Kp Ok Pre b5 w0) (b6:Below w0.heap.size w0 w) (b9:∀x,(encs x).size=ps.size)
  (b1:∀{A B C:World},Kp A B->Kp B C->Kp A C) (b2:∀A B,bW none A B->Kp A B) (Y:∀A B,bW none A B->Ri A B)
  (I:List α->World->Prop) (Ix:Code->List α->World->Prop) (hI:∀s A B,I s A->Below w.heap.size A B->Ri A B->I s B) (a7:∀c s A B,Ix c s A->Below w.heap.size A B->Ri A B->Ix c s B) (h0:I [] w) (c0:∀s A,I s A->Ok A)
  (Ax:α->Act->World->Prop) (c1:∀x R A A',Ax x R A->bW none A A'->Ax x R A')
  (c2:∀(l:Nat) (d:List α) (x:α) (W:World) (K:Act->World->Prop),I d W->w.heap.size<=W.heap.size->Pre d x->(∀R W',Below W.heap.size W W'->Ax x R W'->K R W')->
   assign.wpIn (cZ.inRound l) (n-1-1) P (Exit.then K (fun _ _ _=>False)) {tmps:=(ps.zip (encs x)).foldl (fun t (p,v)=>t.setIfInBounds p v) a.tmps,defers:=[]} W)
  (hbody:∀(l:Nat) (d:List α) (x:α) (R:Act) (W:World),I d W->w.heap.size<=W.heap.size->Pre d x->Ax x R W->body.wpIn (cZ.inRound l) (n-1-1) P (ownPostG w.heap.size Kp I Ix (d++[x]) W) R W)
  (hdone:∀(D:Nat) (xs:List α) (W:World),w.heap.size<=D->b5 xs->I xs W->W.heap[D]? =some (.deferred (some []))->Q .normal {a with defers:={target:=.collected D,args:=#[]}::a.defers} W)
  (hstop:∀(D:Nat) (c:Code) (d:List α) (W:World),w.heap.size<=D->Ix c d W->W.heap[D]? =some (.deferred (some []))->c.wpIn cZ n P Q {a with defers:={target:=.collected D,args:=#[]}::a.defers} W):
  (Code.rangeFunc g ps assign body).wpIn cZ n P Q a w:=by
 refine wpIn_rangeFunc ?_;intro fn c3;rw[show cZ.round=none from rfl];obtain⟨F,U⟩:∃F:LoopState->Option Code->Loop,F=fun st pe=>{state:=st,pending:=pe,fn,tmps:=a.tmps,params:=ps,assign,body,defers:=w.heap.size}:=⟨_,rfl⟩
 obtain⟨W1,a8⟩:∃W1,(w.alloc (.deferred (some []))).alloc (.loop (F .ready none))=W1:=⟨_,rfl⟩;have c4:W1.heap[w.heap.size+1]? =some (.loop (F .ready none)):=by
  rw[<-a8];have:=AZ (w.alloc (.deferred (some []))) (.loop (F .ready none));rwa[fP] at this
 have c5:W1.heap[w.heap.size]? =some (.deferred (some [])):=by
  rw[<-a8];exact(oO _ _ _ (by simp)).trans (AZ w _)
 have b3:Below w.heap.size w W1:=by rw[<-a8];exact((aH _ w).alloc (aD _) _).alloc (by simp) _
 have c6:I [] W1:=hI _ _ _ h0 b3 (Y _ _ (bW.of_below b3));have d6:W1.heap.size=w.heap.size+2:=by rw[<-a8];simp
 have c7:Below w0.heap.size w0 W1:=b6.trans (b3.mono b6.size);have a0:∀(A:World) (l:Nat) (o o':Obj),w.heap.size<=l->A.heap[l]? =some o->o.isCells=false->o.isWalk=false->Below w.heap.size A (A.putObj l o'):=fun A l o o' J h k1 k2=>belowK_b (w:=w) (aD _) A l o o' J h k1 k2
 refine⟨w.heap.size+1,[{target:=.collected w.heap.size,args:=#[]}],W1,{target:=.fn (.func gf) lb,args:=#[.func (.yield (w.heap.size+1)) #[] #[]]},W1,gf,
  #[.func (.yield (w.heap.size+1)) #[] #[]]++lb,W1,?_,?_,?_,?_,fun _=>h1,?_⟩
 ·rw[<-a8,U];exact XV _ _ _ _ _
 ·simp only[resolve,hg];simp[go_sem]
 ·exact fun _ _=>trivial
 ·simp[invoke,go_sem,eg]
 ·have a9:∀{A B:World} {k:Nat} {o:Obj},Below W1.heap.size A B->k<W1.heap.size->A.heap[k]? =some o->B.heap[k]? =some o:=fun h Z ho=>(h.block _ Z).trans ho
  refine(b8 (w.heap.size+1)
   (fun d W=>I d W/\W.heap[w.heap.size+1]? =some (.loop (F .ready none))/\W.heap[w.heap.size]? =some (.deferred (some [])))
   (fun d W=>∃c,Ix c d W/\W.heap[w.heap.size+1]? =some (.loop (F .done (some c)))/\W.heap[w.heap.size]? =some (.deferred (some [])))
   W1 c7
   (fun s A B hs a1 O=>⟨hI s A B hs.1 (a1.mono (by omega)) O,a9 a1 (by omega) hs.2.1,a9 a1 (by omega) hs.2.2⟩)
   (fun s A B hs a1 O=>by
    obtain⟨c,hc,J,Z⟩:=hs;exact⟨c,a7 c s A B hc (a1.mono (by omega)) O,a9 a1 (by omega) J,a9 a1 (by omega) Z⟩)
   (fun s A hs=>c0 s A hs.1) ?_ ⟨c6,c4,c5⟩).mono ?_
  ·rintro d x W ⟨hi,J,Z⟩ d7 b7;have c8:w.heap.size+1<W.heap.size:=(fE.1 J).1;have hy:=run_yield (P:=P) (args:=encs x) J (by rw[U];exact b9 x);rw[U] at hy;refine⟨fn,_,assign,body,hy,roundIn_of_wpIn c3 (c2 _ d x W _ hi (by omega) b7 ?_)⟩;clear hy;intro R Wa a6 c9;have b0:Wa.heap[w.heap.size+1]? =some (.loop (F .ready none)):=(a6.block _ c8).trans J;have d0:Wa.heap[w.heap.size]? =some (.deferred (some [])):=(a6.block _ (by omega)).trans Z;have d1:w.heap.size+1<Wa.heap.size:=(fE.1 b0).1
   have d2:I d Wa:=hI _ _ _ hi (a6.mono (by omega)) (Y _ _ (bW.of_below a6));refine⟨_,run_beginRound b0 (by rw[U]),?_⟩;have d3:(Wa.putObj (w.heap.size+1) (.loop {F .ready none with state:=.busy})).heap[w.heap.size+1]? =some (.loop {F .ready none with state:=.busy}):=BA d1;have d4:(Wa.putObj (w.heap.size+1) (.loop {F .ready none with state:=.busy})).heap[w.heap.size]? =some (.deferred (some [])):=(qA (by omega)).trans d0
   have b4:∀bo,bW bo Wa (Wa.putObj (w.heap.size+1) (.loop {F .ready none with state:=.busy})):=fun bo=>bW.putObj _ _ b0 rfl
   refine wpIn_mono (hbody _ d x R _ (hI _ _ _ d2 (a0 _ _ _ _ (by omega) b0 rfl rfl) (Y _ _ (b4 none))) (by have:=a6.size;simp;omega) b7 (c1 _ _ _ _ c9 (b4 none))) ?_;have fin:∀(L:Option Code) (M:World),KeepsFrom w.heap.size (Wa.putObj (w.heap.size+1) (.loop {F .ready none with state:=.busy})) M->
     (Instr.endRound (w.heap.size+1) L).run P M=.ok (.bool L.isNone) (M.putObj (w.heap.size+1) (.loop (F (if L.isNone then .ready else .done) L)))/\
     M.heap[w.heap.size+1]? =some (.loop {F .ready none with state:=.busy})/\
     (M.putObj (w.heap.size+1) (.loop (F (if L.isNone then .ready else .done) L))).heap[w.heap.size+1]? =some (.loop (F (if L.isNone then .ready else .done) L))/\
     (M.putObj (w.heap.size+1) (.loop (F (if L.isNone then .ready else .done) L))).heap[w.heap.size]? =some (.deferred (some [])):=fun L M V=>by
    have G:=V.same _ _ (by omega) d3 rfl;have:=run_endRound (P:=P) L G;rw[U] at this ⊢;exact⟨this,by rw[U] at G;exact G,BA (fE.1 G).1,(qA (by omega)).trans (V.same _ _ (aD _) d4 rfl)⟩
   rintro e a3 M hp
   cases e with
   |normal=>
    obtain⟨V,d5,a2⟩:=hp;obtain⟨O,G,a4,a5⟩:=fin none M V;exact⟨_,_,O,.inl ⟨rfl,⟨hI _ _ _ a2 (a0 _ _ _ _ (by omega) G rfl rfl) (Y _ _ (bW.putObj _ _ G rfl)),a4,a5⟩,b1 (b2 _ _ (bW.of_below a6)) (b1 (b2 _ _ (b4 none)) (b1 d5 (b2 _ _ (bW.putObj _ _ G rfl))))⟩⟩
   |ret=>
    obtain⟨V,a2⟩:=hp;obtain⟨O,G,a4,a5⟩:=fin (some .ret) M V;exact⟨_,_,O,.inr ⟨rfl,.ret,a7 _ _ _ _ a2 (a0 _ _ _ _ (by omega) G rfl rfl) (Y _ _ (bW.putObj _ _ G rfl)),a4,a5⟩⟩
   |exit id=>
    obtain⟨V,a2⟩:=hp;obtain⟨O,G,a4,a5⟩:=fin (some (.exit id)) M V;exact⟨_,_,O,.inr ⟨rfl,.exit id,a7 _ _ _ _ a2 (a0 _ _ _ _ (by omega) G rfl rfl) (Y _ _ (bW.putObj _ _ G rfl)),a4,a5⟩⟩
   |goto t=>
    obtain⟨V,a2⟩:=hp;obtain⟨O,G,a4,a5⟩:=fin (some (.goto t)) M V;exact⟨_,_,O,.inr ⟨rfl,.goto t,a7 _ _ _ _ a2 (a0 _ _ _ _ (by omega) G rfl rfl) (Y _ _ (bW.putObj _ _ G rfl)),a4,a5⟩⟩
   |panic ch=>exact hp.elim
   |outgrown=>exact hp.elim
  ·rintro e W2 ⟨⟨v,rfl⟩,(⟨xs,hS,hi,J,Z⟩|⟨d,c,hi,J,Z⟩)⟩
   ·exact⟨none,_,by have:=DQ (P:=P) J (by rw[U];simp);rw[U] at this;exact this,hdone _ xs _ (aD _) hS (hI _ _ _ hi (a0 _ _ _ _ (by omega) J rfl rfl) (Y _ _ (bW.putObj _ _ J rfl))) ((qA (by omega)).trans Z)⟩
   ·exact⟨some c,_,by have:=DQ (P:=P) J (by rw[U];simp);rw[U] at this;exact this,hstop _ c d _ (aD _) (a7 _ _ _ _ hi (a0 _ _ _ _ (by omega) J rfl rfl) (Y _ _ (bW.putObj _ _ J rfl))) ((qA (by omega)).trans Z)⟩
def bN1:Obj->Bool
 |.loop _=>true
 |.deferred _=>true
 |_=>false
theorem bQg {α:Type} {n:Nat} {P:fO} {g:Operand} {ps:Array Tmp} {assign body:Code} {Q:Exit->Act->World->Prop} {a:Act} {w:World}
  (h1:1<=n) {gf:Nat} {lb:Array Value} (hg:a.eval g=.func (.func gf) #[] lb) (eg:∀args w,(callFunc gf args).run P w=.ok (.enter gf args) w)
  {encs:α->Array Value} {Ri Kp:World->World->Prop} {Ok:World->Prop} {Pre:List α->α->Prop} {b7:List α->Prop} {w0:World} (c0:aIq (n-1) P gf lb encs Ri Kp Ok Pre b7 w0) (b8:Below w0.heap.size w0 w) (c1:∀x,(encs x).size=ps.size)
  {Ck:World->World->Prop} (b2:∀A B,Below A.heap.size A B->Ck A B) (a0:∀(A:World) (l:Nat) (o o':Obj),A.heap[l]? =some o->bN1 o=true->Ck A (A.putObj l o'))
  (b3:∀{A B C:World},Kp A B->Kp B C->Kp A C) (b4:∀A B,Ck A B->Kp A B) (Y:∀A B,Ck A B->Ri A B)
  (I:List α->World->Prop) (Ix:Code->List α->World->Prop) (hI:∀s A B,I s A->Below w.heap.size A B->Ri A B->I s B) (a8:∀c s A B,Ix c s A->Below w.heap.size A B->Ri A B->Ix c s B) (h0:I [] w) (c2:∀s A,I s A->Ok A)
  (Ax:α->Act->World->Prop) (c3:∀x R A A',Ax x R A->Ck A A'->Ax x R A')
  (c4:∀(l:Nat) (d:List α) (x:α) (W:World) (K:Act->World->Prop),I d W->w.heap.size<=W.heap.size->Pre d x->(∀R W',Below W.heap.size W W'->Ax x R W'->K R W')->
   assign.wpIn (cZ.inRound l) (n-1-1) P (Exit.then K (fun _ _ _=>False)) {tmps:=(ps.zip (encs x)).foldl (fun t (p,v)=>t.setIfInBounds p v) a.tmps,defers:=[]} W)
  (hbody:∀(l:Nat) (d:List α) (x:α) (R:Act) (W:World),I d W->w.heap.size<=W.heap.size->Pre d x->Ax x R W->body.wpIn (cZ.inRound l) (n-1-1) P (ownPostG w.heap.size Kp I Ix (d++[x]) W) R W)
  (hdone:∀(D:Nat) (xs:List α) (W:World),w.heap.size<=D->b7 xs->I xs W->W.heap[D]? =some (.deferred (some []))->Q .normal {a with defers:={target:=.collected D,args:=#[]}::a.defers} W)
  (hstop:∀(D:Nat) (c:Code) (d:List α) (W:World),w.heap.size<=D->Ix c d W->W.heap[D]? =some (.deferred (some []))->c.wpIn cZ n P Q {a with defers:={target:=.collected D,args:=#[]}::a.defers} W):
  (Code.rangeFunc g ps assign body).wpIn cZ n P Q a w:=by
 refine wpIn_rangeFunc ?_;intro fn c5;rw[show cZ.round=none from rfl];obtain⟨F,U⟩:∃F:LoopState->Option Code->Loop,F=fun st pe=>{state:=st,pending:=pe,fn,tmps:=a.tmps,params:=ps,assign,body,defers:=w.heap.size}:=⟨_,rfl⟩
 obtain⟨W1,a9⟩:∃W1,(w.alloc (.deferred (some []))).alloc (.loop (F .ready none))=W1:=⟨_,rfl⟩;have c6:W1.heap[w.heap.size+1]? =some (.loop (F .ready none)):=by
  rw[<-a9];have:=AZ (w.alloc (.deferred (some []))) (.loop (F .ready none));rwa[fP] at this
 have c7:W1.heap[w.heap.size]? =some (.deferred (some [])):=by
  rw[<-a9];exact(oO _ _ _ (by simp)).trans (AZ w _)
 have b5:Below w.heap.size w W1:=by rw[<-a9];exact((aH _ w).alloc (aD _) _).alloc (by simp) _
 have c8:I [] W1:=hI _ _ _ h0 b5 (Y _ _ (b2 _ _ b5));have d8:W1.heap.size=w.heap.size+2:=by rw[<-a9];simp
 have c9:Below w0.heap.size w0 W1:=b8.trans (b5.mono b8.size);have a1:∀(A:World) (l:Nat) (o o':Obj),w.heap.size<=l->A.heap[l]? =some o->o.isCells=false->o.isWalk=false->Below w.heap.size A (A.putObj l o'):=fun A l o o' J h k1 k2=>belowK_b (w:=w) (aD _) A l o o' J h k1 k2
 refine⟨w.heap.size+1,[{target:=.collected w.heap.size,args:=#[]}],W1,{target:=.fn (.func gf) lb,args:=#[.func (.yield (w.heap.size+1)) #[] #[]]},W1,gf,
  #[.func (.yield (w.heap.size+1)) #[] #[]]++lb,W1,?_,?_,?_,?_,fun _=>h1,?_⟩
 ·rw[<-a9,U];exact XV _ _ _ _ _
 ·simp only[resolve,hg];simp[go_sem]
 ·exact fun _ _=>trivial
 ·simp[invoke,go_sem,eg]
 ·have b0:∀{A B:World} {k:Nat} {o:Obj},Below W1.heap.size A B->k<W1.heap.size->A.heap[k]? =some o->B.heap[k]? =some o:=fun h Z ho=>(h.block _ Z).trans ho
  refine(c0 (w.heap.size+1)
   (fun d W=>I d W/\W.heap[w.heap.size+1]? =some (.loop (F .ready none))/\W.heap[w.heap.size]? =some (.deferred (some [])))
   (fun d W=>∃c,Ix c d W/\W.heap[w.heap.size+1]? =some (.loop (F .done (some c)))/\W.heap[w.heap.size]? =some (.deferred (some [])))
   W1 c9
   (fun s A B hs a2 O=>⟨hI s A B hs.1 (a2.mono (by omega)) O,b0 a2 (by omega) hs.2.1,b0 a2 (by omega) hs.2.2⟩)
   (fun s A B hs a2 O=>by
    obtain⟨c,hc,J,Z⟩:=hs;exact⟨c,a8 c s A B hc (a2.mono (by omega)) O,b0 a2 (by omega) J,b0 a2 (by omega) Z⟩)
   (fun s A hs=>c2 s A hs.1) ?_ ⟨c8,c6,c7⟩).mono ?_
  ·rintro d x W ⟨hi,J,Z⟩ d9 b9;have d0:w.heap.size+1<W.heap.size:=(fE.1 J).1;have hy:=run_yield (P:=P) (args:=encs x) J (by rw[U];exact c1 x);rw[U] at hy;refine⟨fn,_,assign,body,hy,roundIn_of_wpIn c5 (c4 _ d x W _ hi (by omega) b9 ?_)⟩;clear hy;intro R Wa a7 d1;have b1:Wa.heap[w.heap.size+1]? =some (.loop (F .ready none)):=(a7.block _ d0).trans J;have d2:Wa.heap[w.heap.size]? =some (.deferred (some [])):=(a7.block _ (by omega)).trans Z;have d3:w.heap.size+1<Wa.heap.size:=(fE.1 b1).1
   have d4:I d Wa:=hI _ _ _ hi (a7.mono (by omega)) (Y _ _ (b2 _ _ a7));refine⟨_,run_beginRound b1 (by rw[U]),?_⟩;have d5:(Wa.putObj (w.heap.size+1) (.loop {F .ready none with state:=.busy})).heap[w.heap.size+1]? =some (.loop {F .ready none with state:=.busy}):=BA d3;have d6:(Wa.putObj (w.heap.size+1) (.loop {F .ready none with state:=.busy})).heap[w.heap.size]? =some (.deferred (some [])):=(qA (by omega)).trans d2;have b6:Ck Wa (Wa.putObj (w.heap.size+1) (.loop {F .ready none with state:=.busy})):=a0 _ _ _ _ b1 rfl
   refine wpIn_mono (hbody _ d x R _ (hI _ _ _ d4 (a1 _ _ _ _ (by omega) b1 rfl rfl) (Y _ _ b6)) (by have:=a7.size;simp;omega) b9 (c3 _ _ _ _ d1 b6)) ?_;have fin:∀(L:Option Code) (M:World),KeepsFrom w.heap.size (Wa.putObj (w.heap.size+1) (.loop {F .ready none with state:=.busy})) M->
     (Instr.endRound (w.heap.size+1) L).run P M=.ok (.bool L.isNone) (M.putObj (w.heap.size+1) (.loop (F (if L.isNone then .ready else .done) L)))/\
     M.heap[w.heap.size+1]? =some (.loop {F .ready none with state:=.busy})/\
     (M.putObj (w.heap.size+1) (.loop (F (if L.isNone then .ready else .done) L))).heap[w.heap.size+1]? =some (.loop (F (if L.isNone then .ready else .done) L))/\
     (M.putObj (w.heap.size+1) (.loop (F (if L.isNone then .ready else .done) L))).heap[w.heap.size]? =some (.deferred (some [])):=fun L M V=>by
    have G:=V.same _ _ (by omega) d5 rfl;have:=run_endRound (P:=P) L G;rw[U] at this ⊢;exact⟨this,by rw[U] at G;exact G,BA (fE.1 G).1,(qA (by omega)).trans (V.same _ _ (aD _) d6 rfl)⟩
   rintro e a3 M hp
   cases e with
   |normal=>
    obtain⟨V,d7,a4⟩:=hp;obtain⟨O,G,a5,a6⟩:=fin none M V;exact⟨_,_,O,.inl ⟨rfl,⟨hI _ _ _ a4 (a1 _ _ _ _ (by omega) G rfl rfl) (Y _ _ (a0 _ _ _ _ G rfl)),a5,a6⟩,b3 (b4 _ _ (b2 _ _ a7)) (b3 (b4 _ _ b6) (b3 d7 (b4 _ _ (a0 _ _ _ _ G rfl))))⟩⟩
   |ret=>
    obtain⟨V,a4⟩:=hp;obtain⟨O,G,a5,a6⟩:=fin (some .ret) M V;exact⟨_,_,O,.inr ⟨rfl,.ret,a8 _ _ _ _ a4 (a1 _ _ _ _ (by omega) G rfl rfl) (Y _ _ (a0 _ _ _ _ G rfl)),a5,a6⟩⟩
   |exit id=>
    obtain⟨V,a4⟩:=hp;obtain⟨O,G,a5,a6⟩:=fin (some (.exit id)) M V;exact⟨_,_,O,.inr ⟨rfl,.exit id,a8 _ _ _ _ a4 (a1 _ _ _ _ (by omega) G rfl rfl) (Y _ _ (a0 _ _ _ _ G rfl)),a5,a6⟩⟩
   |goto t=>
    obtain⟨V,a4⟩:=hp;obtain⟨O,G,a5,a6⟩:=fin (some (.goto t)) M V;exact⟨_,_,O,.inr ⟨rfl,.goto t,a8 _ _ _ _ a4 (a1 _ _ _ _ (by omega) G rfl rfl) (Y _ _ (a0 _ _ _ _ G rfl)),a5,a6⟩⟩
   |panic ch=>exact hp.elim
   |outgrown=>exact hp.elim
  ·rintro e W2 ⟨⟨v,rfl⟩,(⟨xs,hS,hi,J,Z⟩|⟨d,c,hi,J,Z⟩)⟩
   ·exact⟨none,_,by have:=DQ (P:=P) J (by rw[U];simp);rw[U] at this;exact this,hdone _ xs _ (aD _) hS (hI _ _ _ hi (a1 _ _ _ _ (by omega) J rfl rfl) (Y _ _ (a0 _ _ _ _ J rfl))) ((qA (by omega)).trans Z)⟩
   ·exact⟨some c,_,by have:=DQ (P:=P) J (by rw[U];simp);rw[U] at this;exact this,hstop _ c d _ (aD _) (a8 _ _ _ _ hi (a1 _ _ _ _ (by omega) J rfl rfl) (Y _ _ (a0 _ _ _ _ J rfl))) ((qA (by omega)).trans Z)⟩
theorem aZ4 {l0 n:Nat} {P:fO} {row:String} {args:Array Value} {w:World} {R:Value->World->Prop} (h:Rows P row args w R):RowsIn (cZ.inRound l0) n P row args w R:=fun c d _=>
 let⟨v,w',r,s⟩:=h c d;⟨v,w',r,stepsIn_wide.2 s⟩
theorem aZ5 {l0 n:Nat} (d:1<=n) {P:fO} {o:Oper} (e:∀c,o.op≠.defer c) {a:Act} {w:World} {K:Act->World->Prop} {Q:Exit->Act->World->Prop} (h:o.wp P a w K Q):o.wpIn (cZ.inRound l0) n P a w K Q:=by
 refine⟨fun _ _=>trivial,?_⟩;rw[Oper.semAt_plain (cZ.inRound l0) _ _ e];unfold Oper.wp at h
 revert h
 generalize (execOp a.eval o).run P w=r;intro h
 cases r with
 |ok x w'=>
  cases x<;>first|exact h|exact⟨fun _=>d,callsIn_wide.2 h⟩|exact⟨fun _=>d,aZ4 h⟩|exact h.elim
 |halt A w'=>
  cases A<;>first|exact h|exact h.elim
theorem aG8 {l0 n:Nat} (J:1<=n) {P:fO} {md:Region.Mode} {A:Array Oper} {Q:Exit->Act->World->Prop} (L:¬LetsOut Q) (M:∀(i:Nat) (o:Oper),A[i]? =some o->∀c,o.op≠.defer c):
  ∀(D:Nat) (F:Array Bool) (a:Act) (w:World),wpAny P md A Q D F a w->wpAnyIn (cZ.inRound l0) n P md A Q D F a w
 |0,_,_,_,h=>h
 |D+1,F,a,w,h=>⟨h.1,fun i O=>by
  have d:=h.2 i O;have G:=aG8 (l0:=l0) (P:=P) (md:=md) (Q:=Q) J L M D (F.setIfInBounds i true);unfold wpOp at d;unfold wpOpIn
  cases e:A[i]? with
  |none=>rw[e] at d;exact G _ _ d
  |some o=>
   rw[e] at d;dsimp only at d ⊢;split
   ·next I=>
    rw[aB I] at d;refine aZ5 J (M i o e) ?_;exact Oper.wp_mono (fun R w'=>G R w') (d.resolve_right (fun x=>L x.2))
   ·next I=>
    rw[aA I] at d;exact⟨fun _ _=>trivial,G _ _ d⟩⟩
def TX (o:Oper):Bool:=match o.op with|.defer _=>false|_=>true
theorem aZ6 {d:Array Oper} (h:d.toList.all TX=true):∀(i:Nat) (o:Oper),d[i]? =some o->∀c,o.op≠.defer c:=by grind [TX]
theorem aG9 {l0 n:Nat} (e:1<=n) {P:fO} {A:Nat} {d:Array Oper} {Q:Exit->Act->World->Prop} {a:Act} {w:World} (S:World->Prop) (D:P.follows .mixedOrders=true) (F:¬LetsOut Q) (G:d.toList.all TX=true)
  (h:wpAnyH P .any d Q S d.size (Array.replicate d.size false) a w.drew):(Code.region A d true).wpIn (cZ.inRound l0) n P Q a w:=
 wpIn_region_any D (aG8 e F (aZ6 G) _ _ _ _ (wpAny_of_held _ _ _ _ h))
theorem nA {b c o p:Nat} (h:b≠c):(⟨b,o,none⟩:Addr)≠⟨c,p,none⟩:=by simp
theorem FQ {w:World} {d e A D q:Addr} {v1 v2 v3 v4:Value} (h:w.cell? d=some v1/\w.cell? e=some v2/\w.cell? A=some v3/\w.cell? D=some v4) (F:q≠d) (G:q≠e) (I:q≠A) (J:q≠D) (v:Value):
  (w.setCell q v).cell? d=some v1/\(w.setCell q v).cell? e=some v2/\(w.setCell q v).cell? A=some v3/\(w.setCell q v).cell? D=some v4:=by
 rw[lI _ _ _ _ F,lI _ _ _ _ G,lI _ _ _ _ I,lI _ _ _ _ J];exact h
end Go.Proofs.YtfckbfofgeilgaaGreatDoor
