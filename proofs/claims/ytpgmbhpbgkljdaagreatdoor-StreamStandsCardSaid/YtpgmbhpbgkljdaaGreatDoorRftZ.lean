/-
  A range over an iterator that writes into memory of its own as it goes; the loop's body writes what lay ahead of the range, and what it makes itself, and may leave.
-/
import Derived.Test.YtpgmbhpbgkljdaaGreatDoorZ11
set_option linter.unusedVariables false
set_option linter.unusedSimpArgs false
set_option maxRecDepth 100000
set_option maxHeartbeats 12800000
namespace Go.Proofs.YtpgmbhpbgkljdaaGreatDoor
open Go.RowKit Go Go.Shelf
def TyKept (T:List TypeId) (p:Option Nat) (A B:World):Prop:=A.heap.size<=B.heap.size/\∀k c e fz,A.heap[k]? =some (.cells c e fz)->e∈T->some k≠p->B.heap[k]? =some (.cells c e fz)
theorem TyKept.of_kept {T:List TypeId} {p:Option Nat} {A B:World} (h:dP none A B):TyKept T p A B:=⟨h.1,fun k c e fz hk _ _=>h.2 k _ hk rfl (fun q=>by cases q)⟩
theorem TyKept.of_below {T:List TypeId} {p:Option Nat} {A B:World} (h:Below A.heap.size A B):TyKept T p A B:=.of_kept (.of_below h)
theorem TyKept.trans {T:List TypeId} {p:Option Nat} {A B C:World} (h:TyKept T p A B) (k:TyKept T p B C):TyKept T p A C:=⟨Nat.le_trans h.1 k.1,fun i c e fz hi ht hne=>k.2 i c e fz (h.2 i c e fz hi ht hne) ht hne⟩
theorem TyKept.arr {T:List TypeId} {p:Option Nat} {A B:World} {b e:Nat} {l:List Value} (h:TyKept T p A B) (ha:Arr A b e l) (ht:e∈T) (hne:some b≠p):Arr B b e l:=h.2 b _ _ _ ha ht hne
theorem TyKept.own {T:List TypeId} {A B:World} {base e size n:Nat} {v:Value} {xs:List Value} (h:TyKept T none A B) (ho:A.ownsRow base e size v n xs) (ht:e∈T):B.ownsRow base e size v n xs:=by
 refine⟨ho.1,?_⟩;rcases ho.2 with hn|⟨g,cap,cur,rfl,h1,hg,rest⟩
 ·exact .inl hn
 ·exact .inr ⟨g,cap,cur,rfl,h1,h.2 g _ _ _ hg ht (fun q=>by cases q),rest⟩
theorem TyKept.own' {T:List TypeId} {p:Nat} {A B:World} {base e size n:Nat} {v:Value} {xs:List Value} (h:TyKept T (some p) A B) (ho:A.ownsRow base e size v n xs) (ht:e∈T) (hp:p<base):B.ownsRow base e size v n xs:=by
 refine⟨ho.1,?_⟩;rcases ho.2 with hn|⟨g,cap,cur,rfl,h1,hg,rest⟩
 ·exact .inl hn
 ·exact .inr ⟨g,cap,cur,rfl,h1,h.2 g _ _ _ hg ht (fun q=>by injection q with q;omega),rest⟩
theorem TyKept.box {T:List TypeId} {p:Option Nat} {w:World} {g i e:Nat} {l:List Value} (h:Arr w g e l) (he:e ∉ T) (v:Value):TyKept T p w (w.setCell ⟨g,i,none⟩ v):=
 ⟨by simp,fun k c e' fz hk ht _=>by
  have:k≠g:=fun q=>by
   subst q;have h2:w.heap[k]? =some (.cells l.toArray e (0,0)):=h;rw[h2] at hk
   injection hk with hk
   injection hk with _ q2 _
   exact he (q2▸ht)
  rw[heap_setCell_other w ⟨g,i,none⟩ k v this];exact hk⟩
theorem TyKept.self {T:List TypeId} {w:World} (g i:Nat) (v:Value):TyKept T (some g) w (w.setCell ⟨g,i,none⟩ v):=
 ⟨by simp,fun k _ _ _ hk _ hne=>by rw[heap_setCell_other w ⟨g,i,none⟩ k v (fun q=>hne (by rw[q]))];exact hk⟩
theorem TyKept.grownBox {T:List TypeId} {p:Option Nat} {A B:World} {b e:Nat} {l:List Value} (h:A.grownBy B (some b)) (ha:Arr A b e l) (he:e ∉ T):TyKept T p A B:=
 ⟨h.size,fun k c e' fz hk ht _=>(h.block k (Array.getElem?_eq_some_iff.1 hk).1 (fun q=>by
  obtain rfl:=Option.some.inj q;have h2:A.heap[k]? =some (.cells l.toArray e (0,0)):=ha;rw[h2] at hk
  injection hk with hk
  injection hk with _ q2 _
  exact he (q2▸ht))).trans hk⟩
theorem TyKept.app {T:List TypeId} {p:Option Nat} {e B size n:Nat} {w w':World} {v:Value} {xs:List Value} (ho:w.ownsRow B e size v n xs) (h:w.grownBy w' v.ownBlock) (he:e ∉ T):TyKept T p w w':=
 ⟨h.size,fun k c e' fz hk ht _=>by
  refine(h.block k (Array.getElem?_eq_some_iff.1 hk).1 (fun q=>?_)).trans hk;rcases ho.2 with⟨rfl,_⟩|⟨g,cap,cur,rfl,_,hg,_⟩
  ·cases q
  ·obtain rfl:=Option.some.inj q;rw[hk] at hg
   injection hg with hg
   injection hg with _ q2 _
   exact he (q2▸ht)⟩
theorem TyKept.grown {T:List TypeId} {A B:World} {b:Nat} (h:A.grownBy B (some b)):TyKept T (some b) A B:=⟨h.size,fun k c e fz hk _ hne=>(h.block k (Array.getElem?_eq_some_iff.1 hk).1 hne).trans hk⟩
theorem TyKept.less {T:List TypeId} {p:Option Nat} {A B:World} (h:TyKept T none A B):TyKept T p A B:=⟨h.1,fun k c e fz hk ht _=>h.2 k c e fz hk ht (fun q=>by cases q)⟩
def SeqTy {α:Type} (n:Nat) (P:Program) (g:Nat) (lb:Array Value) (encs:α->Array Value) (Ri Kp:World->World->Prop) (Ok:World->Prop) (Pre:List α->α->Prop) (Fin:List α->Prop) (w:World):Prop:=
 ∀(l:Nat) (J Jx:List α->World->Prop) (W:World),Below w.heap.size w W->(∀s A B,J s A->Below W.heap.size A B->Ri A B->J s B)->(∀s A B,Jx s A->Below W.heap.size A B->Ri A B->Jx s B)->(∀s A,J s A->Ok A)->
  (∀pre x W1,J pre W1->W.heap.size<=W1.heap.size->Pre pre x->
   YieldAt Fence.wide (n-1) P l (encs x) W1 fun e W'=>(e=.returned (.bool true)/\J (pre++[x]) W'/\Kp W1 W')\/(e=.returned (.bool false)/\Jx (pre++[x]) W'))->
  J [] W->
  CallsIn Fence.wide n P g (#[.func (.yield l) #[] #[]]++lb) W fun e W'=>(∃v,e=.returned v)/\((∃xs,Fin xs/\J xs W')\/∃pre,Jx pre W')
theorem wpIn_range_ty {α:Type} {n:Nat} {P:Program} {g:Operand} {ps:Array Tmp} {assign body:Code} {Q:Exit->Act->World->Prop} {a:Act} {w:World}
  (h1:1<=n) {gf:Nat} {lb:Array Value} (hg:a.eval g=.func (.func gf) #[] lb) (eg:∀args w,(callFunc gf args).run P w=.ok (.enter gf args) w)
  {encs:α->Array Value} {Ri Kp:World->World->Prop} {Ok:World->Prop} {Pre:List α->α->Prop} {Fin:List α->Prop} {w0:World} (hseq:SeqTy (n-1) P gf lb encs Ri Kp Ok Pre Fin w0) (hb0:Below w0.heap.size w0 w) (hps:∀x,(encs x).size=ps.size)
  (hKt:∀{A B C:World},Kp A B->Kp B C->Kp A C) (hKc:∀A B,dP none A B->Kp A B) (hRi:∀A B,dP none A B->Ri A B)
  (I:List α->World->Prop) (Ix:Code->List α->World->Prop) (hI:∀s A B,I s A->Below w.heap.size A B->Ri A B->I s B) (hIx:∀c s A B,Ix c s A->Below w.heap.size A B->Ri A B->Ix c s B) (h0:I [] w) (hOk:∀s A,I s A->Ok A)
  (Ax:α->Act->World->Prop) (hAx:∀x a' A A',Ax x a' A->dP none A A'->Ax x a' A')
  (hassign:∀(l:Nat) (pre:List α) (x:α) (W:World) (K:Act->World->Prop),I pre W->w.heap.size<=W.heap.size->Pre pre x->(∀a' W',Below W.heap.size W W'->Ax x a' W'->K a' W')->
   assign.wpIn (Fence.wide.inRound l) (n-1-1) P (Exit.then K (fun _ _ _=>False)) {tmps:=(ps.zip (encs x)).foldl (fun t (p,v)=>t.setIfInBounds p v) a.tmps,defers:=[]} W)
  (hbody:∀(l:Nat) (pre:List α) (x:α) (a':Act) (W:World),I pre W->w.heap.size<=W.heap.size->Pre pre x->Ax x a' W->body.wpIn (Fence.wide.inRound l) (n-1-1) P (ownPostG w.heap.size Kp I Ix (pre++[x]) W) a' W)
  (hdone:∀(D:Nat) (xs:List α) (W:World),w.heap.size<=D->Fin xs->I xs W->W.heap[D]? =some (.deferred (some []))->Q .normal {a with defers:={target:=.collected D,args:=#[]}::a.defers} W)
  (hstop:∀(D:Nat) (c:Code) (pre:List α) (W:World),w.heap.size<=D->Ix c pre W->W.heap[D]? =some (.deferred (some []))->c.wpIn Fence.wide n P Q {a with defers:={target:=.collected D,args:=#[]}::a.defers} W):
  (Code.rangeFunc g ps assign body).wpIn Fence.wide n P Q a w:=by
 refine wpIn_rangeFunc ?_;intro fn hfn;rw[show Fence.wide.round=none from rfl];obtain⟨rec,hrec⟩:∃rec:LoopState->Option Code->Loop,rec=fun st pe=>{state:=st,pending:=pe,fn,tmps:=a.tmps,params:=ps,assign,body,defers:=w.heap.size}:=⟨_,rfl⟩
 obtain⟨W1,hW1⟩:∃W1,(w.alloc (.deferred (some []))).alloc (.loop (rec .ready none))=W1:=⟨_,rfl⟩;have hL1:W1.heap[w.heap.size+1]? =some (.loop (rec .ready none)):=by
  rw[<-hW1];have:=World.alloc_heap_new (w.alloc (.deferred (some []))) (.loop (rec .ready none));rwa[World.size_alloc] at this
 have hK1:W1.heap[w.heap.size]? =some (.deferred (some [])):=by
  rw[<-hW1];exact(Below.heap_alloc _ _ _ (by simp)).trans (World.alloc_heap_new w _)
 have hbw:Below w.heap.size w W1:=by rw[<-hW1];exact((Below.refl _ w).alloc (Nat.le_refl _) _).alloc (by simp) _
 have hI1:I [] W1:=hI _ _ _ h0 hbw (hRi _ _ (dP.of_below hbw));have hs1:W1.heap.size=w.heap.size+2:=by rw[<-hW1];simp
 have hb1:Below w0.heap.size w0 W1:=hb0.trans (hbw.mono hb0.size);have hbp:∀(A:World) (l:Nat) (o o':Obj),w.heap.size<=l->A.heap[l]? =some o->o.isCells=false->o.isWalk=false->Below w.heap.size A (A.putObj l o'):=fun A l o o' hl h k1 k2=>belowK_b (w:=w) (Nat.le_refl _) A l o o' hl h k1 k2
 refine⟨w.heap.size+1,[{target:=.collected w.heap.size,args:=#[]}],W1,{target:=.fn (.func gf) lb,args:=#[.func (.yield (w.heap.size+1)) #[] #[]]},W1,gf,
  #[.func (.yield (w.heap.size+1)) #[] #[]]++lb,W1,?_,?_,?_,?_,fun _=>h1,?_⟩
 ·rw[<-hW1,hrec];exact run_enterLoop_outer _ _ _ _ _
 ·simp only[resolve,hg];simp[go_sem]
 ·exact fun _ _=>trivial
 ·simp[invoke,go_sem,eg]
 ·have hkl:∀{A B:World} {k:Nat} {o:Obj},Below W1.heap.size A B->k<W1.heap.size->A.heap[k]? =some o->B.heap[k]? =some o:=fun h hk ho=>(h.block _ hk).trans ho
  refine(hseq (w.heap.size+1)
   (fun pre W=>I pre W/\W.heap[w.heap.size+1]? =some (.loop (rec .ready none))/\W.heap[w.heap.size]? =some (.deferred (some [])))
   (fun pre W=>∃c,Ix c pre W/\W.heap[w.heap.size+1]? =some (.loop (rec .done (some c)))/\W.heap[w.heap.size]? =some (.deferred (some [])))
   W1 hb1
   (fun s A B hs hAB hr=>⟨hI s A B hs.1 (hAB.mono (by omega)) hr,hkl hAB (by omega) hs.2.1,hkl hAB (by omega) hs.2.2⟩)
   (fun s A B hs hAB hr=>by
    obtain⟨c,hc,hl,hk⟩:=hs;exact⟨c,hIx c s A B hc (hAB.mono (by omega)) hr,hkl hAB (by omega) hl,hkl hAB (by omega) hk⟩)
   (fun s A hs=>hOk s A hs.1) ?_ ⟨hI1,hL1,hK1⟩).mono ?_
  ·rintro pre x W ⟨hi,hl,hk⟩ hWs hpre;have hlt:w.heap.size+1<W.heap.size:=(Array.getElem?_eq_some_iff.1 hl).1;have hy:=run_yield (P:=P) (args:=encs x) hl (by rw[hrec];exact hps x);rw[hrec] at hy;refine⟨fn,_,assign,body,hy,roundIn_of_wpIn hfn (hassign _ pre x W _ hi (by omega) hpre ?_)⟩;clear hy;intro a' Wa hba hax;have hl':Wa.heap[w.heap.size+1]? =some (.loop (rec .ready none)):=(hba.block _ hlt).trans hl;have hk':Wa.heap[w.heap.size]? =some (.deferred (some [])):=(hba.block _ (by omega)).trans hk;have hlt':w.heap.size+1<Wa.heap.size:=(Array.getElem?_eq_some_iff.1 hl').1
   have hia:I pre Wa:=hI _ _ _ hi (hba.mono (by omega)) (hRi _ _ (dP.of_below hba));refine⟨_,run_beginRound hl' (by rw[hrec]),?_⟩;have hl2:(Wa.putObj (w.heap.size+1) (.loop {rec .ready none with state:=.busy})).heap[w.heap.size+1]? =some (.loop {rec .ready none with state:=.busy}):=World.putObj_heap_same hlt';have hk2:(Wa.putObj (w.heap.size+1) (.loop {rec .ready none with state:=.busy})).heap[w.heap.size]? =some (.deferred (some [])):=(World.putObj_heap_other (by omega)).trans hk'
   have hck:∀bo,dP bo Wa (Wa.putObj (w.heap.size+1) (.loop {rec .ready none with state:=.busy})):=fun bo=>dP.putObj _ _ hl' rfl
   refine wpIn_mono (hbody _ pre x a' _ (hI _ _ _ hia (hbp _ _ _ _ (by omega) hl' rfl rfl) (hRi _ _ (hck none))) (by have:=hba.size;simp;omega) hpre (hAx _ _ _ _ hax (hck none))) ?_;have fin:∀(jump:Option Code) (W3:World),KeepsFrom w.heap.size (Wa.putObj (w.heap.size+1) (.loop {rec .ready none with state:=.busy})) W3->
     (Instr.endRound (w.heap.size+1) jump).run P W3=.ok (.bool jump.isNone) (W3.putObj (w.heap.size+1) (.loop (rec (if jump.isNone then .ready else .done) jump)))/\
     W3.heap[w.heap.size+1]? =some (.loop {rec .ready none with state:=.busy})/\
     (W3.putObj (w.heap.size+1) (.loop (rec (if jump.isNone then .ready else .done) jump))).heap[w.heap.size+1]? =some (.loop (rec (if jump.isNone then .ready else .done) jump))/\
     (W3.putObj (w.heap.size+1) (.loop (rec (if jump.isNone then .ready else .done) jump))).heap[w.heap.size]? =some (.deferred (some [])):=fun jump W3 hk3=>by
    have hl3:=hk3.same _ _ (by omega) hl2 rfl;have:=run_endRound (P:=P) jump hl3;rw[hrec] at this ⊢;exact⟨this,by rw[hrec] at hl3;exact hl3,World.putObj_heap_same (Array.getElem?_eq_some_iff.1 hl3).1,(World.putObj_heap_other (by omega)).trans (hk3.same _ _ (Nat.le_refl _) hk2 rfl)⟩
   rintro e a3 W3 hp
   cases e with
   |normal=>
    obtain⟨hk3,hkp3,hi3⟩:=hp;obtain⟨hr,hl3,hl4,hk4⟩:=fin none W3 hk3;exact⟨_,_,hr,.inl ⟨rfl,⟨hI _ _ _ hi3 (hbp _ _ _ _ (by omega) hl3 rfl rfl) (hRi _ _ (dP.putObj _ _ hl3 rfl)),hl4,hk4⟩,hKt (hKc _ _ (dP.of_below hba)) (hKt (hKc _ _ (hck none)) (hKt hkp3 (hKc _ _ (dP.putObj _ _ hl3 rfl))))⟩⟩
   |ret=>
    obtain⟨hk3,hi3⟩:=hp;obtain⟨hr,hl3,hl4,hk4⟩:=fin (some .ret) W3 hk3;exact⟨_,_,hr,.inr ⟨rfl,.ret,hIx _ _ _ _ hi3 (hbp _ _ _ _ (by omega) hl3 rfl rfl) (hRi _ _ (dP.putObj _ _ hl3 rfl)),hl4,hk4⟩⟩
   |exit id=>
    obtain⟨hk3,hi3⟩:=hp;obtain⟨hr,hl3,hl4,hk4⟩:=fin (some (.exit id)) W3 hk3;exact⟨_,_,hr,.inr ⟨rfl,.exit id,hIx _ _ _ _ hi3 (hbp _ _ _ _ (by omega) hl3 rfl rfl) (hRi _ _ (dP.putObj _ _ hl3 rfl)),hl4,hk4⟩⟩
   |goto t=>
    obtain⟨hk3,hi3⟩:=hp;obtain⟨hr,hl3,hl4,hk4⟩:=fin (some (.goto t)) W3 hk3;exact⟨_,_,hr,.inr ⟨rfl,.goto t,hIx _ _ _ _ hi3 (hbp _ _ _ _ (by omega) hl3 rfl rfl) (hRi _ _ (dP.putObj _ _ hl3 rfl)),hl4,hk4⟩⟩
   |panic ch=>exact hp.elim
   |outgrown=>exact hp.elim
  ·rintro e W2 ⟨⟨v,rfl⟩,(⟨xs,hS,hi,hl,hk⟩|⟨pre,c,hi,hl,hk⟩)⟩
   ·exact⟨none,_,by have:=run_endLoop (P:=P) hl (by rw[hrec];simp);rw[hrec] at this;exact this,hdone _ xs _ (Nat.le_refl _) hS (hI _ _ _ hi (hbp _ _ _ _ (by omega) hl rfl rfl) (hRi _ _ (dP.putObj _ _ hl rfl))) ((World.putObj_heap_other (by omega)).trans hk)⟩
   ·exact⟨some c,_,by have:=run_endLoop (P:=P) hl (by rw[hrec];simp);rw[hrec] at this;exact this,hstop _ c pre _ (Nat.le_refl _) (hIx _ _ _ _ hi (hbp _ _ _ _ (by omega) hl rfl rfl) (hRi _ _ (dP.putObj _ _ hl rfl))) ((World.putObj_heap_other (by omega)).trans hk)⟩
end Go.Proofs.YtpgmbhpbgkljdaaGreatDoor
