/-
  Texts put together (part 11): the walks and the plain laws on which the statement stands.
-/
import Derived.Test.YtfplbbphficcjaaGreatDoorZ6
import Derived.Test.YtfplbbphficcjaaGreatDoorZ8
import Derived.Test.YtfplbbphficcjaaGreatDoorZ9
set_option maxRecDepth 100000
set_option maxHeartbeats 12800000
set_option linter.unusedVariables false
set_option linter.unusedSimpArgs false
open Go.Proofs.Tryz
open Go.Proofs.Tryz renaming prog->pG
open Array renaming getElem?_eq_some_iff->fE
open Classical renaming byContradiction->aLh
open Go.Fence renaming wide->cZ
open Go.RowKit.Below renaming refl->aH
open Go.World renaming alloc_heap_new->AZ,putObj_heap_other->qA,putObj_heap_same->BA,size_alloc->fP
open Int renaming toNat_natCast->fL
open List renaming length_take->aQ,replicate->aX,take_of_length_le->cD
open Nat renaming add_assoc->fU,add_mul_mod_self_left->bGi,add_zero->pV,le_refl->aD,lt_or_ge->cF,mod_add_div->WO,mod_add_mod->IB,mod_eq_of_lt->jT,mod_lt->kU,zero_le->aO
open Option.some renaming inj->cC
open UInt8 renaming toNat_inj->tH
namespace Go.Proofs.YtfplbbphficcjaaGreatDoor
section
theorem aBg {N:Nat} {lt:Nat->Nat->Prop} (I:∀x,¬lt x x) (A:∀x y z,lt x z->lt x y\/lt y z) {a b:Nat->Nat}
  (J:∀i j,i<N->j<N->a i=a j->i=j) (D:∀i,i<N->∃j,j<N/\b j=a i)
  (L:∀i j,i<j->j<N->¬lt (a j) (a i)) (M:∀i j,i<j->j<N->¬lt (b j) (b i)):∀i,i<N->¬lt (a i) (b i):=by
 intro i O h;have F:∀k,k<=i->∃j,j<i/\b j=a k:=by
  intro k d;obtain⟨j,T,e⟩:=D k (by omega);refine⟨j,?_,e⟩;have G:lt (a k) (b i):=by
   rcases A (a i) (a k) (b i) h with p|p
   ·grind
   ·exact p
  grind
 obtain⟨f,H⟩:∃f:Nat->Nat,∀k,k<=i->f k<i/\b (f k)=a k:=by
  refine⟨fun k=>if h:k<=i then Classical.choose (F k h) else 0,fun k d=>?_⟩
  grind
 obtain⟨x,y,G,U,V⟩:=php i f (fun k d=>(H k d).1)
 grind
theorem aBh {c:Nat->Nat} {m:Nat} (x y z:Nat) (h:ltm c m x z):ltm c m x y\/ltm c m y z:=by
 rcases zA c x y m with p|p|p
 ·exact .inl p
 ·exact .inr (p.symm.ltm h)
 grind [ltm]
theorem aSa {c:Nat->Nat} {m N:Nat} {a b:Nat->Nat} (A:∀i j,i<N->j<N->a i=a j->i=j) (D:∀i j,i<N->j<N->b i=b j->i=j)
  (F:∀i,i<N->∃j,j<N/\a j=b i) (G:∀i,i<N->∃j,j<N/\b j=a i)
  (d:∀i j,i<j->j<N->¬ltm c m (a j) (a i)) (e:∀i j,i<j->j<N->¬ltm c m (b j) (b i)):∀i,i<N->eqm c m (a i) (b i):=by
 intro i h;have H:=aBg (lt:=ltm c m) (fun _=>ltm.irrefl) aBh A G d e i h;have I:=aBg (lt:=ltm c m) (fun _=>ltm.irrefl) aBh D F e d i h
 grind [zA,ltm,eqm]
theorem Ord.weak {c:Nat->Nat} {n m:Nat} {o:Nat->Int} (h:Ord c n m o) {i j:Nat} (d:i<j) (e:j<n):¬ltm c m (o j).toNat (o i).toNat:=by
 intro k;rcases h.srt i j (aO _) d e with p|⟨p,_⟩
 ·grind [ltm]
 ·exact k.not_eqm p.symm
theorem Ord.nat {c:Nat->Nat} {n m:Nat} {o:Nat->Int} (h:Ord c n m o) {i:Nat} (d:i<n):o i=(((o i).toNat:Nat):Int)/\(o i).toNat<n:=by
 have:=h.rng i d;omega
theorem Ord.inj {c:Nat->Nat} {n m:Nat} {o:Nat->Int} (h:Ord c n m o) {i j:Nat} (d:i<n) (A:j<n) (e:(o i).toNat=(o j).toNat):i=j:=by
 apply aLh;intro D;have F:=(h.nat d).1;have G:=(h.nat A).1;exact h.ne d A D (by rw[F,G,e])
theorem aSb {n k x y:Nat} (D:x<n) (F:y<n) (h:(x+k)%n=(y+k)%n):x=y:=by
 have e:∀z,z<n->((z+k)%n+(n-k%n))%n=z:=by
  intro z d;have G:=kU k (show 0<n by omega);rw[IB,<-IB];have A:z+k+(n-k%n)=z+n*(k/n+1):=by
   have:=WO k n
   grind
  rw[IB,A,bGi,jT d]
 grind
theorem aSc {n k y:Nat} (d:y<n):∃x,x<n/\(x+k)%n=y:=by
 refine⟨(y+(n-k%n))%n,kU _ (by omega),?_⟩;have h:=kU k (show 0<n by omega);have e:y+(n-k%n)+k=y+n*(k/n+1):=by
  have:=WO k n
  grind
 rw[IB,e,bGi,jT d]
theorem aSd (s:ByteArray) (o:Nat->Int) (n:Nat) {i:Nat} (d:i<n):∃b,(eM s o n)[i]? =some b/\b.toNat=cQ s ((o i).toNat+(s.size-1)):=by
 refine⟨s.data.toList.getD (((o i).toNat+(s.size-1))%s.size) 0,?_,rfl⟩
 grind [eM,cQ]
theorem aSe {x y:List UInt8} (d:x.length=y.length) (h:∀i,i<x.length->∃a b,x[i]? =some a/\y[i]? =some b/\a.toNat=b.toNat):x=y:=by
 apply List.ext_getElem?
 grind [tH,List.getElem?_eq_none]
theorem aUm (s:List UInt8):∀j,j<s.length->∀i,i<j->(s.getD (nxt s i) 0).toNat<(s.getD (nxt s j) 0).toNat\/((s.getD (nxt s i) 0).toNat=(s.getD (nxt s j) 0).toNat/\nxt s i<nxt s j):=by
 intro j
 induction j with
 |zero=>intro _ i e;omega
 |succ j h=>
  intro A i e;obtain⟨D,d⟩:=aNu s j A;rcases cF i j with p|p
  ·rcases h (by omega) i p with q|⟨q,F⟩
   ·exact .inl (by omega)
   ·rcases cF (s.getD (nxt s j) 0).toNat (s.getD (nxt s (j+1)) 0).toNat with t|t
    ·exact .inl (by omega)
    ·have:=d (by omega);exact .inr ⟨by omega,by omega⟩
  ·have:i=j:=by omega
   subst this;rcases cF (s.getD (nxt s i) 0).toNat (s.getD (nxt s (i+1)) 0).toNat with t|t
   ·exact .inl t
   ·exact .inr ⟨by omega,d (by omega)⟩
theorem aC7 {c:Nat->Nat} {n:Nat} (d:Cyc c n) (e:0<n) {x y:Nat} (h:eqm c n x y) (t:Nat):c (x+t)=c (y+t):=
 (d.all e (m:=n+t+1) (by omega)).1.2 h t (by omega)
theorem aC8 {c:Nat->Nat} {n:Nat} (d:Cyc c n) (e:0<n) {x y:Nat} (h:eqm c n x y) (k:Nat):eqm c n (x+k) (y+k):=fun t _=>by
 rw[fU,fU];exact aC7 d e h _
theorem SE {c:Nat->Nat} {n:Nat} (d:Cyc c n) (x:Nat):eqm c n (x+n) x:=fun t _=>by
 rw[show x+n+t=x+t+n by omega,d]
section
variable {s:ByteArray} {o:Nat->Int}
theorem SF (_h:Ord (cQ s) s.size s.size o) {i:Nat} (d:i<s.size):((eM s o s.size).getD i 0).toNat=cQ s ((o i).toNat+(s.size-1)):=by
 obtain⟨b,e,h⟩:=aSd s o s.size d;rw[List.getD,e];exact h
theorem aUn (h:Ord (cQ s) s.size s.size o):∀i,i<s.size->eqm (cQ s) s.size ((o (nxt (eM s o s.size) i)).toNat+(s.size-1)) (o i).toNat:=by
 have F:=xI s;have U:=xJ s o s.size;have D:∀{i},i<s.size->nxt (eM s o s.size) i<s.size:=fun{i} d=>by have:=JR (eM s o s.size) i (by omega);omega
 intro i d;rw[<-F.eqm,jT (h.nat d).2];refine aSa (a:=fun i=>((o (nxt (eM s o s.size) i)).toNat+(s.size-1))%s.size) (b:=fun i=>(o i).toNat) (N:=s.size) ?_ (fun i j d A e=>h.inj d A e) ?_ ?_ ?_ (fun i j G A=>h.weak G A) i d
 ·intro i j d A e;have H:=aSb (h.nat (D d)).2 (h.nat (D A)).2 e;exact aNi _ i j (by omega) (by omega) (h.inj (D d) (D A) H)
 ·intro i d;obtain⟨x,J,e⟩:=aSc (k:=s.size-1) (h.nat d).2;obtain⟨j,A,L⟩:=h.onto J;have V:=ZD (eM s o s.size) j (by omega);refine⟨kX (eM s o s.size) j,by omega,?_⟩;rw[aNh _ j (by omega),L,fL,e]
 ·intro i d;obtain⟨j,A,e⟩:=h.onto (y:=((o (nxt (eM s o s.size) i)).toNat+(s.size-1))%s.size) (kU _ (by omega));exact⟨j,A,by rw[e,fL]⟩
 ·intro i j G A;have M:0<s.size:=by omega
  have d:i<s.size:=by omega
  have v:=aUm (eM s o s.size) j (by omega) i G;rw[SF h (D d),SF h (D A)] at v;have Y:=h.nat (D d);have Z:=h.nat (D A);rw[F.ltm,<-(F.all M (m:=1+s.size) (by omega)).2,ZJ];rintro(⟨t,t1,_,O⟩|⟨t,I⟩)
  ·have:t=0:=by omega
   subst this;simp only[pV] at O;omega
  ·have H:=t 0 (by omega);simp only[pV] at H;rcases v with v|⟨_,v⟩
   ·omega
   ·rw[show(o (nxt (eM s o s.size) j)).toNat+(s.size-1)+1=(o (nxt (eM s o s.size) j)).toNat+s.size by omega,
     show(o (nxt (eM s o s.size) i)).toNat+(s.size-1)+1=(o (nxt (eM s o s.size) i)).toNat+s.size by omega] at I
    have T:=((SE F _).symm.ltm I).eqm (SE F _);exact h.weak v (D A) T
theorem aUo (h:Ord (cQ s) s.size s.size o) {i:Nat} (e:i<s.size):eqm (cQ s) s.size (o (nxt (eM s o s.size) i)).toNat ((o i).toNat+1):=by
 have d:=xI s;have A:0<s.size:=by omega
 have:=aC8 d A (aUn h i e) 1;rw[show(o (nxt (eM s o s.size) i)).toNat+(s.size-1)+1=(o (nxt (eM s o s.size) i)).toNat+s.size by omega] at this;exact(SE d _).symm.trans this
theorem aUp (h:Ord (cQ s) s.size s.size o) {k:Nat} (D:k<s.size):∀j,eqm (cQ s) s.size (o (nI (eM s o s.size) j k)).toNat ((o k).toNat+j):=by
 have d:=xI s;have e:0<s.size:=by omega
 have F:=xJ s o s.size;intro j
 induction j with
 |zero=>exact eqm.refl _ _
 |succ j A=>
  have G:=xG (eM s o s.size) k (by omega) j;exact(aUo h (by omega)).trans (aC8 d e A 1)
theorem aUq (h:Ord (cQ s) s.size s.size o) {k:Nat} (d:k<s.size):qR (eM s o s.size) k=rot s (o k).toNat:=by
 have e:=xJ s o s.size;have D:=(h.nat d).2;have F:0<s.size:=by omega
 refine aSe (by rw[JS,EE _ _ (by omega),e]) (fun i A=>?_);rw[JS,e] at A;obtain⟨b,G,H⟩:=EF s D A;refine⟨_,b,aNs _ _ _ (by omega),G,?_⟩;have I:=xG (eM s o s.size) k (by omega) (i+1);rw[SF h (by omega),H,aC7 (xI s) F (aUp h d (i+1)) (s.size-1),show(o k).toNat+(i+1)+(s.size-1)=(o k).toNat+i+s.size by omega,xI s]
end
end
section
open Go.RowKit Go Go.Shelf
def eS (T:List TypeId) (p:Option Nat) (A B:World):Prop:=A.heap.size<=B.heap.size/\∀k c e d,A.heap[k]? =some (.cells c e d)->e∈T->some k≠p->B.heap[k]? =some (.cells c e d)
theorem eS.of_kept {T:List TypeId} {p:Option Nat} {A B:World} (h:bW none A B):eS T p A B:=⟨h.1,fun k c e D d _ _=>h.2 k _ d rfl (fun q=>by cases q)⟩
theorem eS.of_below {T:List TypeId} {p:Option Nat} {A B:World} (h:Below A.heap.size A B):eS T p A B:=.of_kept (.of_below h)
theorem eS.trans {T:List TypeId} {p:Option Nat} {A B C:World} (h:eS T p A B) (k:eS T p B C):eS T p A C:=by grind [eS]
theorem eS.arr {T:List TypeId} {p:Option Nat} {A B:World} {b e:Nat} {l:List Value} (h:eS T p A B) (d:Arr A b e l) (D:e∈T) (F:some b≠p):Arr B b e l:=h.2 b _ _ _ d D F
theorem eS.own {T:List TypeId} {A B:World} {base e size n:Nat} {v:Value} {d:List Value} (h:eS T none A B) (D:A.ownsRow base e size v n d) (F:e∈T):B.ownsRow base e size v n d:=by
 refine⟨D.1,?_⟩;rcases D.2 with G|⟨g,cap,H,rfl,I,J,rest⟩
 ·exact .inl G
 ·exact .inr ⟨g,cap,H,rfl,I,h.2 g _ _ _ J F (fun q=>by cases q),rest⟩
theorem eS.box {T:List TypeId} {p:Option Nat} {w:World} {g i e:Nat} {l:List Value} (h:Arr w g e l) (A:e ∉ T) (v:Value):eS T p w (w.setCell ⟨g,i,none⟩ v):=
 ⟨by simp,fun k c D F d G _=>by
  have:k≠g:=fun q=>by grind [Arr,eS]
  rw[heap_setCell_other w ⟨g,i,none⟩ k v this];exact d⟩
theorem eS.grownBox {T:List TypeId} {p:Option Nat} {A B:World} {b e:Nat} {l:List Value} (h:A.grownBy B (some b)) (D:Arr A b e l) (F:e ∉ T):eS T p A B:=
 ⟨h.size,fun k c G H d I _=>(h.block k (fE.1 d).1 (fun q=>by grind [Arr,eS])).trans d⟩
theorem eS.app {T:List TypeId} {p:Option Nat} {e B size n:Nat} {w w':World} {v:Value} {A:List Value} (D:w.ownsRow B e size v n A) (h:w.grownBy w' v.ownBlock) (F:e ∉ T):eS T p w w':=
 ⟨h.size,fun k c G H d I _=>by
  refine(h.block k (fE.1 d).1 (fun q=>?_)).trans d;rcases D.2 with⟨rfl,_⟩|⟨g,cap,J,rfl,_,L,_⟩
  ·cases q
  ·obtain rfl:=cC q
   grind⟩
theorem eS.grown {T:List TypeId} {A B:World} {b:Nat} (h:A.grownBy B (some b)):eS T (some b) A B:=⟨h.size,fun k c e F d _ D=>(h.block k (fE.1 d).1 D).trans d⟩
def aIq {α:Type} (n:Nat) (P:Program) (g:Nat) (lb:Array Value) (encs:α->Array Value) (Ri Kp:World->World->Prop) (Ok:World->Prop) (Pre:List α->α->Prop) (H:List α->Prop) (w:World):Prop:=
 ∀(l:Nat) (J D:List α->World->Prop) (W:World),Below w.heap.size w W->(∀s A B,J s A->Below W.heap.size A B->Ri A B->J s B)->(∀s A B,D s A->Below W.heap.size A B->Ri A B->D s B)->(∀s A,J s A->Ok A)->
  (∀d x F,J d F->W.heap.size<=F.heap.size->Pre d x->
   YieldAt cZ (n-1) P l (encs x) F fun e h=>(e=.returned (.bool true)/\J (d++[x]) h/\Kp F h)\/(e=.returned (.bool false)/\D (d++[x]) h))->
  J [] W->
  CallsIn cZ n P g (#[.func (.yield l) #[] #[]]++lb) W fun e h=>(∃v,e=.returned v)/\((∃G,H G/\J G h)\/∃d,D d h)
theorem bBz {α:Type} {n:Nat} {P:Program} {g:Operand} {ps:Array Tmp} {assign body:Code} {Q:Exit->Act->World->Prop} {a:Act} {w:World}
  (h1:1<=n) {gf:Nat} {lb:Array Value} (hg:a.eval g=.func (.func gf) #[] lb) (eg:∀args w,(callFunc gf args).run P w=.ok (.enter gf args) w)
  {encs:α->Array Value} {Ri Kp:World->World->Prop} {Ok:World->Prop} {Pre:List α->α->Prop} {b5:List α->Prop} {w0:World} (b8:aIq (n-1) P gf lb encs Ri Kp Ok Pre b5 w0) (b6:Below w0.heap.size w0 w) (b9:∀x,(encs x).size=ps.size)
  (b1:∀{A B C:World},Kp A B->Kp B C->Kp A C) (b2:∀A B,bW none A B->Kp A B) (Y:∀A B,bW none A B->Ri A B)
  (I:List α->World->Prop) (Ix:Code->List α->World->Prop) (hI:∀s A B,I s A->Below w.heap.size A B->Ri A B->I s B) (a7:∀c s A B,Ix c s A->Below w.heap.size A B->Ri A B->Ix c s B) (h0:I [] w) (c0:∀s A,I s A->Ok A)
  (Ax:α->Act->World->Prop) (c1:∀x T A A',Ax x T A->bW none A A'->Ax x T A')
  (c2:∀(l:Nat) (d:List α) (x:α) (W:World) (K:Act->World->Prop),I d W->w.heap.size<=W.heap.size->Pre d x->(∀T W',Below W.heap.size W W'->Ax x T W'->K T W')->
   assign.wpIn (cZ.inRound l) (n-1-1) P (Exit.then K (fun _ _ _=>False)) {tmps:=(ps.zip (encs x)).foldl (fun t (p,v)=>t.setIfInBounds p v) a.tmps,defers:=[]} W)
  (hbody:∀(l:Nat) (d:List α) (x:α) (T:Act) (W:World),I d W->w.heap.size<=W.heap.size->Pre d x->Ax x T W->body.wpIn (cZ.inRound l) (n-1-1) P (ownPostG w.heap.size Kp I Ix (d++[x]) W) T W)
  (hdone:∀(D:Nat) (xs:List α) (W:World),w.heap.size<=D->b5 xs->I xs W->W.heap[D]? =some (.deferred (some []))->Q .normal {a with defers:={target:=.collected D,args:=#[]}::a.defers} W)
  (hstop:∀(D:Nat) (c:Code) (d:List α) (W:World),w.heap.size<=D->Ix c d W->W.heap[D]? =some (.deferred (some []))->c.wpIn cZ n P Q {a with defers:={target:=.collected D,args:=#[]}::a.defers} W):
  (Code.rangeFunc g ps assign body).wpIn cZ n P Q a w:=by
 refine wpIn_rangeFunc ?_;intro fn c3;rw[show cZ.round=none from rfl];obtain⟨F,U⟩:∃F:LoopState->Option Code->Loop,F=fun st pe=>{state:=st,pending:=pe,fn,tmps:=a.tmps,params:=ps,assign,body,defers:=w.heap.size}:=⟨_,rfl⟩
 obtain⟨J,a8⟩:∃J,(w.alloc (.deferred (some []))).alloc (.loop (F .ready none))=J:=⟨_,rfl⟩;have c4:J.heap[w.heap.size+1]? =some (.loop (F .ready none)):=by
  rw[<-a8];have:=AZ (w.alloc (.deferred (some []))) (.loop (F .ready none));rwa[fP] at this
 have c5:J.heap[w.heap.size]? =some (.deferred (some [])):=by
  rw[<-a8];exact(Below.heap_alloc _ _ _ (by simp)).trans (AZ w _)
 have b3:Below w.heap.size w J:=by rw[<-a8];exact((aH _ w).alloc (aD _) _).alloc (by simp) _
 have c6:I [] J:=hI _ _ _ h0 b3 (Y _ _ (bW.of_below b3));have d6:J.heap.size=w.heap.size+2:=by rw[<-a8];simp
 have c7:Below w0.heap.size w0 J:=b6.trans (b3.mono b6.size);have a0:∀(A:World) (l:Nat) (o o':Obj),w.heap.size<=l->A.heap[l]? =some o->o.isCells=false->o.isWalk=false->Below w.heap.size A (A.putObj l o'):=fun A l o o' H h k1 k2=>belowK_b (w:=w) (aD _) A l o o' H h k1 k2
 refine⟨w.heap.size+1,[{target:=.collected w.heap.size,args:=#[]}],J,{target:=.fn (.func gf) lb,args:=#[.func (.yield (w.heap.size+1)) #[] #[]]},J,gf,
  #[.func (.yield (w.heap.size+1)) #[] #[]]++lb,J,?_,?_,?_,?_,fun _=>h1,?_⟩
 ·rw[<-a8,U];exact run_enterLoop_outer _ _ _ _ _
 ·simp only[resolve,hg];simp[go_sem]
 ·exact fun _ _=>trivial
 ·simp[invoke,go_sem,eg]
 ·have a9:∀{A B:World} {k:Nat} {o:Obj},Below J.heap.size A B->k<J.heap.size->A.heap[k]? =some o->B.heap[k]? =some o:=fun h Z ho=>(h.block _ Z).trans ho
  refine(b8 (w.heap.size+1)
   (fun d W=>I d W/\W.heap[w.heap.size+1]? =some (.loop (F .ready none))/\W.heap[w.heap.size]? =some (.deferred (some [])))
   (fun d W=>∃c,Ix c d W/\W.heap[w.heap.size+1]? =some (.loop (F .done (some c)))/\W.heap[w.heap.size]? =some (.deferred (some [])))
   J c7
   (fun s A B hs a1 O=>⟨hI s A B hs.1 (a1.mono (by omega)) O,a9 a1 (by omega) hs.2.1,a9 a1 (by omega) hs.2.2⟩)
   (fun s A B hs a1 O=>by
    obtain⟨c,hc,H,Z⟩:=hs;exact⟨c,a7 c s A B hc (a1.mono (by omega)) O,a9 a1 (by omega) H,a9 a1 (by omega) Z⟩)
   (fun s A hs=>c0 s A hs.1) ?_ ⟨c6,c4,c5⟩).mono ?_
  ·rintro d x W ⟨hi,H,Z⟩ d7 b7;have c8:w.heap.size+1<W.heap.size:=(fE.1 H).1;have hy:=run_yield (P:=P) (args:=encs x) H (by rw[U];exact b9 x);rw[U] at hy;refine⟨fn,_,assign,body,hy,roundIn_of_wpIn c3 (c2 _ d x W _ hi (by omega) b7 ?_)⟩;clear hy;intro T Wa a6 c9;have b0:Wa.heap[w.heap.size+1]? =some (.loop (F .ready none)):=(a6.block _ c8).trans H;have d0:Wa.heap[w.heap.size]? =some (.deferred (some [])):=(a6.block _ (by omega)).trans Z;have d1:w.heap.size+1<Wa.heap.size:=(fE.1 b0).1
   have d2:I d Wa:=hI _ _ _ hi (a6.mono (by omega)) (Y _ _ (bW.of_below a6));refine⟨_,run_beginRound b0 (by rw[U]),?_⟩;have d3:(Wa.putObj (w.heap.size+1) (.loop {F .ready none with state:=.busy})).heap[w.heap.size+1]? =some (.loop {F .ready none with state:=.busy}):=BA d1;have d4:(Wa.putObj (w.heap.size+1) (.loop {F .ready none with state:=.busy})).heap[w.heap.size]? =some (.deferred (some [])):=(qA (by omega)).trans d0
   have b4:∀bo,bW bo Wa (Wa.putObj (w.heap.size+1) (.loop {F .ready none with state:=.busy})):=fun bo=>bW.putObj _ _ b0 rfl
   refine wpIn_mono (hbody _ d x T _ (hI _ _ _ d2 (a0 _ _ _ _ (by omega) b0 rfl rfl) (Y _ _ (b4 none))) (by have:=a6.size;simp;omega) b7 (c1 _ _ _ _ c9 (b4 none))) ?_;have fin:∀(L:Option Code) (M:World),KeepsFrom w.heap.size (Wa.putObj (w.heap.size+1) (.loop {F .ready none with state:=.busy})) M->
     (Instr.endRound (w.heap.size+1) L).run P M=.ok (.bool L.isNone) (M.putObj (w.heap.size+1) (.loop (F (if L.isNone then .ready else .done) L)))/\
     M.heap[w.heap.size+1]? =some (.loop {F .ready none with state:=.busy})/\
     (M.putObj (w.heap.size+1) (.loop (F (if L.isNone then .ready else .done) L))).heap[w.heap.size+1]? =some (.loop (F (if L.isNone then .ready else .done) L))/\
     (M.putObj (w.heap.size+1) (.loop (F (if L.isNone then .ready else .done) L))).heap[w.heap.size]? =some (.deferred (some [])):=fun L M V=>by
    have G:=V.same _ _ (by omega) d3 rfl;have:=run_endRound (P:=P) L G;rw[U] at this ⊢;exact⟨this,by rw[U] at G;exact G,BA (fE.1 G).1,(qA (by omega)).trans (V.same _ _ (aD _) d4 rfl)⟩
   rintro e a3 M hp
   cases e with
   |normal=>
    obtain⟨V,d5,a2⟩:=hp;obtain⟨O,G,a4,a5⟩:=fin none M V;exact⟨_,_,O,.inl ⟨rfl,⟨hI _ _ _ a2 (a0 _ _ _ _ (by omega) G rfl rfl) (Y _ _ (bW.putObj _ _ G rfl)),a4,a5⟩,b1 (b2 _ _ (bW.of_below a6)) (b1 (b2 _ _ (b4 none)) (b1 d5 (b2 _ _ (bW.putObj _ _ G rfl))))⟩⟩
   |ret=>
    obtain⟨V,a2⟩:=hp;obtain⟨O,G,a4,a5⟩:=fin (some .ret) M V;exact⟨_,_,O,.inr ⟨rfl,.ret,a7 _ _ _ _ a2 (a0 _ _ _ _ (by omega) G rfl rfl) (Y _ _ (bW.putObj _ _ G rfl)),a4,a5⟩⟩
   |exit id=>
    obtain⟨V,a2⟩:=hp;obtain⟨O,G,a4,a5⟩:=fin (some (.exit id)) M V;exact⟨_,_,O,.inr ⟨rfl,.exit id,a7 _ _ _ _ a2 (a0 _ _ _ _ (by omega) G rfl rfl) (Y _ _ (bW.putObj _ _ G rfl)),a4,a5⟩⟩
   |goto t=>
    obtain⟨V,a2⟩:=hp;obtain⟨O,G,a4,a5⟩:=fin (some (.goto t)) M V;exact⟨_,_,O,.inr ⟨rfl,.goto t,a7 _ _ _ _ a2 (a0 _ _ _ _ (by omega) G rfl rfl) (Y _ _ (bW.putObj _ _ G rfl)),a4,a5⟩⟩
   |panic ch=>exact hp.elim
   |outgrown=>exact hp.elim
  ·rintro e W2 ⟨⟨v,rfl⟩,(⟨xs,hS,hi,H,Z⟩|⟨d,c,hi,H,Z⟩)⟩
   ·exact⟨none,_,by have:=run_endLoop (P:=P) H (by rw[U];simp);rw[U] at this;exact this,hdone _ xs _ (aD _) hS (hI _ _ _ hi (a0 _ _ _ _ (by omega) H rfl rfl) (Y _ _ (bW.putObj _ _ H rfl))) ((qA (by omega)).trans Z)⟩
   ·exact⟨some c,_,by have:=run_endLoop (P:=P) H (by rw[U];simp);rw[U] at this;exact this,hstop _ c d _ (aD _) (a7 _ _ _ _ hi (a0 _ _ _ _ (by omega) H rfl rfl) (Y _ _ (bW.putObj _ _ H rfl))) ((qA (by omega)).trans Z)⟩
theorem Bld.drew {w:World} {B b:Nat} {l:List UInt8} (h:Bld w B b l):Bld w.drew B b l:=h
theorem Bld.drewN {w:World} {B b:Nat} {l:List UInt8} (h:Bld w B b l) (n:Nat):Bld (w.drewN n) B b l:=h
theorem aHj (b A:Nat) (c:UInt8) (n M:Nat) (X:List UInt8) (w:World) (h:Bld w b b X) (H:w.cell? ⟨A,0,none⟩=some (.int .i64 (M:Int))) (I:A<b) (a2:b<w.heap.size) (hM:M<=1000000) (J:X.length<=M+1) (hn:n<=255):
  Calls pG 161 #[.int .u8 (c.toNat:Int),.int .i64 (n:Int),.pointer (some ⟨b,0,none⟩),.pointer (some ⟨A,0,none⟩)] w fun e w'=>e=.returned (.tuple #[])/\Bld w' b b ((X++aX n c).take (M+1))/\Below b w w':=by
 go_enter func161,ntmps161;go_wp2_with fail
 go_loopg [7] n (fun g L wr=>∃(k:Nat) (Y:List UInt8),k<=n/\g=n-k/\L=.int .i64 (k:Int)/\Hid (Y=(X++aX k c).take (M+1))/\Bld wr b b Y/\Below b w wr)
 case atStart=>exact⟨0,X,aO _,rfl,rfl,hid (by rw[List.replicate_zero,List.append_nil,cD J]),h,aH _ _⟩
 case round=>
  obtain⟨k,Y,O,D,rfl,F,G,d⟩:=hrel;have T:=hid D;clear D
  by_cases a3:k<n
  ·have U:decide ((k:Int)<(n:Int))=true:=aG (by omega);have c1:=(d.cell (p:=⟨A,0,none⟩) I).trans H;have a4:max (M:Int) 0=(M:Int):=by omega
   have V:=G.drew;have a5:=d.size;go_wp2_with fail
   by_cases Z:M<Y.length
   ·have t2:decide ((M:Int)<(Y.length:Int))=true:=aG (by omega);have t3:decide ((Y.length:Int)>(M:Int))=true:=aG (by omega)
    go_region_with (go_at_call 162;refine(MQ b b Y _ (by assumption)).mono ?_;rintro e w1 ⟨rfl,rfl⟩)
    all_goals
     go_wp2_with fail
     first|go_end0|refine bodyPost_ret (results_none rfl _ _ _) rfl ?_
     exact⟨rfl,by rw[aU3 O F.out Z];exact G,d.drew⟩
   ·have t2:decide ((M:Int)<(Y.length:Int))=false:=aE (by omega);have t3:decide ((Y.length:Int)>(M:Int))=false:=aE (by omega);have a0:=aHi b b Y c wr.drew V (by omega) (by show b<=wr.heap.size;omega)
    go_region_with (go_at_call 162;refine(MQ b b Y _ (by assumption)).mono ?_;rintro e w1 ⟨rfl,rfl⟩)
    all_goals
     go_wp2_with fail;refine a0.mono ?_;rintro e w2 ⟨rfl,h2,b2,_⟩;go_wp2_with fail;have D:=T.out
     go_roundg (n-(k+1))
     case measure=>omega
     case rel=>exact⟨k+1,Y++[c],by omega,rfl,by go_num,hid (aU4 F.out (by omega)),h2,d.drew.trans b2⟩
  ·have U:decide ((k:Int)<(n:Int))=false:=aE (by omega);have a1:k=n:=by omega
   subst a1;go_wp2_with fail
   go_end0
   exact⟨rfl,by rw[<-F.out];exact G,d⟩
theorem MR (w:World):Bld (w.alloc (.cells #[.pointer none,.slice none 0 0] 239)) w.heap.size w.heap.size []:=Lib.IsBuilderF.of (Lib.fresh_isBuilder 239 5 w)
theorem bAm (s:ByteArray) (M:Nat) (w:World) (hs:s.size<=1000000) (hM:M<=1000000):
  Calls pG 146 #[.string s,.int .i64 (M:Int)] w fun e w'=>e=.returned (.tuple #[.string (mkS (jX s.data.toList M).1),.int .i64 (jX s.data.toList M).2])/\Below w.heap.size w w':=by
 have HL:=hid (show s.data.toList.length=s.size by simp);have b6:∀(fn:Fn) (first cap:Array Value) (w:World),(Instr.makeFunc fn first cap).run pG w=.ok (.func fn first cap) w:=fun _ _ _ _=>rfl
 have hE:∀args W,(callFunc 161 args).run pG W=.ok (.enter 161 args) W:=enters_of func161 (by kernel_rfl) rfl;go_enter func146,ntmps146;go_wp2_with fail;have a2:=MR (w.alloc (.cells #[.int .i64 (M:Int)] 3));rw[fP] at a2;have a7:((w.alloc (.cells #[.int .i64 (M:Int)] 3)).alloc (.cells #[.pointer none,.slice none 0 0] 239)).cell? ⟨w.heap.size,0,none⟩=some (.int .i64 (M:Int)):=((Arr.new w 3 [.int .i64 (M:Int)]).alloc _).cell (i:=0) rfl
 have b7:((w.alloc (.cells #[.int .i64 (M:Int)] 3)).alloc (.cells #[.pointer none,.slice none 0 0] 239)).heap.size=w.heap.size+1+1:=by simp
 have a0:Below w.heap.size w ((w.alloc (.cells #[.int .i64 (M:Int)] 3)).alloc (.cells #[.pointer none,.slice none 0 0] 239)):=((aH _ w).alloc (aD _) _).alloc (by simp) _;generalize (w.alloc (.cells #[.int .i64 (M:Int)] 3)).alloc (.cells #[.pointer none,.slice none 0 0] 239)=w0 at*
 go_loopg [8,9,10,14] s.size (fun g s8 s9 _s10 a8 wr=>∃(k r:Nat) (c:UInt8) (o:List UInt8),k<=s.size/\g=s.size-k/\a8=.int .i64 (k:Int)/\s8=.int .i64 (r:Int)/\s9=.int .u8 (c.toNat:Int)/\r<=4/\Hid (eX s.data.toList=(unS r c (s.data.toList.drop k)).map (o++·))/\Bld wr (w.heap.size+1) (w.heap.size+1) (o.take (M+1))/\Below (w.heap.size+1) w0 wr)
 case atStart=>exact⟨0,0,0,[],aO _,rfl,rfl,rfl,rfl,by omega,hid (aUx _),a2,aH _ _⟩
 case round=>
  obtain⟨k,r,c,o,hk,U,rfl,rfl,rfl,b8,HO,V,G⟩:=hrel;have HG:=hid U;clear U;have a3:=(G.cell (p:=⟨w.heap.size,0,none⟩) (by show w.heap.size<w.heap.size+1;omega)).trans a7;have b9:=G.size;have a4:(o.take (M+1)).length<=M+1:=by rw[aQ];omega
  by_cases a9:k<s.size
  ·have t1:decide ((k:Int)<(s.size:Int))=true:=aG (by omega);have hb:=s[k].toNat_lt;have Z:s.data.toList.drop k=s[k]::s.data.toList.drop (k+1):=by
    obtain⟨h1,H⟩:=List.getElem?_eq_some_iff.1 (fW s k a9);rw[List.drop_eq_getElem_cons h1,H]
   have F:=HO.out;rw[Z] at F
   by_cases L:r=4
   ·subst L;have t2:decide (((4:Nat):Int)=4)=true:=by decide
    have O:=hid (aUy F);have A:=fun(n:Nat) hn=>aHj (w.heap.size+1) w.heap.size c n M (o.take (M+1)) wr V a3 (by omega) (by omega) hM a4 hn
    have D:=A s[k].toNat (by omega);rw[LN] at D;clear A Z F;go_wp2_with fail;refine D.mono ?_;rintro e w2 ⟨rfl,H,I⟩;go_wp2_with fail;have U:=HG.out
    go_roundg (s.size-(k+1))
    case measure=>omega
    case rel=>exact⟨k+1,0,c,_,by omega,rfl,by go_num,rfl,rfl,by omega,O,H,G.trans I⟩
   ·have t2:decide ((r:Int)=4)=false:=aE (by omega);have b0:((r:Int)==4)=false:=by rw[cB];omega
    have A:=fun(d:UInt8)=>aHj (w.heap.size+1) w.heap.size d 1 M (o.take (M+1)) wr V a3 (by omega) (by omega) hM a4 (by omega)
    by_cases h0:0<r
    ·have t3:decide ((0:Int)<(r:Int))=true:=aG (by omega);have b1:decide ((r:Int)>0)=true:=aG (by omega)
     by_cases T:s[k]=c
     ·have t4:((s[k].toNat:Int)==(c.toNat:Int))=true:=by rw[T];simp
      have b3:decide ((s[k].toNat:Int)=(c.toNat:Int))=true:=aG (by rw[T]);rw[T] at F;have O:=hid (aUz F h0 L);have D:=A c;rw[LN] at D;have m1:IntKind.i64.wrap ((r:Int)+1)=((r+1:Nat):Int):=by rw[IntKind.wrap_i64];omega
      clear A Z F T;go_wp2_with fail;refine D.mono ?_;rintro e w2 ⟨rfl,H,I⟩;go_wp2_with fail;have U:=HG.out
      go_roundg (s.size-(k+1))
      case measure=>omega
      case rel=>exact⟨k+1,r+1,c,_,by omega,rfl,by go_num,by go_num,rfl,by omega,O,H,G.trans I⟩
     ·have a1:(s[k].toNat:Int)≠(c.toNat:Int):=fun e=>T (tH.1 (by omega))
      have t4:((s[k].toNat:Int)==(c.toNat:Int))=false:=by rw[cB];exact a1
      have b3:decide ((s[k].toNat:Int)=(c.toNat:Int))=false:=aE a1;have O:=hid (aDg F L (by rintro⟨_,h⟩;exact T h));have D:=A s[k];rw[LN] at D;clear A Z F T a1;go_wp2_with fail;refine D.mono ?_;rintro e w2 ⟨rfl,H,I⟩;go_wp2_with fail;have U:=HG.out
      go_roundg (s.size-(k+1))
      case measure=>omega
      case rel=>exact⟨k+1,1,s[k],_,by omega,rfl,by go_num,rfl,rfl,by omega,O,H,G.trans I⟩
    ·have t3:decide ((0:Int)<(r:Int))=false:=aE (by omega);have b1:decide ((r:Int)>0)=false:=aE (by omega);have O:=hid (aDg F L (by rintro⟨h,_⟩;exact h0 h));have D:=A s[k];rw[LN] at D;clear A Z F;go_wp2_with fail;refine D.mono ?_;rintro e w2 ⟨rfl,H,I⟩;go_wp2_with fail;have U:=HG.out
     go_roundg (s.size-(k+1))
     case measure=>omega
     case rel=>exact⟨k+1,1,s[k],_,by omega,rfl,by go_num,rfl,rfl,by omega,O,H,G.trans I⟩
  ·have t1:decide ((k:Int)<(s.size:Int))=false:=aE (by omega);have J:=HO.out;rw[List.drop_eq_nil_of_le (by rw[HL.out];omega)] at J;have J:=aU0 J
   by_cases L:r=4
   ·subst L;have t2:decide (((4:Nat):Int)=4)=true:=by decide
    rw[aB rfl] at J;have HE:=hid (aDh (most:=(M:Int)) J);clear J;go_wp2_with fail
    go_ret2
    exact⟨by rw[HE.out];rfl,a0.trans (G.mono (by omega))⟩
   ·have t2:decide ((r:Int)=4)=false:=aE (by omega);have b0:((r:Int)==4)=false:=by rw[cB];omega
    rw[aA L] at J;have Y:=SJ (most:=(M:Int)) J;clear J;have b4:∀n,Bld (wr.drewN n) (w.heap.size+1) (w.heap.size+1) (o.take (M+1)):=fun n=>V.drewN n
    by_cases c0:M<o.length
    ·rw[aB (by omega)] at Y;have HE:=hid Y;clear Y;have a5:(o.take (M+1)).length=M+1:=by rw[aQ];omega
     have t5:decide ((M:Int)<((M+1:Nat):Int))=true:=aG (by omega);have t6:decide (((M+1:Nat):Int)>(M:Int))=true:=aG (by omega);have a6:=V.drew;have b5:=hid a5;clear a5;go_wp2_with fail
     go_region_with (go_at_call 162;refine(MQ (w.heap.size+1) (w.heap.size+1) (o.take (M+1)) _ (by assumption)).mono ?_;rintro e w1 ⟨rfl,rfl⟩;rw[b5.out])
     all_goals
      go_wp2_with fail
      go_ret2
      exact⟨by rw[HE.out];rfl,a0.trans ((G.mono (by omega)).drew)⟩
    ·rw[aA (by omega)] at Y;have HE:=hid Y;clear Y;rw[cD (by omega)] at V b4;have t5:decide ((M:Int)<(o.length:Int))=false:=aE (by omega);have t6:decide ((o.length:Int)>(M:Int))=false:=aE (by omega);have a6:=V.drew;have A:=MP (w.heap.size+1) (w.heap.size+1) o wr.drew a6 (by show w.heap.size+1<=wr.heap.size;omega);go_wp2_with fail
     go_region_with (go_at_call 162;refine(MQ (w.heap.size+1) (w.heap.size+1) o _ (by assumption)).mono ?_;rintro e w1 ⟨rfl,rfl⟩)
     all_goals
      go_wp2_with fail;refine A.mono ?_;rintro e w2 ⟨rfl,_,I,_⟩;go_wp2_with fail
      go_ret2
      exact⟨by rw[HE.out];rfl,a0.trans (((G.drew).trans I).mono (by omega))⟩
end
end Go.Proofs.YtfplbbphficcjaaGreatDoor
