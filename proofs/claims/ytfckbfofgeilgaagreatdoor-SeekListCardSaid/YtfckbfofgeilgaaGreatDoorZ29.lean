/-
  Texts put together (part 29): the walks and the plain laws on which the statement stands.
-/
import Derived.Sort.MapsRangeIn
import Derived.Sort.OwnSorted
import Derived.Laws.EntriesVeiled
import Derived.Test.YtfckbfofgeilgaaGreatDoorZ26
set_option maxRecDepth 100000
set_option maxHeartbeats 12800000
set_option linter.unusedVariables false
set_option linter.unusedSimpArgs false
open Go.Proofs.Tryz
open Go.Proofs.Tryz renaming prog->pG
open And renaming intro->tK
open Array renaming extract_eq_self_of_le->bS3,getElem?_eq_some_iff->fE,getElem?_toList->OG,replicate_succ->jG,replicate_zero->jH
open Go renaming CallsIn->iV,MemPlace->bMu,bodyPost_ret->fM,callsIn_of_wp->pX,results_none->tI
open Go.Act renaming put->bJ
open Go.Fence renaming wide->cZ
open Go.Proofs renaming enters_of->gQ
open Go.RowKit.Below renaming refl->aH
open Go.World renaming block_lt_of_cell?->gV,cell?->bNv,size_alloc->fP
open Go.World.ownsRow renaming kept->yJ
open List renaming append_toArray->jJ,cons_append->fF,ext_getElem?->lH,flatten_cons->kW,getElem?_cons_succ->gH,getElem?_cons_zero->gB,getElem?_eq_getElem->aN,getElem?_eq_none->fZ,getElem?_eq_some_iff->eF,getElem?_take_of_lt->pW,getElem?_toArray->gA,length_append->aL,length_cons->aU,length_map->aS,length_nil->aV,map_cons->kI,mem_of_getElem?->cN,nil_append->eL,pairwise_iff_getElem->DH,push_toArray->jI,setIfInBounds_toArray->bK,set_cons_succ->bB,set_cons_zero->bH,size_toArray->dB,take_add_one->cG
open Nat renaming le_refl->aD,le_trans->aR,lt_or_ge->cF,reduceAdd->cV,reduceSub->dC,zero_le->aO
open Option.some renaming inj->cC
namespace Go.Proofs.YtfckbfofgeilgaaGreatDoor
section
open Go.RowKit Go Go.Shelf
attribute [local go_sem] Oper.semAt_some
def bL7 (A B:World):Prop:=A.heap.size<=B.heap.size/\∀(k:Nat) (o:Obj),A.heap[k]? =some o->bN1 o=false->B.heap[k]? =some o
theorem bL7.of_below (A B:World) (h:Below A.heap.size A B):bL7 A B:=⟨h.size,fun k _ d _=>(h.block k (fE.1 d).1).trans d⟩
theorem bL7.put (A:World) (l:Nat) (o F:Obj) (h:A.heap[l]? =some o) (G:bN1 o=true):bL7 A (A.putObj l F):=
 ⟨by simp[World.putObj],fun k q d D=>by
  by_cases e:k=l
  ·subst e;rw[h] at d
   cases d
   rw[G] at D
   cases D
  ·exact(World.putObj_heap_other e).trans d⟩
theorem bL7.cells {A B:World} (h:bL7 A B):bW none A B:=⟨h.1,fun k o d e _=>h.2 k o d (by cases o<;>first|rfl|cases e)⟩
def KpH (N:Nat) (A B:World):Prop:=A.heap.size<=B.heap.size/\∀(k:Nat) (o:Obj),A.heap[k]? =some o->(k<N/\o.isCells=true\/o.isWalk=true)->B.heap[k]? =some o
theorem KpH.refl (N:Nat) (A:World):KpH N A A:=⟨aD _,fun _ _ h _=>h⟩
theorem KpH.trans {N:Nat} {A B C:World} (h:KpH N A B) (k:KpH N B C):KpH N A C:=⟨aR h.1 k.1,fun i o e d=>k.2 i o (h.2 i o e d) d⟩
theorem KpH.of_obj {N:Nat} (A B:World) (h:bL7 A B):KpH N A B:=⟨h.1,fun k o e d=>h.2 k o e (by rcases d with⟨_,d⟩|d<;>cases o<;>first|rfl|cases d)⟩
theorem KpH.of_below {N:Nat} {A B:World} (h:Below A.heap.size A B):KpH N A B:=.of_obj _ _ (.of_below _ _ h)
theorem KpH.cell {N:Nat} {A B:World} (h:KpH N A B) {p:Addr} {v:Value} (D:p.block<N) (d:A.cell? p=some v):B.cell? p=some v:=by
 unfold bNv at d ⊢
 cases e:A.heap[p.block]? with
 |none=>rw[e] at d;simp at d
 |some o=>
  have F:o.isCells=true:=by
   rw[e] at d
   cases o<;>simp_all [Obj.isCells]
  rw[h.2 _ _ e (.inl ⟨D,F⟩)];rw[e] at d;exact d
theorem KpH.arr {N:Nat} {A B:World} (h:KpH N A B) {b e:Nat} {l:List Value} (d:b<N) (D:Arr A b e l):Arr B b e l:=h.2 b _ D (.inl ⟨d,rfl⟩)
def bL8 (h:Hld):Array Value:=#[.agg (mX h).toArray]
theorem bQh (n:Nat) (hn:3<=n) (l O N:Nat) (v:Value) (H:List Hld) (J Jx:List Hld->World->Prop) (d:World) (a4:∀s A B,J s A->Below d.heap.size A B->bW none A B->J s B)
  (hY:∀D x W1,J D W1->d.heap.size<=W1.heap.size->(∃r,H=D++x::r)->YieldAt cZ (n-1) pG l (bL8 x) W1 fun e F=>(e=.returned (.bool true)/\J (D++[x]) F/\KpH N W1 F)\/(e=.returned (.bool false)/\Jx (D++[x]) F))
  (W:World) (a0:W=d) (b3:O<N) (b4:N<=W.heap.size) (hA:Arr W O 35 [v]) (w0:World) (b5:w0.heap.size<=N) (hr:RdR w0 v (H.map mX)) (R:Below w0.heap.size w0 W) (h0:J [] W):
  iV cZ n pG 135 #[.func (.yield l) #[] #[],.pointer (some ⟨O,0,none⟩)] W fun e F=>(∃v,e=.returned v)/\(J H F\/∃D,Jx D F):=by
 obtain⟨a,ca,rfl,b6,a5,hC⟩:=bLm hr;unfold maxLen at a5;have a6:d.heap.size<=W.heap.size:=by rw[a0];exact aD _
 have U:=hA.cell (i:=0) rfl;clear hr a0;refine pX func135 rfl trivial ?_ rfl;simp only[ntmps135,dB,aU,aV,cV,dC,jG,jH,jI,jJ,eL,fF]
 gi_wp2_with fail
 gi_loopg [4,7] H.length (fun g _s4 s7 wr=>∃k:Nat,k<=H.length/\g=H.length-k/\s7=.int .i64 (k:Int)/\J (H.take k) wr/\KpH N W wr/\d.heap.size<=wr.heap.size)
 case atStart=>exact⟨0,aO _,rfl,rfl,h0,KpH.refl _ _,a6⟩
 case round=>
  obtain⟨k,hk,V,rfl,I,G,a7⟩:=hrel;have HG:=hid V;clear V U h0
  by_cases a8:k<H.length
  ·have t1:decide ((k:Int)<(H.length:Int))=true:=aG (by omega);obtain⟨b,off,rfl,Y,hc⟩:=hC (by omega);obtain⟨x,L⟩:∃x,H[k]? =some x:=⟨_,aN a8⟩;obtain⟨x0,x1,x2⟩:=hc k x L;have U:=G.cell (p:=⟨b,off+k*3,none⟩) (by show b<N;omega) ((R.cell (p:=⟨b,off+k*3,none⟩) Y).trans x0);have c1:=G.cell (p:=⟨b,off+k*3+1,none⟩) (by show b<N;omega) ((R.cell (p:=⟨b,off+k*3+1,none⟩) Y).trans x1);have c2:=G.cell (p:=⟨b,off+k*3+2,none⟩) (by show b<N;omega) ((R.cell (p:=⟨b,off+k*3+2,none⟩) Y).trans x2);have HT:=hid (show H.take (k+1)=H.take k++[x] by rw[cG,L];rfl)
   have a9:=hid (show ∃r,H=H.take k++x::r from⟨H.drop (k+1),by
    obtain⟨b0,ek⟩:=eF.1 L
    conv=>lhs;rw[<-List.take_append_drop k H,List.drop_eq_getElem_cons b0,ek]⟩)
   have a1:=a4 _ _ (wr.alloc (.cells #[.int .i64 x.b,.int .i64 x.s,.string x.t] 113)) I ((bD (aH wr.heap.size wr) _).mono a7) (bW.of_below (bD (aH _ _) _));have a2:d.heap.size<=(wr.alloc (.cells #[.int .i64 x.b,.int .i64 x.s,.string x.t] 113)).heap.size:=by simp;omega
   obtain⟨fn,tmps,assign,body,hy,hR⟩:=hY (H.take k) x _ a1 a2 a9.out;have a3:KpH N wr (wr.alloc (.cells #[.int .i64 x.b,.int .i64 x.s,.string x.t] 113)):=.of_below (bD (aH _ _) _);unfold bL8 mX at hy;clear hc hC x0 x1 x2 L I a1
   gi_wp2_with fail
   refine⟨fun _=>by omega,hR.mono ?_⟩;rintro e W3 (⟨rfl,M,Z⟩|⟨rfl,M⟩)
   rotate_left
   ·gi_wp2_with fail
    refine fM (tI rfl _ _ _) rfl ?_;exact⟨⟨_,rfl⟩,.inr ⟨_,M⟩⟩
   have b1:=G.trans (a3.trans Z);have b2:d.heap.size<=W3.heap.size:=aR a2 Z.1;rw[<-HT.out] at M;clear hy hR a3 Z G U c1 c2
   gi_wp2_with fail
   have V:=HG.out
   gi_roundg (H.length-(k+1))
   ·exact⟨k+1,by omega,rfl,by go_num,M,b1,b2⟩
   ·omega
  ·have t1:decide ((k:Int)<(H.length:Int))=false:=aE (by omega);rw[List.take_of_length_le (by omega)] at I
   gi_wp2_with fail
   go_end0
   exact⟨⟨_,rfl⟩,.inl I⟩
theorem bQi {w w':World} {k b r n:Nat} {R:Value->Option (DataW Unit×List bMu)} {D:DataW Unit} {F:Lit->Bool} {G:Nat} (h:w.ranges pG k R b r n D F G) (A:w.grownBy w' (some r)):bW none w w':=by
 obtain⟨L,clock,M,O,U,_,_,_,_,I,_⟩:=h;refine⟨A.size,fun i o d J _=>?_⟩
 by_cases e:i=r
 ·subst e;rw[I] at d
  cases d
  cases J
 ·exact(A.block i (fE.1 d).1 (fun q=>e (cC q))).trans d
theorem bQj {N:Nat} {w w':World} {k b r n:Nat} {R:Value->Option (DataW Unit×List bMu)} {D:DataW Unit} {d:Lit->Bool} {e:Nat} (h:w.ranges pG k R b r n D d e) (A:KpH N w w'):w'.ranges pG k R b r n D d e:=by
 obtain⟨F,clock,G,I,J,L,M,O,U,V,rest⟩:=h;exact⟨F,clock,G,I,J,A.2 _ _ L (.inr rfl),M,O,U,A.2 _ _ V (.inr rfl),rest⟩
theorem bOs {w w':World} {B:Nat} {row:Option Nat} (d:w.grownBy w' row) (e:B<=w.heap.size) (A:∀j,row=some j->B<=j):Below B w w':=(aH B w).grown d e A
theorem bQk (n:Nat) (hn:3<=n) (l Bs N G L:Nat) (D:DataW Unit) (H:List Hld) (J Jx:List Hld->World->Prop) (F:World) (R:∀s A B,J s A->Below F.heap.size A B->bW none A B->J s B)
  (hY:∀d x W1,J d W1->F.heap.size<=W1.heap.size->(∃r,(d++x::r).Perm H)->YieldAt cZ (n-1) pG l (bL8 x) W1 fun e I=>(e=.returned (.bool true)/\J (d++[x]) I/\KpH N W1 I)\/(e=.returned (.bool false)/\Jx (d++[x]) I))
  (W:World) (a4:W=F) (hA:Arr W Bs 252 [.map (some G)]) (c6:W.ownsMap pG 3 bLu G L D) (a5:bLg D H) (hp:H.Pairwise (fun x y=>x.b<y.b)) (h0:J [] W):
  iV cZ n pG 194 #[.func (.yield l) #[] #[],.pointer (some ⟨Bs,0,none⟩)] W fun e I=>(∃v,e=.returned v)/\((∃xs,xs.Perm H/\J xs I)\/∃d,Jx d I):=by
 have a6:F.heap.size<=W.heap.size:=by rw[a4];exact aD _
 have c0:=hA.cell (i:=0) rfl;have a7:=hid a5;clear a4 a5;refine pX func194 rfl trivial ?_ rfl;simp only[ntmps194,dB,aU,aV,cV,dC,jG,jH,jI,jJ,eL,fF]
 gi_wp2_with (gi_at_range;refine wpListIn_range_own _ rfl _ 252 rfl 3 113 bLv underlying252 _ G L _ rfl c6 ?_;intro w0 a8 U c7)
 go_frame
 have a9:=R _ _ _ h0 (bOs U a6 (fun j V=>by cases V)) (bW.grownBy U);have b0:F.heap.size<=w0.heap.size:=by omega
 gi_loopw [4] (fun _s4 wr=>∃(Y:Lit->Bool) (b1:Nat) (d rest:List Hld),wr.ranges pG 3 bLu G W.heap.size L D Y b1/\Hid (bMc Y d rest H)/\J d wr/\F.heap.size<=wr.heap.size)
  (fun _ wr=>wr.rangeLeft G W.heap.size)
 case atStart=>exact⟨_,_,[],H,a8,hid (bMc.start a7.out hp),a9,b0⟩
 case round=>
  obtain⟨Y,b1,d,rest,Z,M,hJ,c8⟩:=hrel;clear U c7 a8 a9 h0 c0 b0
  gi_wp2_with (gi_at_next;refine wpListIn_next_ranges _ rfl _ rfl 3 bLv bLu (Value.int .i64) (fun x:Hld=>.agg (mX x).toArray) (fun d7 kl hk=>by obtain⟨x,hx,_⟩:=Maps.keyOf_int_inv underlying3 hk;exact⟨x,hx⟩) (fun v y hv=>by obtain⟨c,hc,_⟩:=bNy hv;exact⟨c,hc⟩) G W.heap.size L _ _ _ rfl Z ?_ ?_)
  ·intro d8 c9;have d0:=M.out.done c9
   gi_wp2_with fail
   go_end0
   exact⟨⟨_,rfl⟩,.inl ⟨_,d0,hJ⟩⟩
  ·intro x c kl yd yp O d1 b2 b3 b4 b5 b6 d2 a0 d3 b7;obtain⟨x',ex,rfl,_⟩:=Maps.keyOf_int_inv underlying3 b2
   cases ex
   rw[bM1] at b4
   cases b4
   obtain⟨h,hh,rfl⟩:=(M.out.2.1 x).1 b3;have b8:h∈H:=M.out.1.mem_iff.1 (List.mem_append_right _ hh);obtain rfl:h=c:=bNz ((a7.out.2.1 h b8 (bL6 h)).symm.trans (b5 _));obtain⟨b9,a1⟩:=M.out.step hh;have d4:=hid (show ∃r,(d++h::r).Perm H from⟨b9,by have:=a1.1;rw[List.append_assoc] at this;exact this⟩);have d5:=hid a1;have c1:=R _ _ _ hJ (bOs a0 c8 (fun j V=>by cases V;exact a6)) (bQi Z a0);have c2:=R _ _ (O.alloc (.cells #[.int .i64 h.b,.int .i64 h.s,.string h.t] 113)) c1 ((bD (aH O.heap.size O) _).mono (by omega)) (bW.of_below (bD (aH _ _) _))
   have c3:F.heap.size<=(O.alloc (.cells #[.int .i64 h.b,.int .i64 h.s,.string h.t] 113)).heap.size:=by simp;omega
   obtain⟨fn,tmps,assign,body,hy,hR⟩:=hY d h _ c2 c3 d4.out;have c4:=b6.alloc (.cells #[.int .i64 h.b,.int .i64 h.s,.string h.t] 113);unfold bL8 mX at hy;unfold mX at b7;clear d3 b2 b3 b5 hh b8 a1 hJ c1 c2 a0 b6
   gi_wp2_with fail
   refine⟨fun _=>by omega,hR.mono ?_⟩;rintro e W3 (⟨rfl,a2,a3⟩|⟨rfl,a2⟩)
   rotate_left
   ·gi_wp2_with fail
    refine fM (tI rfl _ _ _) rfl ?_;exact⟨⟨_,rfl⟩,.inr ⟨_,a2⟩⟩
   have c5:=bQj c4 a3;have d6:F.heap.size<=W3.heap.size:=aR c3 a3.1;clear hy hR a3 c4 b7
   gi_wp2_with fail
   go_roundw
   case rel=>exact⟨_,d1,d++[h],b9,c5,d5,a2,d6⟩
   case measure=>rw[c5.left_eq,Z.left_eq];exact d2
theorem bQl (n:Nat) (hn:6<=n) (gf:Nat) (lb:Array Value) (eg:∀args w,(callFunc gf args).run pG w=.ok (.enter gf args) w) (N:Nat) (Pre:List Hld->Hld->Prop) (a6:List Hld->Prop) (w:World) (hN:N<=w.heap.size) (b3:∀d x,Pre d x->d.length<=100)
  (b4:aIq (n-1) pG gf lb bL8 (bW none) (KpH N) (fun _=>True) Pre a6 w):
  iV cZ n pG 159 #[.slice none 0 0,.func (.func gf) #[] lb] w fun e w'=>∃(v:Value) (J:List Hld),e=.returned v/\a6 J/\OwR w' w.heap.size 113 3 v (J.map mX)/\Below w.heap.size w w':=by
 have h1:1<=n:=by omega
 refine callsIn_of_wp_marks func159 rfl trivial ?_ rfl;simp only[ntmps159,dB,aU,aV,cV,dC,jG,jH,jI,jJ,eL,fF]
 gi_wp2_with fail
 have a1:=Arr.new w 35 [.slice none 0 0];have a7:Below w.heap.size w (w.alloc (.cells #[.slice none 0 0] 35)):=bD (aH _ w) _;have b5:(w.alloc (.cells #[.slice none 0 0] 35)).heap.size=w.heap.size+1:=by simp
 change Arr (w.alloc (.cells #[.slice none 0 0] 35)) _ _ _ at a1;generalize w.alloc (.cells #[.slice none 0 0] 35)=w1 at*
 obtain⟨y,Y⟩:=ex1 (w.heap.size);rw[<-Y] at a1 b5 hN ⊢;have b6:y+1<=w1.heap.size:=by omega
 have b7:Below y w w1:=by rw[Y];exact a7
 have HY:=hid Y;clear Y;refine bQg (w0:=w) (Ri:=bW none) (Kp:=KpH N) (Ok:=fun _=>True) (Pre:=Pre) (encs:=bL8) h1 (gf:=gf) (lb:=lb) rfl eg
  b4 a7 (fun _=>rfl) (Ck:=bL7) (fun A B h=>bL7.of_below A B h) (fun A l o o' h k=>bL7.put A l o o' h k) (fun h k=>h.trans k) (fun _ _ h=>KpH.of_obj _ _ h) (fun _ _ h=>h.cells)
  (fun d W=>(∃v,Arr W y 35 [v]/\OwR W (y+1) 113 3 v (d.map mX))/\Below y w W/\y+1<=W.heap.size)
  (fun _ _ _=>False)
  (fun d A B ⟨⟨v,G,F⟩,L,Z⟩ a2 hk=>⟨⟨v,G.below a2 (by omega),eS.own (T:=[113]) (.of_kept hk) F (by decide)⟩,L.trans (a2.mono (by omega)),aR Z a2.size⟩)
  (fun c d A B k _ _=>k.elim)
  ⟨⟨_,a1,OwR.nil _ _ _ _⟩,b7,b6⟩ (fun _ _ _=>trivial)
  (fun x a' W=>∃g,y<g/\Arr W g 113 (mX x)/\a'={tmps:=#[.slice none 0 0,.func (.func gf) #[] lb,.pointer (some ⟨y,0,none⟩),undef,.slice none 0 0,.pointer (some ⟨g,0,none⟩),.func (.func gf) #[] lb,.agg (mX x).toArray,undef,undef,undef,undef,undef],defers:=[]})
  (fun x a' A A' ⟨g,g1,g2,g3⟩ k=>⟨g,g1,k.cells.arr g2 (by simp),g3⟩) ?assign ?body ?done ?stop
 case assign=>
  rintro l0 d x W K ⟨⟨v,G,F⟩,L,Z⟩ hB a8 M;unfold bL8 mX
  gi_wp2
  exact M _ _ (bD (aH _ _) _) ⟨_,by omega,Arr.new W 113 _,rfl⟩
 case body=>
  rintro l0 d x a' W ⟨⟨v,G,F⟩,L,Z⟩ hB a8 ⟨g,b8,a4,rfl⟩;have b9:=b3 d x a8;obtain⟨va,vc,O,-⟩:=(OwR.rd F).open (bLd d) (by decide:1<=3);obtain⟨vn,R⟩:=ex1 ((d.map mX).length);rw[<-R] at O;subst O;have c0:=G.cell (i:=0) rfl;have g0:=a4.cell (i:=0) rfl;have g1:=a4.cell (i:=1) rfl;have g2:=a4.cell (i:=2) rfl;clear R
  gi_wp2_with (gi_at_builtin;refine UY bOp rfl _ _ rfl (y+1) _ _ rfl (OwR.alloc F _) _ (mX x) rfl (Arr.new W 113 (mX x)) rfl (fun u hu=>(bLd [x] _ (by simp)).2 u hu) ?_ ?_ ?_;(simp only[aS];omega);(simp;omega);intro v3 U p1 p2 p3;(obtain⟨a3,c3,a9,-⟩:=(OwR.rd p1).open (by intro q V;rcases List.mem_append.1 V with V|V;(exact bLd d _ V);(exact bLd [x] _ (by simpa using V))) (by decide:1<=3));(obtain⟨n3,a5⟩:=ex1 ((d.map mX++[mX x]).length));rw[<-a5] at a9;subst a9;(have c1:=hid a5);clear a5;(have a0:=Arr.below (Arr.alloc G (.cells (mX x).toArray 113)) p2 (by omega));(have g0:=a0.cell (i:=0) rfl);(have e0:=a0.free 0))
  change (W.alloc (.cells (mX x).toArray 113)).grownBy U (Value.slice va vn vc).ownBlock at p3;change Below (y+1) (W.alloc (.cells (mX x).toArray 113)) U at p2;have c2:(W.alloc (.cells (mX x).toArray 113)).heap.size=W.heap.size+1:=by simp
  have c4:=p2.size;have b0:Below (y+1) W U:=((aH _ W).alloc (by omega) _).trans p2;have b1:∀(k:Nat) (o:Obj),W.heap[k]? =some o->o.isCells=false->(U.setCell ⟨y,0,none⟩ (.slice a3 n3 c3)).heap[k]? =some o:=fun k o I hc=>wP a0 _ k o (UZ (OwR.alloc F (.cells (mX x).toArray 113)) p3 k o ((Below.heap_alloc W _ k (fE.1 I).1).trans I) hc) hc
  refine⟨ND (by simp;omega) b1,⟨by simp;omega,fun k o hk I=>?_⟩,⟨_,a0.set 0 _,?_⟩,(L.trans (b0.mono (by omega))).setCell (p:=⟨y,0,none⟩) (aD _) _,by simp;omega⟩
  ·rcases I with⟨I,-⟩|I
   ·rw[heap_setCell_other U ⟨y,0,none⟩ k _ (fun q=>by have q:k=y:=q;omega)];exact(b0.block k (by omega)).trans hk
   ·exact b1 k o hk (by cases o<;>first|rfl|cases I)
  ·rw[List.map_append];exact ownsRow_setCell_below p1 (a:=⟨y,0,none⟩) (by show y<y+1;omega) _
 case done=>
  rintro D J W hD b2 ⟨⟨v,G,F⟩,L,Z⟩ M;obtain⟨va,vc,O,-⟩:=(OwR.rd F).open (bLd J) (by decide:1<=3);obtain⟨vn,R⟩:=ex1 ((J.map mX).length);rw[<-R] at O;subst O;have c0:=G.cell (i:=0) rfl;have HF:=hid b2;clear R b2
  gi_wp2_with fail
  refine⟨by simp,.inl ⟨_,_,rfl,run_takeDeferred M,?_⟩⟩;refine⟨.slice va vn vc,?_,.slice va vn vc,J,rfl,HF.out,?_,?_⟩
  ·simp[results,f159,go_sem]
  ·rw[<-HY.out];exact OwR.base (yJ F (grownBy_putObj' _ D (.deferred none)) (VA F M)) (Nat.le_succ y)
  ·have hb:=L.trans ((belowK_b (w:=w1) (aD _) _ D _ (.deferred none) hD M rfl rfl).mono (by omega));rw[HY.out] at hb;exact hb
 case stop=>
  rintro D c d W hD k M;exact k.elim
theorem bOt (n:Nat) (R:7<=n) (gf:Nat) (lb:Array Value) (F:∀args w,(callFunc gf args).run pG w=.ok (.enter gf args) w) (N:Nat) (Pre:List Hld->Hld->Prop) (A:List Hld->Prop) (w:World) (G:N<=w.heap.size) (I:∀D x,Pre D x->D.length<=100)
  (J:aIq (n-2) pG gf lb bL8 (bW none) (KpH N) (fun _=>True) Pre A w):
  iV cZ n pG 133 #[.func (.func gf) #[] lb] w fun e w'=>∃(v:Value) (d:List Hld),e=.returned v/\A d/\OwR w' w.heap.size 113 3 v (d.map mX)/\Below w.heap.size w w':=by
 refine pX func133 rfl trivial ?_ rfl;simp only[ntmps133,dB,aU,aV,cV,dC,jG,jH,jI,jJ,eL,fF]
 gi_wp2_with fail
 refine⟨trivial,fun _=>by omega,(bQl (n-1) (by omega) gf lb F N Pre A w G I (by rw[show n-1-1=n-2 by omega];exact J)).mono ?_⟩;rintro e U ⟨v,d,rfl,L,M,O⟩
 gi_wp2_with fail
 go_ret;exact⟨_,d,rfl,L,M,O⟩
theorem bQm (n:Nat) (G:3<=n) (d N:Nat) (v:Value) (H:List Hld) (w w0:World) (I:d<N) (L:N<=w.heap.size) (D:Arr w d 35 [v]) (M:w0.heap.size<=N) (O:RdR w0 v (H.map mX)) (F:Below w0.heap.size w0 w):
  aIq n pG 135 #[.pointer (some ⟨d,0,none⟩)] bL8 (bW none) (KpH N) (fun _=>True) (fun e x=>∃r,H=e++x::r) (fun R=>R=H) w:=fun l J U W A V _ _ Y Z=>
 (bQh n G l d N v H J U W V (fun e x W1 a b c=>Y e x W1 a b c) W rfl I (aR L A.size) (D.below A D.lt) w0 M O (F.trans (A.mono F.size)) Z).mono fun _ _ h=>⟨h.1,h.2.elim (fun k=>.inl ⟨_,rfl,k⟩) .inr⟩
theorem bN2 {w w':World} {k b n:Nat} {R:Value->Option (DataW Unit×List bMu)} {D:DataW Unit} (h:w.ownsMap pG k R b n D) (d:Below w.heap.size w w'):w'.ownsMap pG k R b n D:=by
 have e:=h.lt;obtain⟨A,clock,F,rest⟩:=h;exact⟨A,clock,(d.block b e).trans F,rest⟩
theorem bQn (n:Nat) (L:3<=n) (d N e F:Nat) (D:DataW Unit) (H:List Hld) (w:World) (G:Arr w d 252 [.map (some e)]) (M:w.ownsMap pG 3 bLu e F D) (O:bLg D H) (R:H.Pairwise (fun x y=>x.b<y.b)):
  aIq n pG 194 #[.pointer (some ⟨d,0,none⟩)] bL8 (bW none) (KpH N) (fun _=>True) (fun A x=>∃r,(A++x::r).Perm H) (fun U=>U.Perm H) w:=fun l J V W I Y _ _ Z h0=>
 (bQk n L l d N e F D H J V W Y (fun A x W1 a b c=>Z A x W1 a b c) W rfl (G.below I G.lt) (bN2 M I) O R h0).mono fun _ _ h=>⟨h.1,h.2⟩
theorem bQo (d A F:Nat) (D:DataW Unit) (H:List Hld) (w:World) (I:Arr w d 252 [.map (some A)]) (J:w.ownsMap pG 3 bLu A F D) (L:bLg D H) (M:H.Pairwise (fun x y=>x.b<y.b)) (O:H.length<=100):
  Calls pG 133 #[.func (.func 194) #[] #[.pointer (some ⟨d,0,none⟩)]] w fun e w'=>∃(v:Value) (G:List Hld),e=.returned v/\G.Perm H/\OwR w' w.heap.size 113 3 v (G.map mX)/\Below w.heap.size w w':=
 (callsIn_wide (n:=9)).1 (bOt 9 (by decide) _ _ (gQ func194 (by kernel_rfl) rfl) 0 _ _ w (aO _) (fun R x ⟨r,h⟩=>by have:=h.length_eq;rw[aL] at this;omega) (bQn 7 (by decide) d 0 A F D H w I J L M))
theorem bOu (d:Nat) (v:Value) (H:List Hld) (w w0:World) (I:w0.heap.size<=d) (A:Arr w d 35 [v]) (F:RdR w0 v (H.map mX)) (G:Below w0.heap.size w0 w) (J:H.length<=100):
  Calls pG 133 #[.func (.func 135) #[] #[.pointer (some ⟨d,0,none⟩)]] w fun e w'=>∃(v:Value) (D:List Hld),e=.returned v/\D=H/\OwR w' w.heap.size 113 3 v (D.map mX)/\Below w.heap.size w w':=
 (callsIn_wide (n:=9)).1 (bOt 9 (by decide) _ _ (gQ func135 (by kernel_rfl) rfl) (d+1) _ _ w (by have:=A.lt;omega) (fun L x ⟨r,h⟩=>by have:=congrArg List.length h;rw[aL] at this;omega) (bQm 7 (by decide) d (d+1) v H w w0 (Nat.lt_succ_self _) (by have:=A.lt;omega) A (by omega) F G))
end
section
open Go.RowKit Go Go.Shelf Go.Sort
theorem bQp (h:Hld) (W:World):Calls pG 193 #[.agg (mX h).toArray] W fun e w'=>e=.returned (.int .i64 h.b)/\w'=W.alloc (.cells (mX h).toArray 113):=by
 unfold mX;go_enter func193,ntmps193;go_wp2_with fail;go_ret;exact⟨rfl,rfl⟩
theorem bQq (h:Hld) (W:World):Calls pG 97 #[.agg (mX h).toArray] W fun e w'=>e=.returned (.int .i64 (wrap64 (-h.s)))/\w'=W.alloc (.cells (mX h).toArray 113):=by
 unfold mX;go_enter func97,ntmps97;go_wp2_with fail;go_ret;exact⟨rfl,rfl⟩
theorem bMg {w:World} {os:Array Obj} {p:Addr} {v:Value} (h:w.cell? p=some v):(grow w os).cell? p=some v:=by
 have d:=gV w p h;unfold bNv at h ⊢;rw[show(grow w os).heap[p.block]? =w.heap[p.block]? from Array.getElem?_append_left d];exact h
theorem bQr (f:Nat) (G:Hld->Int) (eg:∀args w,(callFunc f args).run pG w=.ok (.enter f args) w) (L:∀x W,Calls pG f #[.agg (mX x).toArray] W fun e w'=>e=.returned (.int .i64 (G x))/\w'=W.alloc (.cells (mX x).toArray 113)) (z:Nat) (x y:Hld) (W:World) (M:W.cell? ⟨z,0,none⟩=some (.func (.func f) #[] #[])):
  Calls pG 100 #[.agg (mX x).toArray,.agg (mX y).toArray,.pointer (some ⟨z,0,none⟩)] W fun e w'=>e=.returned (.int .i64 (Lib.compareInt (G x) (G y)))/\∃q A,w'=grow (W.drewN q) A:=by
 have V:=L x;have Y:=L y;have b0:z<W.heap.size:=gV W ⟨z,0,none⟩ M;have b1:=fun W=>Tryz.cmp_Compare_int (G x) (G y) W
 unfold mX at V Y ⊢;have I:=(Arr.new W 113 [.int .i64 x.b,.int .i64 x.s,.string x.t]).alloc (.cells #[.int .i64 y.b,.int .i64 y.s,.string y.t] 113);have F:=Arr.new (W.alloc (.cells #[.int .i64 x.b,.int .i64 x.s,.string x.t] 113)) 113 [.int .i64 y.b,.int .i64 y.s,.string y.t];rw[fP] at F;have O:=hid (show(W.alloc (.cells #[.int .i64 x.b,.int .i64 x.s,.string x.t] 113)).alloc (.cells #[.int .i64 y.b,.int .i64 y.s,.string y.t] 113)=grow W (#[.cells #[.int .i64 x.b,.int .i64 x.s,.string x.t] 113]++ #[.cells #[.int .i64 y.b,.int .i64 y.s,.string y.t] 113]) by
  rw[alloc_eq_grow,alloc_eq_grow,grow_grow])
 go_enter func100,ntmps100;go_wp2_with fail;have R:=bMg (os:=#[(.cells #[.int .i64 x.b,.int .i64 x.s,.string x.t] 113)]++ #[(.cells #[.int .i64 y.b,.int .i64 y.s,.string y.t] 113)]) M;rw[<-O.out] at R;obtain⟨g,Z⟩:=ex1 (W.heap.size);rw[<-Z] at I F ⊢
 have a7:(fun d=>d.cell? ⟨z,0,none⟩=some (.func (.func f) #[] #[])/\d.cell? ⟨g,0,none⟩=some (.int .i64 x.b)/\d.cell? ⟨g,1,none⟩=some (.int .i64 x.s)/\d.cell? ⟨g,2,none⟩=some (.string x.t)/\d.cell? ⟨g+1,0,none⟩=some (.int .i64 y.b)/\d.cell? ⟨g+1,1,none⟩=some (.int .i64 y.s)/\d.cell? ⟨g+1,2,none⟩=some (.string y.t)/\∃A,d=grow W.drew A) ((W.alloc (.cells #[.int .i64 x.b,.int .i64 x.s,.string x.t] 113)).alloc (.cells #[.int .i64 y.b,.int .i64 y.s,.string y.t] 113)).drew:=⟨R,I.cell (i:=0) rfl,I.cell (i:=1) rfl,I.cell (i:=2) rfl,F.cell (i:=0) rfl,F.cell (i:=1) rfl,F.cell (i:=2) rfl,_,by rw[O.out];rfl⟩
 generalize (W.alloc (.cells #[.int .i64 x.b,.int .i64 x.s,.string x.t] 113)).alloc (.cells #[.int .i64 y.b,.int .i64 y.s,.string y.t] 113)=W2 at*
 have a8:∀d o,(fun d=>d.cell? ⟨z,0,none⟩=some (.func (.func f) #[] #[])/\d.cell? ⟨g,0,none⟩=some (.int .i64 x.b)/\d.cell? ⟨g,1,none⟩=some (.int .i64 x.s)/\d.cell? ⟨g,2,none⟩=some (.string x.t)/\d.cell? ⟨g+1,0,none⟩=some (.int .i64 y.b)/\d.cell? ⟨g+1,1,none⟩=some (.int .i64 y.s)/\d.cell? ⟨g+1,2,none⟩=some (.string y.t)/\∃A,d=grow W.drew A) d->(fun d=>d.cell? ⟨z,0,none⟩=some (.func (.func f) #[] #[])/\d.cell? ⟨g,0,none⟩=some (.int .i64 x.b)/\d.cell? ⟨g,1,none⟩=some (.int .i64 x.s)/\d.cell? ⟨g,2,none⟩=some (.string x.t)/\d.cell? ⟨g+1,0,none⟩=some (.int .i64 y.b)/\d.cell? ⟨g+1,1,none⟩=some (.int .i64 y.s)/\d.cell? ⟨g+1,2,none⟩=some (.string y.t)/\∃A,d=grow W.drew A) (d.alloc o):=fun d o ⟨a0,a1,a2,a3,a4,a5,a6,A,e⟩=>by
  have q:d.alloc o=grow d #[o]:=alloc_eq_grow d o;rw[q];exact⟨bMg a0,bMg a1,bMg a2,bMg a3,bMg a4,bMg a5,bMg a6,A++ #[o],by rw[e,grow_grow]⟩
 clear I F O R Z M b0 L;refine wp_region_held_drew (S:=fun d=>d.cell? ⟨z,0,none⟩=some (.func (.func f) #[] #[])/\d.cell? ⟨g,0,none⟩=some (.int .i64 x.b)/\d.cell? ⟨g,1,none⟩=some (.int .i64 x.s)/\d.cell? ⟨g,2,none⟩=some (.string x.t)/\d.cell? ⟨g+1,0,none⟩=some (.int .i64 y.b)/\d.cell? ⟨g+1,1,none⟩=some (.int .i64 y.s)/\d.cell? ⟨g+1,2,none⟩=some (.string y.t)/\∃A,d=grow W.drew A) (by kernel_rfl) a7 (fun b2=>?_);refine bKf [0,1,2,4,5,6] ?_
 iterate 6
  refine bKg (by simp only[gA,gH,gB];rfl) (by kernel_rfl) (by exact fun _ _ _ h=>h) (by first|exact Or.inr ⟨by rfl,rfl⟩|(refine Or.inl ⟨by rfl,?_⟩;intro w' U;(try dsimp only at U);(try go_simp);try with_reducible rfl)) b2 ?_
  try simp only[bJ,bK,bH,bB]
 refine dJ (i:=3) (by kernel_rfl) rfl (fun K D=>?_);go_simp;refine(V _).mono ?_;rintro e w3 ⟨rfl,rfl⟩;have a9:=a8 _ (.cells #[.int .i64 x.b,.int .i64 x.s,.string x.t] 113) a7
 (try go_wp2_with fail)
 refine D.out _ _ a9 (fun _=>?_)
 try simp only[bJ,bK,bH,bB]
 clear D K;refine dJ (i:=7) (by kernel_rfl) rfl (fun K D=>?_);go_simp;refine(Y _).mono ?_;rintro e w4 ⟨rfl,rfl⟩;have J:=a8 _ (.cells #[.int .i64 y.b,.int .i64 y.s,.string y.t] 113) a9
 (try go_wp2_with fail)
 refine D.out _ _ J (fun _=>?_)
 try simp only[bJ,bK,bH,bB]
 clear D K;refine dJ (i:=8) (by kernel_rfl) rfl (fun K D=>?_);go_simp;refine(b1 _).mono ?_;rintro e w5 ⟨rfl,rfl⟩
 (try go_wp2_with fail)
 refine D.out _ _ J (fun _=>?_)
 try simp only[bJ,bK,bH,bB]
 clear D K;refine bKf [9] ?_;refine bKg (by simp only[gA,gH,gB];rfl) (by kernel_rfl) (by exact fun _ _ _ h=>h) (by first|exact Or.inr ⟨by rfl,rfl⟩|(refine Or.inl ⟨by rfl,?_⟩;intro w' U;(try dsimp only at U);(try go_simp);try with_reducible rfl)) J ?_
 try simp only[bJ,bK,bH,bB]
 refine wpAnyH_done (by kernel_rfl) ?_ _;obtain⟨-,-,-,-,-,-,-,A,e⟩:=J;go_wp2_with fail;go_ret;exact⟨rfl,1,A,e⟩
instance hldInh:Inhabited Hld:=⟨⟨0,0,⟨#[]⟩⟩⟩
theorem bN3:∀(l:List Hld) (t:Nat),t<l.length*3->(l.map mX).flatten[t]? =some ((mX l[t/3]!)[t%3]!)
 |[],t,h=>by simp at h
 |x::l,t,h=>by
  rw[kI,kW];have d:(mX x).length=3:=rfl;rcases cF t 3 with q|q
  ·rw[List.getElem?_append_left (by rw[d];exact q),show t/3=0 by omega,show t%3=t by omega];have:t=0\/t=1\/t=2:=by omega
   rcases this with rfl|rfl|rfl<;>rfl
  ·rw[List.getElem?_append_right (by rw[d];exact q),d,bN3 l (t-3) (by rw[aU] at h;omega)];rw[show t/3=(t-3)/3+1 by omega,show t%3=(t-3)%3 by omega];rfl
theorem bOv (l:List Hld):(l.map mX).flatten.length=l.length*3:=by
 induction l with
 |nil=>rfl
 |cons x l d=>
  rw[kI,kW,aL,d,aU];show 3+_=_;omega
theorem bQs (l:List Hld):(flatK mX 3 l.toArray).toList=(l.map mX).flatten:=by
 refine lH fun t=>?_
 rcases cF t (l.length*3) with q|q
 ·rw[bN3 l t q,OG];have d:t<(flatK mX 3 l.toArray).size:=by simpa using q
  rw[Array.getElem?_eq_getElem d,<-getElem!_pos (flatK mX 3 l.toArray) t d,get_flatK _ _ _ _ (by simpa using q)];simp
 ·rw[fZ (by simpa using q),fZ (by rw[bOv];exact q)]
theorem bQt {w:World} {g n:Nat} {os:Array Obj} {A:Array Value} {e:TypeId} {D:Nat×Nat} (d:Array Value) (F:w.heap[g]? =some (.cells A e D)):
  (grow (putRow id (Go.Sort.ahead w n) g 0 d) os).heap[g]? =some (.cells (putCells id 0 d A) e D):=by
 have G:g<w.heap.size:=(fE.1 F).1;rw[heap_grow_old _ _ (by simpa using G)];simp[putRow,mapBlock,Go.Sort.ahead,Array.getElem?_modify,F,onCells]
theorem bOw {w:World} {g n:Nat} {os:Array Obj} (d:Array Value):w.grownBy (grow (putRow id (Go.Sort.ahead w n) g 0 d) os) (some g):=by
 refine⟨rfl,rfl,rfl,by simp,fun k A D=>?_⟩;rw[heap_grow_old _ _ (by simpa using A)];have:g≠k:=fun e=>D (by rw[e])
 simp[putRow,mapBlock,Go.Sort.ahead,Array.getElem?_modify,this]
theorem bQu (e d:Array Value) (h:d.size<=e.size):(putCells id 0 d e).toList.take d.size=d.toList:=by
 apply lH;intro j
 by_cases A:j<d.size
 ·rw[pW A,OG,OG];simp[putCells,A,show j<e.size by omega]
 ·rw[List.getElem?_take_eq_none (by omega),fZ (by simp;omega)]
theorem bQv {w:World} {g:Nat} {d:Array Value} {e:TypeId} {l:List Hld} (D:w.heap[g]? =some (.cells d e (0,0))) (G:d.toList.take (l.length*3)=(l.map mX).flatten):HoldsK mX 3 w g 0 l.toArray:=by
 intro j I;have A:j<l.length*3:=by simpa using I
 refine⟨?_,by simp[World.frozen?,D]⟩;have F:(d.toList.take (l.length*3))[j]? =(l.map mX).flatten[j]? :=by rw[G]
 rw[pW A,bN3 l j A] at F;rw[get_flatK _ _ _ _ (by simpa using A)];simp only[bNv,D,Nat.zero_add];simp only[Option.isSome_none,Bool.false_eq_true,if_false];rw[<-OG,F];simp
theorem bQw {w w':World} {row:Option Nat} (e:w.grownBy w' row) {p:Addr} {v:Value} (d:w.cell? p=some v) (A:some p.block≠row):w'.cell? p=some v:=by
 have D:=gV w p d;unfold bNv at d ⊢;rw[e.block p.block D A];exact d
theorem bQx (d:Hld->Int):SWO (ltOf fun x y=>Lib.compareInt (d x) (d y)):=by
 refine⟨fun x=>?_,fun x y z=>?_,fun x y z=>?_⟩<;>simp only[ltOf,Lib.compareInt]<;>grind
theorem bQy {d:Hld->Int} {x y:Hld} (h:ltOf (fun x y=>Lib.compareInt (d x) (d y)) x y=false):¬d x<d y:=by
 simp only[ltOf,Lib.compareInt] at h
 grind
theorem bQz (f:Nat) (D:Hld->Int) (eg:∀args w,(callFunc f args).run pG w=.ok (.enter f args) w) (a2:∀x W,Calls pG f #[.agg (mX x).toArray] W fun e w'=>e=.returned (.int .i64 (D x))/\w'=W.alloc (.cells (mX x).toArray 113)) (z B:Nat) (v:Value) (d:List Hld) (w:World)
  (a3:OwR w B 113 3 v (d.map mX)) (hz:w.cell? ⟨z,0,none⟩=some (.func (.func f) #[] #[])) (b1:z<B) (b2:0<d.length) (hl:d.length<=12):
  Calls pG 134 #[v,.func (.func 100) #[] #[.pointer (some ⟨z,0,none⟩)]] w fun e w'=>e=.returned (.tuple #[])/\∃J:List Hld,J.Perm d/\J.Pairwise (fun a b=>¬D b<D a)/\OwR w' B 113 3 v (J.map mX)/\Below B w w':=by
 have L:=a3;unfold OwR World.ownsRow at L;rw[aS] at L;obtain⟨R,⟨-,h0⟩|⟨g,cap,a4,rfl,U,M,V,a5,Y,a6⟩⟩:=L
 ·omega
 have a7:g<w.heap.size:=(fE.1 M).1;have a8:CmpLays pG 100 #[.pointer (some ⟨z,0,none⟩)] mX 3 (fun x y=>Lib.compareInt (D x) (D y)) g 0 d.toArray.size w:=fun m os dk _ x y=>by
  refine bQr f D eg a2 z x y _ ?_;have a9:w.grownBy (sortWorldK mX 3 w g 0 m dk os) (some g):=bOw _;exact bQw a9 hz (by show some z≠some g;intro q;injection q;omega)
 have O:=AnyQ.slices_SortFunc_small_sorted Tryz.sortHeld 3 Tryz.isAgg113 Tryz.sizeOf113 mX (fun _=>rfl) (fun x v hv=>(bLd [x] _ (by simp)).2 v hv) (fun x y=>Lib.compareInt (D x) (D y)) 100 #[.pointer (some ⟨z,0,none⟩)] (bQx D) g 0 cap d.toArray w (gQ func100 (by kernel_rfl) rfl) a8 (bQv M a6) a7 (by simpa using hl)
  (fun n W h=>(Tryz.bits_Len n W (by omega) (by omega)).mono fun _ _ ⟨he,hw⟩=>⟨⟨_,he⟩,hw⟩)
 change Calls pG 134 _ _ _ at O;rw[show d.toArray.size=d.length from rfl] at O;refine O.mono ?_;rintro e w' ⟨rfl,A,n,os,I,hs,rfl⟩;refine⟨rfl,A.toList,?_,?_,?_,?_⟩
 ·obtain⟨p1,-,Z⟩:=I;have q1:(A.extract 0 d.length).toList=A.toList:=by
   rw[bS3 (by rw[p1];simp)]
  have q2:(d.toArray.extract 0 d.length).toList=d:=by
   rw[bS3 (by simp)]
  rw[q1,q2] at Z;exact Z
 ·have F:A.size=d.length:=by rw[I.1];rfl
  refine DH.2 fun i j hi G b0=>?_
  have h1:=hs i j (aO _) b0 (by simpa [F] using G);have R:A[i]! =A.toList[i]:=by simp at hi;simp[hi]
  have e2:A[j]! =A.toList[j]:=by simp at G;simp[G]
  rw[R,e2] at h1;exact bQy h1
 ·have F:A.toList.length=d.length:=by rw[Array.length_toList,I.1];rfl
  have a0:(flatK mX 3 A).size=d.length*3:=by rw[size_flatK,I.1];rfl
  have a1:=bQu a4 (flatK mX 3 A) (by rw[a0,Y];exact Nat.mul_le_mul_right 3 V);rw[a0,show(flatK mX 3 A).toList=(A.toList.map mX).flatten from by rw[<-bQs]] at a1;refine⟨by rw[bOv,aS],.inr ⟨g,cap,_,by rw[aS,F],U,bQt _ M,by rw[aS,F];exact V,a5,by simp[putCells,Y],by rw[aS,F];exact a1⟩⟩
 ·exact(aH B w).grown (bOw _) (by omega) (fun j G=>by cases G;exact U)
end
section
open Go.RowKit Go Go.Shelf
theorem bOx (a:Option Addr) (n c:Nat) (w:World):Calls pG 99 #[.slice a n c] w fun e w'=>e=.returned (.func (.func 135) #[] #[.pointer (some ⟨w.heap.size,0,none⟩)])/\w'=w.alloc (.cells #[.slice a n c] 35):=by
 go_enter func99,ntmps99;go_wp2_with fail;go_ret;exact⟨rfl,rfl⟩
theorem bQ0 (m:Nat) (w:World):Calls pG 171 #[.map (some m)] w fun e w'=>e=.returned (.func (.func 194) #[] #[.pointer (some ⟨w.heap.size,0,none⟩)])/\w'=w.alloc (.cells #[.map (some m)] 252):=by
 go_enter func171,ntmps171;go_wp2_with fail;go_ret;exact⟨rfl,rfl⟩
theorem bQ1 (f:Nat) (D:Hld->Int) (Z:∀args w,(callFunc f args).run pG w=.ok (.enter f args) w) (a0:∀x W,Calls pG f #[.agg (mX x).toArray] W fun e w'=>e=.returned (.int .i64 (D x))/\w'=W.alloc (.cells (mX x).toArray 113)) (z gf:Nat) (lb:Array Value) (F:List Hld->Prop) (w:World)
  (J:Calls pG 133 #[.func (.func gf) #[] lb] w fun e w'=>∃(v:Value) (d:List Hld),e=.returned v/\F d/\OwR w' w.heap.size 113 3 v (d.map mX)/\Below w.heap.size w w') (G:w.cell? ⟨z,0,none⟩=some (.func (.func f) #[] #[])) (a1:∀d,F d->0<d.length/\d.length<=12):
  Calls pG 98 #[.func (.func gf) #[] lb,.func (.func 100) #[] #[.pointer (some ⟨z,0,none⟩)]] w fun e w'=>∃(v:Value) (d A:List Hld),e=.returned v/\F d/\A.Perm d/\A.Pairwise (fun a b=>¬D b<D a)/\OwR w' w.heap.size 113 3 v (A.map mX)/\Below w.heap.size w w':=by
 have L:=gV w ⟨z,0,none⟩ G;go_enter func98,ntmps98;go_wp2_with fail;refine J.mono ?_;rintro e w1 ⟨v,d,rfl,hF,I,M⟩;have O:=a1 d hF;have R:=(M.cell (p:=⟨z,0,none⟩) L).trans G;have U:=bQz f D Z a0 z w.heap.size v d w1 I R L O.1 O.2;obtain⟨a,cap,V,-⟩:=(OwR.rd I).open (bLd d) (by decide:1<=3);obtain⟨n,Y⟩:=ex1 ((d.map mX).length);rw[<-Y] at V;subst V;clear J Y I G R;go_wp2_with fail;refine U.mono ?_;rintro e w2 ⟨rfl,A,hp,hs,ho,a2⟩;have a3:=M.trans a2;clear U;go_wp2_with fail;go_ret;exact⟨_,rfl,d,hF,A,hp,hs,ho,a3⟩
theorem bOy (f:Nat) (F:Hld->Int) (eg:∀args w,(callFunc f args).run pG w=.ok (.enter f args) w) (a0:∀x W,Calls pG f #[.agg (mX x).toArray] W fun e w'=>e=.returned (.int .i64 (F x))/\w'=W.alloc (.cells (mX x).toArray 113)) (v:Value) (H:List Hld) (w:World) (U:RdR w v (H.map mX)) (h0:0<H.length) (hl:H.length<=12):
  Calls pG 60 #[.agg #[.func (.func f) #[] #[]],v] w fun e w'=>∃(u:Value) (A:List Hld),e=.returned u/\A.Perm H/\A.Pairwise (fun a b=>¬F b<F a)/\OwR w' w.heap.size 113 3 u (A.map mX)/\Below w.heap.size w w':=by
 obtain⟨a,d,rfl,-⟩:=bLm U;have J:=Arr.new w 133 [.func (.func f) #[] #[]];change Arr (w.alloc (.cells #[.func (.func f) #[] #[]] 133)) _ _ _ at J;have V:=bD (aH w.heap.size w) (.cells #[.func (.func f) #[] #[]] 133);have Y:=fun W=>bOx a H.length d W
 go_enter func60,ntmps60;go_wp2_with fail;generalize w.alloc (.cells #[.func (.func f) #[] #[]] 133)=D at*
 refine(Y _).mono ?_;rintro e w2 ⟨rfl,rfl⟩;have L:=Arr.new D 35 [.slice a H.length d];change Arr (D.alloc (.cells #[.slice a H.length d] 35)) _ _ _ at L;have M:=bD V (.cells #[.slice a H.length d] 35);have G:=(J.alloc (.cells #[.slice a H.length d] 35)).cell (i:=0) rfl;have I:=fun z (G:(D.alloc (.cells #[.slice a H.length d] 35)).cell? ⟨z,0,none⟩=some (.func (.func f) #[] #[]))=>bQ1 f F eg a0 z _ _ (fun O=>O=H) _ (bOu D.heap.size (.slice a H.length d) H _ w V.size L U M (by omega)) G (fun O h=>by rw[h];exact⟨h0,hl⟩)
 have I:=I _ G;clear Y J L G;generalize D.alloc (.cells #[.slice a H.length d] 35)=w2 at*
 go_wp2_with fail;refine I.mono ?_;rintro e w3 ⟨u,O,A,rfl,rfl,hp,hs,R,Z⟩;have a1:=aW M Z;have a2:=R.base M.size;obtain⟨au,cu,hu,-⟩:=(OwR.rd R).open (bLd A) (by decide:1<=3);obtain⟨n,hn⟩:=ex1 ((A.map mX).length);rw[<-hn] at hu;subst hu;clear I hn R Z;go_wp2_with fail;go_ret;exact⟨_,rfl,A,hp,hs,a2,a1⟩
theorem bLg.perm {D:DataW Unit} {H K:List Hld} (h:bLg D H) (d:H.Perm K):bLg D K:=
 ⟨fun k=>(h.1 k).trans ⟨fun⟨y,a,b⟩=>⟨y,d.mem_iff.1 a,b⟩,fun⟨y,a,b⟩=>⟨y,d.mem_iff.2 a,b⟩⟩,fun y e=>h.2.1 y (d.mem_iff.2 e),h.2.2.trans d.length_eq⟩
theorem bM5 (v:Value) (room clock:Int) (H:List Hld) (w:World) (Y:RdR w v (H.map mX)) (hk:okH room clock H) (Z:∀h∈H,h.b<=9223372036854775807):
  Calls pG 153 #[.agg #[.int .i64 room,.int .i64 clock,v]] w fun e w'=>∃(J:Nat) (D:DataW Unit),e=.returned (.map (some J))/\w'.ownsMap pG 3 bLu J H.length D/\bLg D H/\w.heap.size<=J/\Below w.heap.size w w':=by
 obtain⟨a,L,rfl,b3,a5,hA⟩:=bLm Y;unfold maxLen at a5;obtain⟨⟨k1,k2⟩,⟨k3,k4⟩,k5,k6,k7,k8⟩:=hk;have HP:=hid (tK k6 (tK k7 Z));have b4:=@run_makeMap pG;clear Y k6 k7 k8 Z;have a0:Below w.heap.size w (w.alloc (.cells #[.int .i64 room,.int .i64 clock,.slice a H.length L] 37)):=bD (aH _ _) _;go_enter func153,ntmps153;go_wp2_with fail;have G:=World.ownsMap_made (w.alloc (.cells #[.int .i64 room,.int .i64 clock,.slice a H.length L] 37)) pG 3 bLu;have I:=bD a0 (.map #[] 0);rw[fP] at G
 generalize (w.alloc (.cells #[.int .i64 room,.int .i64 clock,.slice a H.length L] 37)).alloc (.map #[] 0)=W2 at*
 obtain⟨z,M⟩:=ex1 (w.heap.size);rw[<-M] at G ⊢;have HZ:=hid M;clear a0 M
 go_loopg [5,10] H.length (fun g _s5 a6 wr=>∃(k:Nat) (D:DataW Unit),k<=H.length/\g=H.length-k/\a6=.int .i64 (k:Int)/\wr.ownsMap pG 3 bLu (z+1) k D/\Hid (bLg D (H.take k))/\Below w.heap.size w wr)
 case atStart=>exact⟨0,_,aO _,rfl,rfl,G,hid bLg.nil,I⟩
 case round=>
  obtain⟨k,D,b5,O,rfl,R,HD,d⟩:=hrel;have HG:=hid O;clear O G I
  by_cases a7:k<H.length
  ·have u1:decide ((k:Int)<(H.length:Int))=true:=aG (by omega);obtain⟨b,off,rfl,U,hc⟩:=hA (by omega);obtain⟨x,A⟩:∃x,H[k]? =some x:=⟨_,aN a7⟩;obtain⟨x0,x1,x2⟩:=hc k x A;obtain⟨V,p2,p3⟩:=HP.out;obtain⟨q1,q2,q3⟩:=p2 x (cN A);have q4:=p3 x (cN A);have c0:=(d.cell (p:=⟨b,off+k*3,none⟩) U).trans x0;have c1:=(d.cell (p:=⟨b,off+k*3+1,none⟩) U).trans x1;have c2:=(d.cell (p:=⟨b,off+k*3+2,none⟩) U).trans x2;have a8:=d.size;have a9:=R.alloc (.cells #[.int .i64 x.b,.int .i64 x.s,.string x.t] 113)
   have a1:=d.alloc a8 (.cells #[.int .i64 x.b,.int .i64 x.s,.string x.t] 113);have a2:=bMn (n:=x.b) (by omega) q4;have hT:H.take (k+1)=H.take k++[x]:=by rw[cG,A];rfl
   have a3:∀y∈H.take k,y.b≠x.b:=fun y hy=>by
    obtain⟨j,F⟩:=List.getElem?_of_mem hy;have a4:j<k:=by
     have:=(eF.1 F).1;rw[List.length_take] at this;omega
    rw[pW a4] at F;obtain⟨h1,e1⟩:=eF.1 F;obtain⟨h2,e2⟩:=eF.1 A;have:=DH.1 V j k h1 h2 a4;rw[e1,e2] at this;omega
   have b0:=hid (show bLg (D.put (.int .i64 x.b) (bL6 x)) (H.take (k+1)) from by
    have h:=HD.out.put (R.tidy bLv) x (bLv.key a2) (V.sublist (List.take_sublist k H));rw[bL5 a3] at h;rw[hT];exact h.perm (List.perm_append_singleton x _).symm)
   clear hc hA x0 x1 x2 A V p2 p3 hT a3;go_wp2_with (at_mapUpdate;refine wpList_mapUpdate_own _ rfl _ _ _ 252 rfl 3 113 bLv underlying252 _ (z+1) k _ rfl a9 (by unfold maxLen;omega) _ _ _ rfl rfl a2 _ [] (bM1 x) ?_;intro w1 b1 b2);have I:=a1.grown b2 a1.size (fun j F=>by cases F;rw[<-HZ.out];omega);go_wp2_with fail;have O:=HG.out
   go_roundg (H.length-(k+1))
   ·exact⟨k+1,_,by omega,rfl,by go_num,b1,b0,I⟩
   ·omega
  ·have u1:decide ((k:Int)<(H.length:Int))=false:=aE (by omega);have e:k=H.length:=by omega
   subst e;have hD:=HD.out;rw[List.take_length] at hD;go_wp2_with fail;go_ret;exact⟨z+1,D,rfl,R,hD,by rw[<-HZ.out];omega,d⟩
theorem bQ2:(pG.info? 133).map (·.size)=some 1:=by kernel_rfl
theorem bOz {d:Func} {Q:Ending->World->Prop} {W:World} {a:Act} {z p:Nat} {e:Value} (A:d.results=#[.cell p 133]) (D:Arr W z 133 [e]) (F:a.tmps.getD p undef=.pointer (some ⟨z,0,none⟩)) (G:a.defers=[])
  (h:Q (.returned (.agg #[e])) W):bodyPost pG d Q .ret a W:=
 fM (results_cell_row A _ _ z _ _ (0,0) _ F D underlying133 rfl bQ2) G h
theorem bQ3 (w:World):Calls pG 170 #[] w fun e w'=>e=.returned (.agg #[.func (.func 193) #[] #[]])/\Below w.heap.size w w':=by
 have d:=Arr.new w 133 [.nilFunc];change Arr (w.alloc (.cells #[.nilFunc] 133)) _ _ _ at d;have A:=bD (aH w.heap.size w) (.cells #[.nilFunc] 133);have D:=d.cell (i:=0) rfl;have F:=d.free 0;go_enter func170,ntmps170;go_wp2_with fail;exact bOz rfl (Arr.new w 133 [.func (.func 193) #[] #[]]) rfl rfl ⟨rfl,bD (aH w.heap.size w) _⟩
theorem bQ4 (w:World):Calls pG 59 #[] w fun e w'=>e=.returned (.agg #[.func (.func 97) #[] #[]])/\Below w.heap.size w w':=by
 have d:=Arr.new w 133 [.nilFunc];change Arr (w.alloc (.cells #[.nilFunc] 133)) _ _ _ at d;have A:=bD (aH w.heap.size w) (.cells #[.nilFunc] 133);have D:=d.cell (i:=0) rfl;have F:=d.free 0;go_enter func59,ntmps59;go_wp2_with fail;exact bOz rfl (Arr.new w 133 [.func (.func 97) #[] #[]]) rfl rfl ⟨rfl,bD (aH w.heap.size w) _⟩
end
end Go.Proofs.YtfckbfofgeilgaaGreatDoor
