/-
  Texts put together (part 18): the walks and the plain laws on which the statement stands.
-/
import Derived.Test.YtfplbbphficcjaaGreatDoorZ12
import Derived.Test.YtfplbbphficcjaaGreatDoorZ15
set_option maxRecDepth 100000
set_option maxHeartbeats 12800000
set_option linter.unusedVariables false
set_option linter.unusedSimpArgs false
open Go.Proofs.Tryz
open Go.Proofs.Tryz renaming prog->pG
open Go.Addr renaming add->gP
open Go.IntKind renaming i64->aJ,wrap_i64->aM
open Go.RowKit.Below renaming refl->aH
open Go.Value renaming int->bQ
open Int renaming toNat_natCast->fL
open List renaming getD_eq_getElem?_getD->bV,getElem?_append_left->nE,getElem?_concat_length->IV,getElem?_eq_getElem->aN,getElem?_eq_some_iff->eF,getElem?_map->eQ,length_append->aL,length_eraseIdx->XP,length_map->aS,length_nil->aV,length_take->aQ,map_append->dY,map_replicate->DM,map_set->AP,mem_map->eK,mem_of_getElem?->cN,mem_singleton->cP,replicate->aX,take_add_one->cG,take_length->jS,take_of_length_le->cD
open Nat renaming le_refl->aD,le_trans->aR,zero_le->aO
open Option.some renaming inj->cC,injEq->lJ
namespace Go.Proofs.YtfplbbphficcjaaGreatDoor
open Go.RowKit Go Go.Shelf
theorem uV {w:World} {B D e d z F n G:Nat} {v A:Value} {H I:List Value} (h:w.ownsRow B e z v n H) (J:w.ownsRow D d F A G I) (M:e≠d):v.ownBlock=none\/v.ownBlock≠A.ownBlock:=by
 rcases h.2 with⟨rfl,_⟩|⟨g,cap,O,rfl,_,T,_⟩
 ·exact .inl rfl
 ·right
  rcases J.2 with⟨rfl,_⟩|⟨L,U,V,rfl,_,Y,_⟩
  ·intro e;cases e
  ·intro e;have e:some g=some L:=e
   grind
theorem MG {w:World} {B e d D F b:Nat} {A:Value} {l G:List Value} (h:Arr w b e l) (H:w.ownsRow B d D A F G) (J:e≠d):some b≠A.ownBlock:=by
 rcases H.2 with⟨rfl,_⟩|⟨I,L,M,rfl,_,O,_⟩
 ·intro e;cases e
 ·intro e;have e:some b=some I:=e
  grind [Arr]
theorem lD {w:World} {B e z n b:Nat} {v:Value} {d:List Value} (h:w.ownsRow B e z v n d) (A:b<B):v.ownBlock=none\/v.ownBlock≠some b:=by
 rcases hob:v.ownBlock with _|k
 ·exact .inl rfl
 ·have:=(h.lt k hob).1
  grind
def lvI (t:HT):List Int:=t.leaves.map (fun n:Nat=>((n:Nat):Int))
def TOK (w:World) (B d:Nat) (l:List VV) (r:cE):Prop:=
 l.length=r.length/\∀(j:Nat) (q:VV) (p:Int×HT),l[j]? =some q->r[j]? =some p->q.1=.int .i64 p.1/\OwI w B q.2 (lvI p.2)/\(q.2.ownBlock=none\/q.2.ownBlock≠some d)/\q.2.oneCell'=true
theorem TOK.nil (w:World) (B d:Nat):TOK w B d [] []:=by simp[TOK]
theorem TOK.map {w w':World} {B d e:Nat} {l:List VV} {r:cE} (h:TOK w B d l r) (k:∀(v:Value) (m:List Int),OwI w B v m->(v.ownBlock=none\/v.ownBlock≠some d)->OwI w' B v m/\(v.ownBlock=none\/v.ownBlock≠some e)):TOK w' B e l r:=
 ⟨h.1,fun j q p A D=>by
  obtain⟨F,G,H,I⟩:=h.2 j q p A D
  grind⟩
theorem TOK.below {w w':World} {B d:Nat} {l:List VV} {r:cE} (h:TOK w B d l r) (e:Below w.heap.size w w'):TOK w' B d l r:=h.map (fun _ _ A D=>⟨OwI.below A e (aD _),D⟩)
theorem TOK.alloc {w:World} {B d:Nat} {l:List VV} {r:cE} (h:TOK w B d l r) (o:Obj):TOK (w.alloc o) B d l r:=h.map (fun _ _ e A=>⟨OwI.alloc e o,A⟩)
theorem TOK.set {w:World} {B d:Nat} {l:List VV} {r:cE} (h:TOK w B d l r) (i:Nat) (x:Value):TOK (w.setCell ⟨d,i,none⟩ x) B d l r:=h.map (fun _ _ A e=>⟨Ow.kept A (gD w d i x) e,e⟩)
theorem TOK.snoc {w:World} {B e:Nat} {l:List VV} {r:cE} (h:TOK w B e l r) {q:VV} {p:Int×HT} (I:q.1=.int .i64 p.1) (J:OwI w B q.2 (lvI p.2)) (L:q.2.ownBlock=none\/q.2.ownBlock≠some e) (M:q.2.oneCell'=true):TOK w B e (l++[q]) (r++[p]):=by
 refine⟨by rw[aL,aL,h.1];rfl,fun j F G d A=>?_⟩
 by_cases D:j<l.length
 ·rw[nE D] at d;rw[nE (by rw[<-h.1];exact D)] at A;exact h.2 j F G d A
 ·have H:=(eF.1 d).1;rw[aL,List.length_singleton] at H;obtain rfl:j=l.length:=by omega
  rw[IV] at d;rw[h.1,IV] at A
  grind
theorem TOK.erase {w:World} {B A:Nat} {l:List VV} {r:cE} (h:TOK w B A l r) (i:Nat):TOK w B A (l.eraseIdx i) (r.eraseIdx i):=by
 refine⟨by rw[XP,XP,h.1],fun j q p e d=>?_⟩;rw[List.getElem?_eraseIdx] at e d;split at e
 ·next k=>rw[aB k] at d;exact h.2 _ _ _ e d
 ·next k=>rw[aA k] at d;exact h.2 _ _ _ e d
theorem TOK.one {w:World} {B e:Nat} {l:List VV} {r:cE} (h:TOK w B e l r):rA l:=fun q A=>by
 obtain⟨j,d⟩:=List.mem_iff_getElem?.1 A;have D:=(eF.1 d).1;obtain⟨F,_,_,G⟩:=h.2 j q _ d (aN (by rw[<-h.1];exact D));exact⟨by rw[F];rfl,G⟩
theorem TOK.fst {w:World} {B e:Nat} {l:List VV} {r:cE} (h:TOK w B e l r):∀(j:Nat) (q:VV),l[j]? =some q->q.1=bQ .i64 ((fun i=>(r.getD i (0,.leaf 0)).1) j):=fun j q d=>by
 have A:=(eF.1 d).1;have D:j<r.length:=by rw[<-h.1];exact A
 have F:r[j]? =some r[j]:=aN D;rw[(h.2 j q _ d F).1]
 grind
theorem aFm:∀{l:List Int},(∀x∈l,0<=x)->0<=l.sum/\∀x∈l,x<=l.sum
 |[],_=>⟨by simp,fun x d=>by simp at d⟩
 |y::l,h=>by
  obtain⟨e,A⟩:=aFm (l:=l) (fun x d=>h x (List.mem_cons_of_mem _ d))
  grind [List.mem_cons_self]
theorem aFn (d:List Int) (A:∀x∈d,1<=x) (t:Nat) (D:t<d.length):∀p∈bS d t,1<=p.1/\p.1<=d.sum:=fun p e=>by
 obtain⟨h,F⟩:=wE.all d A t D;have G:∀p∈bS d t,1<=p.1:=fun p e=>by rw[h.wt p e];exact HT.wt_pos p.2 (h.even p e)
 refine⟨G p e,?_⟩;rw[<-F];refine(aFm (fun x H=>?_)).2 _ (eK.2 ⟨p,e,rfl⟩)
 grind
theorem aFo {d:List Int} {k:Nat} {x:Int} (h:d[k]? =some x):bS (d.take (k+1)) 0=bS (d.take k) 0++[(x,.leaf k)]:=by grind [eF,aQ,cG,Option.toList_some,bS]
theorem TOK.app {W A:World} {B H D d:Nat} {F:Value} {l I:List VV} {r:cE} (h:TOK W B D l r) (J:OwP W H 192 F I) (L:W.grownBy A F.ownBlock) (G:d=D\/W.heap.size<=d):TOK A B d l r:=
 h.map (fun v m e M=>⟨Ow.kept e L (uV e J (by decide)),by
  rcases G with rfl|G
  ·exact M
  ·rcases hob:v.ownBlock with _|k
   ·exact .inl rfl
   ·have:=(Ow.lt e k hob).2
    grind⟩)
theorem aX5 {d e:World} {D F:Addr} {G H:Value} {B:Nat} {w0:World} (h:d.cell? D=some G/\d.cell? F=some H/\Below B w0 d/\B<=d.heap.size) (A:Below d.heap.size d e):
  e.cell? D=some G/\e.cell? F=some H/\Below B w0 e/\B<=e.heap.size:=by
 obtain⟨L,M,O,I⟩:=h;have k:∀{p:Addr} {v:Value},d.cell? p=some v->e.cell? p=some v:=fun{p} {v} J=>(A.cell (World.block_lt_of_cell? d p J)).trans J
 exact⟨k L,k M,O.trans (A.mono I),aR I A.size⟩
theorem aX6 {d e:World} {A G D H:Nat} {I J:Value} {B:Nat} {w0:World} (h:d.cell? ⟨A,G,none⟩=some I/\d.cell? ⟨D,H,none⟩=some J/\Below B w0 d/\B<=d.heap.size) (F:Below B d e) (L:A<B) (M:D<B):
  e.cell? ⟨A,G,none⟩=some I/\e.cell? ⟨D,H,none⟩=some J/\Below B w0 e/\B<=e.heap.size:=by
 obtain⟨O,T,U,V⟩:=h;exact⟨(F.cell (p:=⟨A,G,none⟩) L).trans O,(F.cell (p:=⟨D,H,none⟩) M).trans T,U.trans F,aR V F.size⟩
theorem aFv {d A:Prop} {B D:Nat} {w0 w':World} {v:Value} {m:List Int} (e:OwI w0 D v m) (F:w0.heap.size<=B) (h:d/\A/\Below B w0 w'/\B<=w'.heap.size):tQ w' v m:=OwI.src (OwI.below e h.2.2.1 F)
theorem aFw {d e:Prop} {B:Nat} {w0 w':World} (h:d/\e/\Below B w0 w'/\B<=w'.heap.size):B<=w'.heap.size:=h.2.2.2
theorem aX7 (v:Value) (A:List Int) (w:World) (hr:RdI w v A) (h2:2<=A.length) (q9:A.length<=258) (h1:∀x∈A,1<=x) (hs:A.sum<28657):
  Calls pG 96 #[v] w fun e w'=>∃v',e=.returned v'/\OwI w' w.heap.size v' (nK A)/\Below w.heap.size w w':=by
 have g1:=hid (aFn A h1);have m2:=hid hs;obtain⟨a,ca,rfl,r0,m3,hA⟩:=hr.open;unfold maxLen at m3;obtain⟨b,off,rfl,hb,hc⟩:=hA (by omega);have HC:=hid hc;clear hA hc hr h1 hs;go_enter func96,ntmps96;go_wp2_with fail
 go_loopg [3,4] A.length (fun g s3 s4 wr=>∃(k:Nat) (v3:Value) (l:List VV),k<=A.length/\g=A.length-k/\v3=s3/\s4=.int .i64 (k:Int)/\OwP wr w.heap.size 192 v3 l/\TOK wr w.heap.size wr.heap.size l (bS (A.take k) 0)/\Below w.heap.size w wr)
 case atStart=>exact⟨0,_,[],aO _,rfl,rfl,rfl,OwP.nil _ _ _,TOK.nil _ _ _,aH _ _⟩
 case round=>
  obtain⟨k,v3,l,hk,hg,rfl,rfl,ho,ht,I⟩:=hrel;have HG:=hid hg;clear hg;have b7:=I.size;have m4:l.length=k:=by rw[ht.1];show((A.take k).zipIdx.map _).length=k;rw[aS,List.length_zipIdx,aQ];omega
  by_cases c7:k<A.length
  ·have u1:decide ((k:Int)<(A.length:Int))=true:=aG (by omega);obtain⟨x,hx⟩:=eG c7;have c1:=(I.cell (p:=⟨b,off+k,none⟩) hb).trans (HC.out k x hx);have HT:=hid (aFo hx);have hO:OwI (wr.alloc (.cells #[.int .i64 (k:Int)] 3)) w.heap.size (.slice (some ⟨wr.heap.size,0,none⟩) 1 1) (lvI (.leaf k)):=(Arr.new wr 3 [.int .i64 (k:Int)]).own b7 (by simp[maxLen]);have H:=ho.alloc (.cells #[.int .i64 (k:Int)] 3);have G:=(ht.alloc (.cells #[.int .i64 (k:Int)] 3));have c0:=I.alloc (o:=.cells #[.int .i64 (k:Int)] 3) b7
   have d6:(wr.alloc (.cells #[.int .i64 (k:Int)] 3)).heap.size=wr.heap.size+1:=by simp
   clear hx;have d7:=nN.new (wr.alloc (.cells #[.int .i64 (k:Int)] 3)) 192 (.int .i64 x,.slice (some ⟨wr.heap.size,0,none⟩) 1 1);rw[d6] at d7;have hO:=OwI.alloc hO (.cells #[.int .i64 x,.slice (some ⟨wr.heap.size,0,none⟩) 1 1] 192);have H:=H.alloc (.cells #[.int .i64 x,.slice (some ⟨wr.heap.size,0,none⟩) 1 1] 192);have G:=G.alloc (.cells #[.int .i64 x,.slice (some ⟨wr.heap.size,0,none⟩) 1 1] 192);have c0:=c0.alloc (o:=.cells #[.int .i64 x,.slice (some ⟨wr.heap.size,0,none⟩) 1 1] 192) (by omega)
   have r4:((wr.alloc (.cells #[.int .i64 (k:Int)] 3)).alloc (.cells #[.int .i64 x,.slice (some ⟨wr.heap.size,0,none⟩) 1 1] 192)).heap.size=wr.heap.size+1+1:=by simp
   clear ho ht;go_wp2_with (at_builtin;refine aFh CJ rfl _ _ rfl w.heap.size _ l rfl H _ [(.int .i64 x,.slice (some ⟨wr.heap.size,0,none⟩) 1 1)] rfl d7 (fun q hq=>by obtain rfl:=cP.1 hq;exact⟨rfl,rfl⟩) ?_ ?_ ?_;(simp only[List.length_cons,aV];omega);(simp;omega);intro v4 w4 U r2 r3);have hg:=HG.out;have m5:=r3.size
   go_roundg (A.length-(k+1))
   case measure=>omega
   case rel=>
    refine⟨k+1,_,_,by omega,rfl,rfl,by go_num,U,?_,c0.trans r2⟩;rw[HT.out];refine TOK.snoc (G.app H r3 (.inr m5)) rfl (Ow.kept hO r3 (uV hO H (by decide))) ?_ rfl;exact .inr (fun e=>by have e:wr.heap.size=w4.heap.size:=cC e;omega)
  ·have u1:decide ((k:Int)<(A.length:Int))=false:=aE (by omega);have m6:k=A.length:=by omega
   subst m6;rw[jS] at ht;have hB:=hid (show w.heap.size<=wr.heap.size from b7);go_wp2_with (at_make;refine mkA jL rfl _ _ rfl A.length rfl rfl ?_ ?_;omega);have L:=Arr.made wr 3 (.int .i64 0) A.length;have H:=ho.alloc (.cells (gW (.int .i64 0) A.length) 3);have G:=ht.alloc (.cells (gW (.int .i64 0) A.length) 3);have c0:=I.alloc (o:=.cells (gW (.int .i64 0) A.length) 3) b7;have d6:(wr.alloc (.cells (gW (.int .i64 0) A.length) 3)).heap.size=wr.heap.size+1:=by simp
   have g2:aX A.length (bQ .i64 0)=(jO A 0).map (bQ .i64):=by show _=(aX A.length (0:Int)).map _;rw[DM]
   rw[g2] at L;change Arr (wr.alloc (.cells (gW (.int .i64 0) A.length) 3)) _ _ _ at L;generalize wr.alloc (.cells (gW (.int .i64 0) A.length) 3)=w1 at*
   obtain⟨bd,b2⟩:∃bd,bd=wr.heap.size:=⟨_,rfl⟩;rw[<-b2] at L d6 G b7 ⊢;clear ho ht I b2 g2 HG
   go_loopg [3,6,7,8,9,10,11] (A.length-1) (fun g s3 _s6 _s7 _s8 _s9 _s10 _s11 wr=>∃(t:Nat) (v3:Value) (l:List VV),t<A.length/\g=A.length-1-t/\v3=s3/\OwP wr w.heap.size 192 v3 l/\TOK wr w.heap.size bd l (bS A t)/\Arr wr bd 3 ((jO A t).map (bQ .i64))/\Below w.heap.size w wr/\bd<wr.heap.size)
   case atStart=>exact⟨0,_,l,by omega,rfl,rfl,H,G,L,c0,by omega⟩
   case round=>
    clear H G L c0 d6;obtain⟨t,v3,l,e8,hg,rfl,H,G,L,I,b2⟩:=hrel;have HG:=hid hg;clear hg;have m7:=tS A t e8;have c4:=hid G.1;have m4:l.length+t=A.length:=by have:=c4.out;omega
    have b7:=I.size;clear m7
    by_cases c7:t+1<A.length
    ·obtain⟨a3,c3,rfl,m8,m9,d8⟩:=H.src.open;obtain⟨b3,o3,rfl,g3,g4⟩:=d8 (by omega);have u1:decide ((l.length:Int)>1)=true:=aG (by omega);have u2:decide (1<(l.length:Int))=true:=aG (by omega);have u3:1<l.length:=by omega
     have b5:=aFj (.slice (some ⟨b3,o3,none⟩) l.length c3) l _ wr H.src (by omega) (by omega) G.fst;obtain⟨V,c8⟩:∃V,V=cE.least (bS A t):=⟨_,rfl⟩;rw[c4.out,show oD (fun i=>((bS A t).getD i (0,.leaf 0)).1) (bS A t).length=V from c8.symm,<-c4.out] at b5;have d9:V<l.length:=by rw[c8,c4.out];exact(EQ _ _ (by rw[<-c4.out];omega)).1
     have r5:=hid c8;obtain⟨q0,e9⟩:∃q0,l[V]? =some q0:=⟨_,aN d9⟩;obtain⟨D,e0⟩:∃D,(bS A t)[V]? =some D:=⟨_,aN (by rw[<-c4.out];exact d9)⟩;have g5:cA (bS A t)=(D,(bS A t).eraseIdx V):=by
      unfold cA;rw[<-c8,bV,e0];rfl
     obtain⟨g6,M,g7,i2⟩:=G.2 V q0 D e9 e0;obtain⟨x0,f0⟩:∃x0:Value,q0.2=x0:=⟨_,rfl⟩;rw[f0] at M g7 i2;have r6:=g1.out t e8 D (cN e0);obtain⟨d0,d1⟩:=g4 V q0 e9;rw[g6] at d0;rw[f0] at d1;have f1:=hid g5;clear d8 g4 c8 e9 e0 g5 g6 f0;go_wp2_with fail;refine b5.mono ?_;rintro e w2 ⟨rfl,a8⟩;have d0:=(a8.cell (p:=⟨b3,o3+V*2,none⟩) g3).trans d0;have d1:=(a8.cell (p:=⟨b3,o3+V*2+1,none⟩) g3).trans d1;have H:=H.below a8 (aD _);have G:=G.below a8;have L:=L.below a8 b2;have I:=aW I a8;have b2:=Nat.lt_of_lt_of_le b2 a8.size;have M:=OwI.below M a8 (aD _)
     obtain⟨a0,a4,rfl,_,_,_⟩:=(OwI.rd M).open;obtain⟨Z,i3⟩:∃Z,(lvI D.2).length=Z:=⟨_,rfl⟩;rw[i3] at M g7 i2 d1;clear b5 a8 i3;have i4:=I.size;go_wp2_with fail;have O:=Arr.new w2 192 [.int .i64 D.1,.slice a0 Z a4];have H:=H.alloc (.cells #[.int .i64 D.1,.slice a0 Z a4] 192);have G:=G.alloc (.cells #[.int .i64 D.1,.slice a0 Z a4] 192);have L:=L.alloc (.cells #[.int .i64 D.1,.slice a0 Z a4] 192);have M:=OwI.alloc M (.cells #[.int .i64 D.1,.slice a0 Z a4] 192);have I:=I.alloc (o:=.cells #[.int .i64 D.1,.slice a0 Z a4] 192) i4
     have o0:(w2.alloc (.cells #[.int .i64 D.1,.slice a0 Z a4] 192)).heap.size=w2.heap.size+1:=by simp
     change Arr (w2.alloc (.cells #[.int .i64 D.1,.slice a0 Z a4] 192)) _ _ _ at O;generalize w2.alloc (.cells #[.int .i64 D.1,.slice a0 Z a4] 192)=w3 at*
     obtain⟨y0,i5⟩:∃y0,y0=w2.heap.size:=⟨_,rfl⟩;rw[<-i5] at O o0 b2 i4 ⊢;clear i5;refine(aFl (.slice (some ⟨b3,o3,none⟩) l.length c3) l V w3 H.src d9 (by omega) G.one).mono ?_;rintro e w4 ⟨v4,rfl,i6,b6⟩;have r7:=b6.size;have G:=(G.below b6).erase V;have L:=L.below b6 (by omega);have O:=O.below b6 (by omega);have M:=OwI.below M b6 (aD _);have I:=I.trans (b6.mono (by omega));have H:=OwP.base i6 (show w.heap.size<=w3.heap.size by omega);have o1:(l.eraseIdx V).length+1=l.length:=by rw[XP,aB d9];omega
     obtain⟨l1,i7⟩:∃l1,l1=l.eraseIdx V:=⟨_,rfl⟩;obtain⟨U,f3⟩:∃U,U=(bS A t).eraseIdx V:=⟨_,rfl⟩;have i8:∀p∈U,p∈bS A t:=fun p hp=>by rw[f3] at hp;exact(List.eraseIdx_sublist ..).subset hp
     rw[<-i7] at G H o1;rw[<-f3] at G f1;clear i6 b6 i7 f3 d0 d1;have d2:=hid G.1;obtain⟨r8,i9,rfl,r9,s0,j0⟩:=H.src.open;obtain⟨b4,o4,rfl,j1,j2⟩:=j0 (by omega);have b5:=aFj (.slice (some ⟨b4,o4,none⟩) l1.length i9) l1 _ w4 H.src (by omega) (by omega) G.fst;obtain⟨Y,e1⟩:∃Y,Y=cE.least U:=⟨_,rfl⟩;rw[d2.out,show oD (fun i=>(U.getD i (0,.leaf 0)).1) U.length=Y from e1.symm,<-d2.out] at b5;have e2:Y<l1.length:=by rw[e1,d2.out];exact(EQ _ _ (by rw[<-d2.out];omega)).1
     obtain⟨q1,f4⟩:∃q1,l1[Y]? =some q1:=⟨_,aN e2⟩;obtain⟨F,e3⟩:∃F,U[Y]? =some F:=⟨_,aN (by rw[<-d2.out];exact e2)⟩;have j3:cA U=(F,U.eraseIdx Y):=by
      unfold cA;rw[<-e1,bV,e3];rfl
     obtain⟨j4,a5,j5,j6⟩:=G.2 Y q1 F f4 e3;obtain⟨x1,f5⟩:∃x1:Value,q1.2=x1:=⟨_,rfl⟩;rw[f5] at a5 j5 j6;have s1:=g1.out t e8 F (i8 F (cN e3));obtain⟨d3,d4⟩:=j2 Y q1 f4;rw[j4] at d3;rw[f5] at d4;have j7:=hid j3;clear j0 j2 e1 f4 e3 j3 j4 f5 i8;go_wp2_with fail;refine b5.mono ?_;rintro e w5 ⟨rfl,a6⟩;have o2:=a6.size;have d3:=(a6.cell (p:=⟨b4,o4+Y*2,none⟩) j1).trans d3;have d4:=(a6.cell (p:=⟨b4,o4+Y*2+1,none⟩) j1).trans d4;have H:=H.below a6 (aD _);have G:=G.below a6;have L:=L.below a6 (by omega);have O:=O.below a6 (by omega);have I:=I.trans (a6.mono (by omega))
     have M:=OwI.below M a6 (aD _);have a5:=OwI.below a5 a6 (aD _);obtain⟨a1,a2,rfl,_,_,_⟩:=(OwI.rd a5).open;obtain⟨T,j8⟩:∃T,(lvI F.2).length=T:=⟨_,rfl⟩;rw[j8] at a5 j5 j6 d4;clear b5 a6 j8;go_wp2_with fail;have a7:=Arr.new w5 192 [.int .i64 F.1,.slice a1 T a2];have H:=H.alloc (.cells #[.int .i64 F.1,.slice a1 T a2] 192);have G:=G.alloc (.cells #[.int .i64 F.1,.slice a1 T a2] 192);have L:=L.alloc (.cells #[.int .i64 F.1,.slice a1 T a2] 192);have O:=O.alloc (.cells #[.int .i64 F.1,.slice a1 T a2] 192);have M:=OwI.alloc M (.cells #[.int .i64 F.1,.slice a1 T a2] 192)
     have a5:=OwI.alloc a5 (.cells #[.int .i64 F.1,.slice a1 T a2] 192);have I:=I.alloc (o:=.cells #[.int .i64 F.1,.slice a1 T a2] 192) (by omega);have o5:(w5.alloc (.cells #[.int .i64 F.1,.slice a1 T a2] 192)).heap.size=w5.heap.size+1:=by simp
     change Arr (w5.alloc (.cells #[.int .i64 F.1,.slice a1 T a2] 192)) _ _ _ at a7;generalize w5.alloc (.cells #[.int .i64 F.1,.slice a1 T a2] 192)=w6 at*
     obtain⟨y1,j9⟩:∃y1,y1=w5.heap.size:=⟨_,rfl⟩;rw[<-j9] at a7 o5 o2 ⊢;clear j9;refine(aFl (.slice (some ⟨b4,o4,none⟩) l1.length i9) l1 Y w6 H.src e2 (by omega) G.one).mono ?_;rintro e w7 ⟨v5,rfl,k0,b0⟩;have o6:=b0.size;have G:=(G.below b0).erase Y;have L:=L.below b0 (by omega);have O:=O.below b0 (by omega);have a7:=a7.below b0 (by omega);have M:=OwI.below M b0 (aD _);have a5:=OwI.below a5 b0 (aD _);have I:=I.trans (b0.mono (by omega));have H:=OwP.base k0 (show w.heap.size<=w6.heap.size by omega)
     have o7:(l1.eraseIdx Y).length+1=l1.length:=by rw[XP,aB e2];omega
     obtain⟨l2,k3⟩:∃l2,l2=l1.eraseIdx Y:=⟨_,rfl⟩;rw[<-k3] at G H o7;have k4:=hid (show oY A t=D.2.leaves++F.2.leaves by unfold oY;rw[f1.out];show _++(cA U).1.2.leaves=_;rw[j7.out]);have cE:=hid (show bS A (t+1)=U.eraseIdx Y++[(D.1+F.1,.node (A.length+t) D.2 F.2)] by
      show qV (A.length+t) (bS A t)=_;unfold qV;rw[f1.out];show(cA U).2++[(D.1+(cA U).1.1,.node _ D.2 (cA U).1.2)]=_;rw[j7.out])
     have k5:=(TH A t c7).2.2;have s2:(lvI D.2).length+(lvI F.2).length<=258:=by
      rw[k4.out,aL] at k5;unfold lvI;rw[aS,aS];omega
     have k6:=O.cell (i:=1) rfl;have k7:=a7.cell (i:=1) rfl;obtain⟨B,p2⟩:∃B,B=w7.heap.size:=⟨_,rfl⟩;rw[<-p2] at o6;have e4:w7.heap.size<=B:=by omega
     have k8:y0<B:=by omega
     have k9:y1<B:=by omega
     have p3:w7.drew.cell? ⟨y0,1,none⟩=some (.slice a0 Z a4)/\w7.drew.cell? ⟨y1,1,none⟩=some (.slice a1 T a2)/\Below B w7 w7.drew/\B<=w7.drew.heap.size:=⟨k6,k7,(aH B w7).drew,by show B<=w7.heap.size;omega⟩;clear k0 b0 k3 d3 d4 k6 k7;go_wp2_with fail
     go_region_held3 (fun w'=>w'.cell? ⟨y0,1,none⟩=some (.slice a0 Z a4)/\w'.cell? ⟨y1,1,none⟩=some (.slice a1 T a2)/\Below B w7 w'/\B<=w'.heap.size)
      (first
       |with_reducible assumption
       |with_reducible exact aX5 (by assumption) (by assumption)
       |with_reducible exact aX6 (by assumption) (by assumption) k8 k9)
      (first
       |(refine TC rfl _ _ rfl B (.slice none 0 0) [] rfl (OwI.nil _ _) (.slice a0 Z a4) (lvI D.2) rfl (aFv M e4 (by assumption)) ?_ ?_ ?_;(simp only[aV];omega);(exact aFw (by assumption));intro v8 w8 o8 b8 g8)
       |(refine TC rfl _ _ rfl B _ ([]++lvI D.2) rfl (by assumption) (.slice a1 T a2) (lvI F.2) rfl (aFv a5 e4 (by assumption)) ?_ ?_ ?_;(simp only[aL,aV];omega);(exact aFw (by assumption));intro v9 w9 o9 b9 g9))
     have f6:=(show w9.cell? ⟨y0,1,none⟩=some (.slice a0 Z a4)/\w9.cell? ⟨y1,1,none⟩=some (.slice a1 T a2)/\Below B w7 w9/\B<=w9.heap.size by assumption);have c5:=f6.2.2.1;have s5:=f6.2.2.2;have G:=(G.below (c5.mono e4));have L:=L.below c5 (by omega);have O:=O.below c5 k8;have a7:=a7.below c5 k9;have I:=I.trans (c5.mono (by omega));have H:=H.below c5 e4;have f7:=hid (show lvI (.node (A.length+t) D.2 F.2)=(oY A t).map (fun n:Nat=>((n:Nat):Int)) by rw[k4.out];rfl);have o9:OwI w9 B v9 (lvI (.node (A.length+t) D.2 F.2)):=by
      have e:lvI (.node (A.length+t) D.2 F.2)=([]++lvI D.2)++lvI F.2:=by
       show(D.2.leaves++F.2.leaves).map _=_;rw[dY];rfl
      rw[e];exact o9
     rw[f7.out] at o9;obtain⟨J,d5⟩:∃J,J=oY A t:=⟨_,rfl⟩;rw[<-d5] at o9 k5 f7;have p4:=hid d5;have f8:=fun(j y:Nat) (h:J[j]? =some y)=>aX4 A t c7 (j:=j) (y:=y) (by rw[<-d5];exact h)
     rw[<-d5] at f8;have l3:=hid f8;obtain⟨a9,c9,rfl,p5,s6,f9⟩:=(OwI.rd o9).open;have g0:(J.map (fun n:Nat=>((n:Nat):Int))).length=J.length:=aS ..;rw[g0] at p5 f9 o9;rw[g0];clear M a5 f6 p3 g0 f8 d5 o8 b8 g8 b9 g9;go_wp2_with fail
     go_loopg [11] J.length (fun g p6 wy=>∃j:Nat,j<=J.length/\g=J.length-j/\p6=.int .i64 (j:Int)/\Arr wy bd 3 ((lZ (jO A t) (J.take j)).map (bQ .i64))/\w9.grownBy wy (some bd))
     case atStart=>exact⟨0,aO _,rfl,rfl,L,⟨rfl,rfl,rfl,aD _,fun _ _ _=>rfl⟩⟩
     case round=>
      obtain⟨j,hj,hg,rfl,c6,b1⟩:=hrel;have p7:=hid hg;clear hg
      by_cases e5:j<J.length
      ·have v1:decide ((j:Int)<(J.length:Int))=true:=aG (by omega);obtain⟨y,hy⟩:∃y,J[j]? =some y:=⟨_,aN e5⟩;obtain⟨s7,d,hd,s8,s9,l4⟩:=l3.out j y hy;obtain⟨b9,l5,rfl,p8,l6⟩:=f9 (by omega);have t0:=(Ow.lt o9 b9 rfl).1;have c1:=(show wr.cell? ⟨b9,l5+j,none⟩=w9.cell? ⟨b9,l5+j,none⟩ from World.cell?_of_block (w:=w9) (b1.block b9 p8 (by simp only[ne_eq,lJ];omega))).trans (l6 j (y:Int) (by rw[eQ,hy];rfl));have c2:=c6.cell (i:=y) (v:=.int .i64 d) (by rw[eQ,hd];rfl);have f2:=c6.free y;have v2:((y:Nat):Int)<(A.length:Int):=by omega
       have v3:aJ.wrap (d+1)=d+1:=by rw[aM];omega
       have HN:=hid l4;clear hy hd l6 l4;go_wp2_with fail
       go_region
       all_goals go_wp2_with fail
       have t1:=p7.out
       go_roundg (J.length-(j+1))
       case measure=>omega
       case rel=>
        refine⟨j+1,by omega,rfl,by go_num,?_,qP (eU b1 (gD _ _ _ _))⟩;have:=c6.set y (.int .i64 (d+1));rw[<-AP,<-HN.out] at this;exact this
      ·have v1:decide ((j:Int)<(J.length:Int))=false:=aE (by omega);have p9:j=J.length:=by omega
       subst p9;rw[jS,p4.out,<-aFt] at c6;have q2:some y0≠some bd:=by simp only[ne_eq,lJ];omega
       have q3:some y1≠some bd:=by simp only[ne_eq,lJ];omega
       have O:=O.grown b1 q2;have a7:=a7.grown b1 q3;have H:=H.kept b1 (.inr (MG L H (by decide)).symm);have G:=G.map (fun v m k1 k2=>⟨Ow.kept k1 b1 k2,k2⟩);have o9:OwI wr B (.slice a9 J.length c9) (J.map (fun n:Nat=>((n:Nat):Int))):=Ow.kept o9 b1 (lD o9 (by omega));have I:=I.grown b1 (by omega) (fun k hk=>by obtain rfl:=cC hk;omega);have t2:=b1.size;have d0:=O.cell (i:=0) rfl;have d3:=a7.cell (i:=0) rfl;have m1:aJ.wrap (D.1+F.1)=D.1+F.1:=by have:=m2.out;rw[aM];omega
       have d7:=nN.new wr 192 (.int .i64 (D.1+F.1),.slice a9 J.length c9);have e6:=H.alloc (.cells #[.int .i64 (D.1+F.1),.slice a9 J.length c9] 192);have q4:=G.alloc (.cells #[.int .i64 (D.1+F.1),.slice a9 J.length c9] 192);have l7:=c6.alloc (.cells #[.int .i64 (D.1+F.1),.slice a9 J.length c9] 192);have l8:=OwI.alloc o9 (.cells #[.int .i64 (D.1+F.1),.slice a9 J.length c9] 192);have q5:=I.alloc (o:=.cells #[.int .i64 (D.1+F.1),.slice a9 J.length c9] 192) (by omega);have t3:(wr.alloc (.cells #[.int .i64 (D.1+F.1),.slice a9 J.length c9] 192)).heap.size=wr.heap.size+1:=by simp
       have q6:(l2.length+1)*32<=140737488355328:=by omega
       clear H G c6 L O a7 I f9 l3;go_wp2_with (at_builtin;refine aFh CJ rfl _ _ rfl w.heap.size _ l2 rfl e6 _ [(.int .i64 (D.1+F.1),.slice a9 J.length c9)] rfl d7 (fun q hq=>by obtain rfl:=cP.1 hq;exact⟨rfl,rfl⟩) ?_ ?_ ?_;(exact q6);(omega);intro t4 q7 q8 r2 r3);have e7:(wr.alloc (.cells #[.int .i64 (D.1+F.1),.slice a9 J.length c9] 192)).grownBy q7 v5.ownBlock:=r3;have t5:=e7.size;have hg:=HG.out
       go_roundg (A.length-1-(t+1))
       case measure=>omega
       case rel=>
        refine⟨t+1,_,_,c7,rfl,rfl,q8,?_,l7.grown e7 (MG l7 e6 (by decide)),q5.trans r2,by omega⟩;rw[cE.out];refine TOK.snoc (q4.app e6 e7 (.inl rfl)) rfl ?_ ?_ rfl
        ·rw[f7.out];exact Ow.base (Ow.kept l8 e7 (uV l8 e6 (by decide))) (by omega)
        ·exact lD o9 (by omega)
    ·have u1:decide ((l.length:Int)>1)=false:=aE (by omega);have u2:decide (1<(l.length:Int))=false:=aE (by omega);have u3:¬1<l.length:=by omega
     have l9:t=A.length-1:=by omega
     have e5:nK A=jO A t:=by rw[l9];rfl
     have m0:((jO A t).map (bQ .i64)).length=A.length:=by rw[aS,wD]
     have ho:=L.own (B:=w.heap.size) (by omega) (by rw[m0];simp only[maxLen];omega);rw[m0,<-e5] at ho;obtain⟨a3,c3,rfl,m8,m9,d8⟩:=H.src.open;clear d8 l9 e5;go_wp2_with fail;go_ret;exact⟨_,rfl,ho,I⟩
theorem aX8 (v:Value) (l:List Int) (w:World) (D:RdI w v l) (d:∀x∈l,0<=x/\x<=1048576):
  Calls pG 95 #[v] w fun e w'=>e=.returned (.bool true)/\w'=w:=by
 obtain⟨a,T,rfl,U,H,F⟩:=D.open;unfold maxLen at H;have I:=hid d;clear d D;go_enter func95,ntmps95;go_wp2_with fail
 go_loopg [3] l.length (fun g J wr=>∃k:Nat,k<=l.length/\g=l.length-k/\J=.int .i64 (k:Int)/\wr=w)
 case atStart=>exact⟨0,aO _,rfl,rfl,rfl⟩
 case round=>
  obtain⟨k,V,h,rfl,rfl⟩:=hrel;have L:=hid h;clear h
  by_cases M:k<l.length
  ·have O:decide ((k:Int)<(l.length:Int))=true:=aG (by omega);obtain⟨b,off,rfl,d,G⟩:=F (by omega);obtain⟨x,A⟩:=eG M;have Y:=G k x A;have Z:=I.out x (cN A);have v1:decide (x<0)=false:=aE (by omega);have v2:decide (x>1048576)=false:=aE (by omega);have v3:decide (1048576<x)=false:=aE (by omega);clear G F A;go_wp2_with fail;have h:=L.out
   go_roundg (l.length-(k+1))
   case measure=>omega
   case rel=>exact⟨k+1,by omega,rfl,by go_num,rfl⟩
  ·have O:decide ((k:Int)<(l.length:Int))=false:=aE (by omega);go_wp2_with fail;go_ret;exact⟨rfl,rfl⟩
theorem aX9 (v:Value) (l:List Int) (w:World) (F:RdI w v l) (h:∀x∈l,x<=20):
  Calls pG 97 #[v] w fun e w'=>∃d:Int,e=.returned (.int .i64 d)/\d<=20/\w'=w:=by
 obtain⟨a,ca,rfl,a1,I,G⟩:=F.open;unfold maxLen at I;have J:=hid h;clear h F;go_enter func97,ntmps97;go_wp2_with fail
 go_loopg [3,4] l.length (fun g L O wr=>∃(k:Nat) (d:Int),k<=l.length/\g=l.length-k/\O=.int .i64 (k:Int)/\L=.int .i64 d/\d<=20/\wr=w)
 case atStart=>exact⟨0,0,aO _,rfl,rfl,rfl,by omega,rfl⟩
 case round=>
  obtain⟨k,d,hk,A,rfl,rfl,T,rfl⟩:=hrel;have U:=hid A;clear A
  by_cases V:k<l.length
  ·have Y:decide ((k:Int)<(l.length:Int))=true:=aG (by omega);obtain⟨b,off,rfl,h,H⟩:=G (by omega);obtain⟨x,D⟩:=eG V;have c1:=H k x D;have a2:=J.out x (cN D);obtain⟨M,Z⟩:∃M,max d x=M:=⟨_,rfl⟩;have a3:(if d<x then x else d)=M:=by rw[<-Z];split<;>omega
   have a0:M<=20:=by omega
   clear H G D;go_wp2_with fail;have A:=U.out
   go_roundg (l.length-(k+1))
   case measure=>omega
   case rel=>exact⟨k+1,M,by omega,rfl,by go_num,rfl,a0,rfl⟩
  ·have Y:decide ((k:Int)<(l.length:Int))=false:=aE (by omega);go_wp2_with fail;go_ret;exact⟨d,rfl,T,rfl⟩
theorem aYa (v:Value) (l:List Int) (w:World) (F:RdI w v l) (h2:2<=l.length) (a1:l.length<=258) (A:∀x∈l,0<=x/\x<=20000) (J:l.sum<=20000):
  Calls pG 79 #[v,.int .i64 20] w fun e w'=>∃O,e=.returned (.tuple #[O,.int .i64 0])/\OwI w' w.heap.size O (qX l)/\Below w.heap.size w w':=by
 have a2:=hid (RP h2 a1 (fun x h=>(A x h).1) J);have a3:=hid (LB l (fun x h=>(A x h).1));have HS:=hid J;have b1:=F;obtain⟨a,ca,rfl,b2,a4,T⟩:=F.open;unfold maxLen at a4;obtain⟨b,off,rfl,hb,U⟩:=T (by omega);have HC:=hid U;have HB:=hid A;have t1:decide ((l.length:Int)<2)=false:=aE (by omega);have t2:decide ((l.length:Int)>258)=false:=aE (by omega);have t3:decide (258<(l.length:Int))=false:=aE (by omega);have a5:=aX8 _ l w F (fun x h=>by have:=A x h;omega);clear T U F J A;go_enter func79,ntmps79;go_wp2_with fail;refine a5.mono ?_;rintro e w' ⟨rfl,rfl⟩
 go_wp2_with fail
 go_loopg [7,8] l.length (fun g s7 s8 wr=>∃(k:Nat) (G:Value),k<=l.length/\g=l.length-k/\G=s7/\s8=.int .i64 (k:Int)/\OwI wr w'.heap.size G ((l.take k).map (fun x=>max x 1))/\Below w'.heap.size w' wr)
 case atStart=>exact⟨0,_,aO _,rfl,rfl,rfl,OwI.nil _ _,aH _ _⟩
 case round=>
  obtain⟨k,G,hk,L,rfl,rfl,H,D⟩:=hrel;have HG:=hid L;clear L;have V:=D.size;have b3:((l.take k).map (fun x=>max x 1)).length=k:=by rw[aS,aQ];omega
  by_cases a6:k<l.length
  ·have u1:decide ((k:Int)<(l.length:Int))=true:=aG (by omega);obtain⟨x,h⟩:=eG a6;have c1:=(D.cell (p:=⟨b,off+k,none⟩) hb).trans (HC.out k x h);obtain⟨M,Y⟩:∃M,max x 1=M:=⟨_,rfl⟩;have b4:(if x<1 then 1 else x)=M:=by rw[<-Y];split<;>omega
   have HT:=hid (show(l.take (k+1)).map (fun x=>max x 1)=(l.take k).map (fun x=>max x 1)++[M] by rw[cG,h,dY,<-Y];rfl);clear h;go_wp2_with (at_builtin;refine gK rfl _ _ rfl w'.heap.size _ _ rfl (OwI.alloc H _) _ M rfl (bX _ _ _) ?_ ?_ ?_;(omega);(simp;omega);intro v4 w4 r1 r2 r3);have L:=HG.out
   go_roundg (l.length-(k+1))
   case measure=>omega
   case rel=>exact⟨k+1,_,by omega,rfl,rfl,by go_num,by rw[HT.out];exact r1,(D.alloc V _).trans r2⟩
  ·have u1:decide ((k:Int)<(l.length:Int))=false:=aE (by omega);rw[cD (by omega)] at H;have Z:=aX7 G (l.map (fun x=>max x 1)) wr (OwI.rd H) (by rw[aS];omega) (by rw[aS];omega) (fun x h=>by
    obtain⟨y,_,rfl⟩:=eK.1 h;omega) (by have:=a3.out;have:=HS.out;omega)
   go_wp2_with fail;refine Z.mono ?_;rintro e w5 ⟨v9,rfl,I,a0⟩;have a7:nK (l.map (fun x=>max x 1))=qX l:=rfl;rw[a7] at I;have a8:=aW D a0;have a9:=Ow.base I V;have b0:=aX9 v9 (qX l) w5 (OwI.rd I) (fun x h=>(a2.out.1.2.2 x h).2);clear H Z D a0 I;go_wp2_with fail
   go_loopg [7,9,10,11] 0 (fun g _s7 s9 _s10 _s11 wx=>g=0/\s9=v9/\wx=w5)
   case atStart=>exact⟨rfl,rfl,rfl⟩
   case round=>
    obtain⟨_,rfl,rfl⟩:=hrel;go_wp2_with fail;refine b0.mono ?_;rintro e w6 ⟨d,rfl,hd,rfl⟩;have v1:decide (d>20)=false:=aE (by omega);have v2:decide (20<d)=false:=aE (by omega);go_wp2_with fail
    go_ret2
    exact⟨_,rfl,a9,a8⟩
def LOK (w:World) (d:List Value) (e:List (List Int)):Prop:=d.length=e.length/\∀(j:Nat) (x:Value) (g:List Int),d[j]? =some x->e[j]? =some g->RdI w x g
theorem LOK.nil (w:World):LOK w [] []:=by simp[LOK]
theorem LOK.below {w w':World} {d:List Value} {e:List (List Int)} (h:LOK w d e) (A:Below w.heap.size w w'):LOK w' d e:=⟨h.1,fun j x g D F=>(h.2 j x g D F).below A⟩
theorem LOK.snoc {w:World} {d:List Value} {e:List (List Int)} (h:LOK w d e) {x:Value} {g:List Int} (A:RdI w x g):LOK w (d++[x]) (e++[g]):=by grind [LOK,RdI]
def RdL (w:World) (v:Value) (d:List (List Int)):Prop:=∃e,Rd w v d.length e/\LOK w e d
theorem RdL.below {w w':World} {v:Value} {d:List (List Int)} (h:RdL w v d) (e:Below w.heap.size w w'):RdL w' v d:=by
 obtain⟨A,D,F⟩:=h;exact⟨A,D.below e,F.below e⟩
theorem RdL.open {w:World} {v:Value} {d:List (List Int)} (h:RdL w v d):∃a cap,v=.slice a d.length cap/\d.length<=cap/\cap<=maxLen/\
  (0<d.length->∃b off,a=some ⟨b,off,none⟩/\b<w.heap.size/\∀(j:Nat) (g:List Int),d[j]? =some g->∃x,w.cell? ⟨b,off+j,none⟩=some x/\RdI w x g):=by
 obtain⟨e,⟨a,cap,rfl,A,D,F⟩,G,H⟩:=h
 grind
theorem CK:ElT pG 110 55 24 (.slice none 0 0):=ElT.mk' (by kernel_rfl) underlying110 rfl (by decide)
theorem Ow.rdL {w:World} {B:Nat} {v:Value} {d:List Value} {e:List (List Int)} (h:Ow w B 55 v d) (A:LOK w d e):RdL w v e:=⟨d,by rw[<-A.1];exact h.rd,A⟩
theorem aYb {m:List Int} {k:Nat} (h:10*k<m.length):(dA m)[k]? =some ((m.drop (10*k)).take 10):=BY m k (by omega)
theorem aYc {m:List Int} {k:Nat} (h:10*k<m.length):(dA m).take (k+1)=(dA m).take k++[(m.drop (10*k)).take 10]:=by rw[cG,aYb h];rfl
theorem aYd {w:World} {b off cap:Nat} {m:List Int} (e:b<w.heap.size) (A:∀j x,m[j]? =some x->w.cell? ⟨b,off+j,none⟩=some (.int .i64 x)) (D:m.length<=cap) (F:cap<=maxLen) (i h:Nat) (G:i<=m.length) (H:h=min (i+10) m.length):
  RdI w (.slice (some ⟨b,off+i,none⟩) (h-i) (cap-i)) ((m.drop i).take 10):=by
 have d:((m.drop i).take 10).length=h-i:=by grind
 refine⟨_,cap-i,by rw[d],by rw[d];omega,by omega,.inr ⟨b,off+i,rfl,e,fun j I=>?_⟩⟩
 grind
theorem aYe {w:World} {a:Option Addr} {n c:Nat} {l:List Int} (h:RdI w (.slice a n c) l):∀b off,a=some ⟨b,off,none⟩->0<l.length->b<w.heap.size/\∀j x,l[j]? =some x->w.cell? ⟨b,off+j,none⟩=some (.int .i64 x):=fun b off e d=>by
 obtain⟨A,D,F,_,_,G⟩:=h.open
 grind
theorem Ow.cellAt {w:World} {B e b off n c:Nat} {A:List Value} (h:Ow w B e (.slice (some ⟨b,off,none⟩) n c) A) {j:Nat} {x:Value} (D:A[j]? =some x):w.cell? ⟨b,off+j,none⟩=some x:=by
 obtain⟨H,h⟩:=h;rcases h with⟨d,_⟩|⟨g,cap,F,d,I,G,J,L,M,O⟩
 ·cases d
 ·cases d
  have T:=(eF.1 D).1;rw[Nat.zero_add,cell_of_row w _ j F e (0,0) G]
  grind
theorem Ow.openN {w:World} {B e:Nat} {v:Value} {d:List Value} (h:Ow w B e v d) (A:0<d.length):∃b off c,v=.slice (some ⟨b,off,none⟩) d.length c:=by
 rcases h.2 with⟨rfl,e⟩|⟨g,cap,D,rfl,_⟩
 ·omega
 simp
theorem aFx (v:Value) (m:List Int) (w w0:World) (L:RdI w v m) (M:RdI w0 v m) (hm:m.length<=1000000):
  Calls pG 65 #[v] w fun e w'=>∃O d,e=.returned O/\Ow w' w.heap.size 55 O d/\LOK w0 d (dA m)/\Below w.heap.size w w':=by
 obtain⟨a,D,rfl,a2,T,U⟩:=L.open;have V:=aYe M;have a3:=hid T;unfold maxLen at T;clear L M;go_enter func65,ntmps65;go_wp2_with fail
 go_loopg [3,4] ((m.length+9)/10) (fun g s3 s4 wr=>∃(k:Nat) (G:Value) (d:List Value),k<=(m.length+9)/10/\g=(m.length+9)/10-k/\G=s3/\s4=.int .i64 ((10*k:Nat):Int)/\Ow wr w.heap.size 55 G d/\LOK w0 d ((dA m).take k)/\Below w.heap.size w wr)
 case atStart=>exact⟨0,_,[],aO _,rfl,rfl,rfl,Ow.nil _ _ _,LOK.nil _,aH _ _⟩
 case round=>
  obtain⟨k,G,d,hk,H,rfl,rfl,Y,F,I⟩:=hrel;have HG:=hid H;clear H;have a4:=I.size;have a6:d.length=k:=by rw[F.1,aQ,kR];omega
  obtain⟨i,A⟩:∃i,10*k=i:=⟨_,rfl⟩;rw[A];have Z:=hid A;clear A
  by_cases a7:i<m.length
  ·have u1:decide ((i:Int)<(m.length:Int))=true:=aG (by omega);obtain⟨b,off,rfl,hb,hc⟩:=U (by omega);obtain⟨a0,a1⟩:=V b off rfl (by omega);obtain⟨h,J⟩:∃h,h=min (i+10) m.length:=⟨_,rfl⟩;have m1:aJ.wrap ((i:Int)+10)=(i:Int)+10:=by rw[aM];omega
   have m2:min ((i:Int)+10) (m.length:Int)=(h:Int):=by omega
   have m3:(if(m.length:Int)<(i:Int)+10 then(m.length:Int) else(i:Int)+10)=(h:Int):=by split<;>omega
   have m4:(if(i:Int)+10<(m.length:Int) then(i:Int)+10 else(m.length:Int))=(h:Int):=by split<;>omega
   have a8:∀W,(Instr.sliceAt 55 (.slice (some ⟨b,off,none⟩) m.length D) (some (.int .i64 (i:Int))) (some (.int .i64 (h:Int))) none).run pG W=.ok (.slice (some ⟨b,off+i,none⟩) (h-i) (D-i)) W:=fun W=>by
    have k1:(0:Int)<=(i:Int):=by omega
    have k2:(i:Int)<=(h:Int):=by omega
    have k3:(h:Int)<=(D:Int):=by omega
    have k4:¬D=i:=by omega
    by_cases h0:i=0
    ·subst h0;simp[go_sem,k3,k4,gP]
    ·simp[go_sem,k2,k3,k4,gP,h0]
   have HP:=hid (aYd a0 a1 a2 a3.out i h (by omega) J);have a5:(d.length+1)*24<=140737488355328:=by omega
   clear hc U a1 a0 V hb;have HH:=hid J;clear J;go_wp2_with (at_builtin;refine tM CK rfl _ _ rfl w.heap.size _ d rfl (Ow.alloc Y _) wr.heap.size (.slice (some ⟨b,off+i,none⟩) (h-i) (D-i)) rfl (bX _ _ _) rfl ?_ ?_ ?_;(exact a5);(simp;omega);intro v4 w4 r1 r2 r3);have H:=HG.out;have A:=Z.out
   go_roundg ((m.length+9)/10-(k+1))
   case measure=>omega
   case rel=>
    refine⟨k+1,_,_,by omega,rfl,rfl,?_,r1,?_,(I.alloc a4 _).trans r2⟩
    ·rw[<-A];go_num
    ·rw[aYc (by omega),A];exact F.snoc HP.out
  ·have u1:decide ((i:Int)<(m.length:Int))=false:=aE (by omega);have A:=Z.out;rw[cD (by rw[kR];omega)] at F;clear A;go_wp2_with fail;go_ret;exact⟨_,_,rfl,Y,F,I⟩
theorem aYf (v:Value) (m:List Int) (w:World) (h:RdI w v m) (D:m.length<=1000000):
  Calls pG 65 #[v] w fun e w'=>∃d,e=.returned d/\RdL w' d (dA m)/\Below w.heap.size w w':=
 (aFx v m w w h h D).mono fun _ _ ⟨d,_,F,G,H,A⟩=>⟨d,F,G.rdL (H.below A),A⟩
theorem aFy (v:Value) (l:List Int) (n:Nat) (w:World) (D:RdI w v l) (d:∀x∈l,0<=x/\x<(n:Int)):
  Calls pG 78 #[v,.int .i64 (n:Int)] w fun e w'=>e=.returned (.bool false)/\w'=w:=by
 obtain⟨a,T,rfl,U,H,F⟩:=D.open;unfold maxLen at H;have I:=hid d;clear d D;go_enter func78,ntmps78;go_wp2_with fail
 go_loopg [5] l.length (fun g J wr=>∃k:Nat,k<=l.length/\g=l.length-k/\J=.int .i64 (k:Int)/\wr=w)
 case atStart=>exact⟨0,aO _,rfl,rfl,rfl⟩
 case round=>
  obtain⟨k,V,h,rfl,rfl⟩:=hrel;have L:=hid h;clear h
  by_cases M:k<l.length
  ·have O:decide ((k:Int)<(l.length:Int))=true:=aG (by omega);obtain⟨b,off,rfl,d,G⟩:=F (by omega);obtain⟨x,A⟩:=eG M;have Y:=G k x A;have Z:=I.out x (cN A);have v1:decide (x<0)=false:=aE (by omega);have v2:decide (x>=(n:Int))=false:=aE (by omega);have v3:decide ((n:Int)<=x)=false:=aE (by omega);clear G F A;go_wp2_with fail;have h:=L.out
   go_roundg (l.length-(k+1))
   case measure=>omega
   case rel=>exact⟨k+1,by omega,rfl,by go_num,rfl⟩
  ·have O:decide ((k:Int)<(l.length:Int))=false:=aE (by omega);go_wp2_with fail;go_ret;exact⟨rfl,rfl⟩
theorem aFz {l g:List Int} (h:bM l=0) (d:∀x∈g,0<=x/\x<(l.length:Int)):qW l g=oV l g:=by grind [qW,aB8,aTd,bM,oV]
theorem aF0 {l g:List Int} {k:Nat} {x:Int} (h:g[k]? =some x):oV l (g.take (k+1))=oV l (g.take k)+l.getD x.toNat 0:=by grind [cG,aB9,oV]
theorem aF1 (v u:Value) (l g:List Int) (w:World) (O:RdI w v l) (T:RdI w u g) (H:bM l=0) (d:∀x∈g,0<=x/\x<(l.length:Int)) (b5:g.length<=1000):
  Calls pG 81 #[v,u] w fun e w'=>e=.returned (.tuple #[.int .i64 (qW l g),.int .i64 0])/\Below w.heap.size w w':=by
 rw[aFz H d];have I:=(gE H).1;have F:=LV v l w O;rw[H] at F;have F:=F.mono (fun e w' (h:e=.returned (.int .i64 0)/\w'=w)=>(⟨h.1,by rw[h.2];exact aH _ _⟩:e=.returned (.int .i64 0)/\Below w.heap.size w w'));have a7:=hid (fun k=>aCa I.2.2 (g.take k));have HX:=hid d;have Z:=hid (fun(x:Int) (h:0<=x/\x<(l.length:Int))=>show l[x.toNat]? =some (l.getD x.toNat 0) by
  rw[bV,aN (show x.toNat<l.length by omega)];rfl)
 have a0:=fun W (h:RdI W u g)=>aFy u g l.length W h d
 have b6:=I.1;have a8:=hid (fun(x:Int) (h:0<=x/\x<(l.length:Int))=>I.2.2 (l.getD x.toNat 0) (cN (Z.out x h)));obtain⟨a,ca,rfl,b7,a9,hA⟩:=O.open;unfold maxLen at a9;obtain⟨b,off,rfl,hb,hc⟩:=hA (by omega);obtain⟨a2,c2,rfl,b8,b0,a1⟩:=T.open;unfold maxLen at b0;clear O hA I d H;go_enter func81,ntmps81;go_wp2_with fail;refine F.mono ?_;rintro e w1 ⟨rfl,J⟩;have a3:=T.below J;have HC:=hid (fun j x (A:l[j]? =some x)=>((pJ J).1 b (off+j) hb).trans (hc j x A))
 have b1:=hid (fun G L (h:G<w.heap.size) (h2:∀j x,g[j]? =some x->w.cell? ⟨G,L+j,none⟩=some (.int .i64 x)) j x (A:g[j]? =some x)=>((pJ J).1 G (L+j) h).trans (h2 j x A));clear F hc;go_wp2_with fail;refine(a0 _ a3).mono ?_;rintro e w2 ⟨rfl,rfl⟩;clear a0 T a3;go_wp2_with fail
 go_loopg [7,8] g.length (fun gg s7 s8 wr=>∃k:Nat,k<=g.length/\gg=g.length-k/\s8=.int .i64 (k:Int)/\s7=.int .i64 (oV l (g.take k))/\wr=w2)
 case atStart=>exact⟨0,aO _,rfl,rfl,rfl,rfl⟩
 case round=>
  obtain⟨k,hk,d,rfl,rfl,rfl⟩:=hrel;have HG:=hid d;clear d;have a4:=a7.out k;rw[aQ,Nat.min_eq_left hk] at a4
  by_cases b3:k<g.length
  ·have u1:decide ((k:Int)<(g.length:Int))=true:=aG (by omega);obtain⟨G,L,rfl,b4,a5⟩:=a1 (by omega);obtain⟨x,A⟩:=eG b3;have c1:=b1.out G L b4 a5 k x A;have M:=HX.out x (cN A);have U:=Z.out x M;have a6:=a8.out x M;have HT:=hid (aF0 (l:=l) A);obtain⟨X,rfl⟩:∃X:Nat,x=(X:Int):=⟨x.toNat,by omega⟩;rw[fL] at U a6 HT;have c2:=HC.out X _ U;obtain⟨S,V⟩:∃S,S=oV l (g.take k):=⟨_,rfl⟩;obtain⟨D,Y⟩:∃D,D=l.getD X 0:=⟨_,rfl⟩;rw[<-V,<-Y] at HT;rw[<-V] at a4 ⊢;rw[<-Y] at a6 c2;have m1:aJ.wrap (S+D)=S+D:=by rw[aM];omega
   have v1:(X:Int)<(l.length:Int):=M.2;have v2:X<l.length:=by omega
   clear A U a5 a1 V Y M;go_wp2_with fail;have d:=HG.out
   go_roundg (g.length-(k+1))
   case measure=>omega
   case rel=>exact⟨k+1,by omega,rfl,by go_num,by rw[HT.out],rfl⟩
  ·have u1:decide ((k:Int)<(g.length:Int))=false:=aE (by omega);rw[cD (by omega)];go_wp2_with fail
   go_ret2
   exact⟨rfl,J⟩
theorem aF2 {m:List Int} {n wh k:Nat} {x:Int} (h:m[k]? =some x):eH m n wh (k+1)=if k/10%2=wh then(eH m n wh k).set x.toNat ((eH m n wh k).getD x.toNat 0+1) else eH m n wh k:=by grind [eH]
theorem aYg (v:Value) (m:List Int) (n wh:Nat) (w:World) (Z:RdI w v m) (hm:m.length<=1000000) (hn:n<=1000) (hw:wh<=1) (F:∀x∈m,0<=x/\x<(n:Int)):
  Calls pG 80 #[v,.int .i64 (n:Int),.int .i64 (wh:Int)] w fun e w'=>∃v',e=.returned v'/\OwI w' w.heap.size v' (mW m n wh)/\Below w.heap.size w w':=by
 have HX:=hid F;have a4:=hid (fun k hk=>(BZ m n wh F k hk).2.2);have a0:=hid (xO m n wh);obtain⟨a,ca,rfl,b0,a5,T⟩:=Z.open;unfold maxLen at a5;have a1:aX n (bQ .i64 0)=(eH m n wh 0).map (bQ .i64):=by show _=(aX n (0:Int)).map _;rw[DM]
 clear Z F;go_enter func80,ntmps80;go_wp2_with (at_make;refine mkA jL rfl _ _ rfl n rfl rfl ?_ ?_;omega);have h:=Arr.made w 3 (.int .i64 0) n;rw[a1] at h;have hB:=bD (aH w.heap.size w) (.cells (gW (.int .i64 0) n) 3);change Arr (w.alloc (.cells (gW (.int .i64 0) n) 3)) _ _ _ at h;generalize w.alloc (.cells (gW (.int .i64 0) n) 3)=w1 at*
 clear a1
 go_loopg [8] m.length (fun g s8 wr=>∃k:Nat,k<=m.length/\g=m.length-k/\s8=.int .i64 (k:Int)/\Arr wr w.heap.size 3 ((eH m n wh k).map (bQ .i64))/\Below w.heap.size w wr)
 case atStart=>exact⟨0,aO _,rfl,rfl,h,hB⟩
 case round=>
  clear h hB;obtain⟨k,hk,H,rfl,h,I⟩:=hrel;have HG:=hid H;clear H
  by_cases a6:k<m.length
  ·have u1:decide ((k:Int)<(m.length:Int))=true:=aG (by omega);obtain⟨b,off,rfl,hb,U⟩:=T (by omega);obtain⟨x,F⟩:=eG a6;have c1:=(I.cell (p:=⟨b,off+k,none⟩) hb).trans (U k x F);have V:=HX.out x (cN F);have A:=aF2 (n:=n) (wh:=wh) F;obtain⟨X,rfl⟩:∃X:Nat,x=(X:Int):=⟨x.toNat,by omega⟩;rw[fL] at A;obtain⟨q,J⟩:∃q,q=k/10:=⟨_,rfl⟩;obtain⟨p,L⟩:∃p,p=q%2:=⟨_,rfl⟩;have m1:(k:Int).tdiv 10=(q:Int):=by rw[J];exact Int.ofNat_tdiv k 10
   have m2:(q:Int).tmod 2=(p:Int):=by rw[L];exact Int.ofNat_tmod q 2
   have m3:aJ.wrap (q:Int)=(q:Int):=by rw[aM];omega
   have m4:(k:Int)/10=(q:Int):=by omega
   have m5:(q:Int)%2=(p:Int):=by omega
   rw[<-J,<-L] at A
   by_cases G:p=wh
   ·rw[aB G] at A;have u2:((p:Int)==(wh:Int))=true:=by rw[beq_iff_eq,G]
    have a2:=a0.out k;obtain⟨D,M⟩:∃D,D=eH m n wh k:=⟨_,rfl⟩;have O:D[X]? =some (D.getD X 0):=by rw[bV,aN (by rw[M,a2];omega)];rfl
    have a7:=a4.out k (by omega) (D.getD X 0) (by rw[<-M];exact cN O);rw[<-M] at A h;obtain⟨d,hd⟩:∃d,d=D.getD X 0:=⟨_,rfl⟩;rw[<-hd] at A O a7;have c2:=h.cell (i:=X) (v:=.int .i64 d) (by rw[eQ,O];rfl);have f2:=h.free X;have m6:aJ.wrap (d+1)=d+1:=by rw[aM];omega
    have v1:(X:Int)<(n:Int):=V.2;have Y:=hid A;have a8:p<=1:=by omega
    clear A J L G F U T hd O a2 M V;go_wp2_with fail
    go_region
    all_goals go_wp2_with fail
    have H:=HG.out
    go_roundg (m.length-(k+1))
    case measure=>omega
    case rel=>
     refine⟨k+1,by omega,rfl,by go_num,?_,(I.setCell (p:=⟨w.heap.size,X,none⟩) (aD _) _).drew⟩;have:=h.set X (.int .i64 (d+1));rw[<-AP,<-Y.out] at this;exact this
   ·rw[aA G] at A;have u2:((p:Int)==(wh:Int))=false:=by rw[cB];omega
    have Y:=hid A;have a8:p<=1:=by omega
    clear A J L G F U T V;go_wp2_with fail;have H:=HG.out
    go_roundg (m.length-(k+1))
    case measure=>omega
    case rel=>exact⟨k+1,by omega,rfl,by go_num,by rw[Y.out];exact h,I⟩
  ·have u1:decide ((k:Int)<(m.length:Int))=false:=aE (by omega);have a9:k=m.length:=by omega
   subst a9;have a3:((eH m n wh m.length).map (bQ .i64)).length=n:=by rw[aS,a0.out]
   have ho:=h.own (B:=w.heap.size) (aD _) (by rw[a3];simp only[maxLen];omega);rw[a3] at ho;go_wp2_with fail;go_ret;exact⟨_,rfl,ho,I⟩
end Go.Proofs.YtfplbbphficcjaaGreatDoor
