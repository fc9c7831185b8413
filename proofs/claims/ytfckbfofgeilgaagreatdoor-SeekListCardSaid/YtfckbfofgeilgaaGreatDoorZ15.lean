/-
  Texts put together (part 15): the walks and the plain laws on which the statement stands.
-/
import Derived.Test.YtfckbfofgeilgaaGreatDoorZ5
import Derived.Test.YtfckbfofgeilgaaGreatDoorZ9
import Derived.Test.YtfckbfofgeilgaaGreatDoorZ10
set_option maxRecDepth 100000
set_option maxHeartbeats 12800000
set_option linter.unusedVariables false
set_option linter.unusedSimpArgs false
open Go.Proofs.Tryz
open Go.Proofs.Tryz renaming prog->pG
open Go.Addr renaming add->gP
open Go.Instr renaming sliceAt->vN
open Go.IntKind renaming i64->aJ,wrap_i64->aM
open Go.RowKit.Below renaming refl->aH
open Go.Value renaming int->bQ
open List renaming getD_eq_getElem?_getD->bV,getElem?_append_left->nE,getElem?_concat_length->IV,getElem?_eq_getElem->aN,getElem?_eq_some_iff->eF,getElem?_map->eQ,length_append->aL,length_eraseIdx->XP,length_map->aS,length_nil->aV,length_take->aQ,map_append->dY,mem_map->eK,mem_of_getElem?->cN,mem_singleton->cP,replicate->aX,take_add_one->cG,take_length->jS,take_of_length_le->cD
open Nat renaming le_refl->aD,le_trans->aR,zero_le->aO
open Option.some renaming inj->cC,injEq->lJ
namespace Go.Proofs.YtfckbfofgeilgaaGreatDoor
open Go.RowKit Go Go.Shelf
theorem CJ:El2 pG 270 272 32 (.agg #[.int .i64 0,.slice none 0 0]):=El2.mk' (by kernel_rfl) underlying270 rfl (by decide)
theorem aFi {B:Nat} {w0 d:World} (h:Below B w0 d) (e:B<=d.heap.size):Below B w0 d.drew/\B<=d.drew.heap.size:=⟨h.drew,e⟩
theorem aFj (v:Value) (l:List VV) (f:Nat->Int) (w:World) (J:nN w v l) (G:0<l.length) (_hl2:l.length<=1000) (L:∀(j:Nat) (q:VV),l[j]? =some q->q.1=bQ .i64 (f j)):
  Calls pG 165 #[v] w fun e w'=>e=.returned (.int .i64 (oD f l.length:Int))/\Below w.heap.size w w':=by
 obtain⟨a,ca,rfl,a3,a1,M⟩:=J.open;unfold maxLen at a1;obtain⟨b,off,rfl,O,R⟩:=M G;have U:=hid (show ∀j,j<l.length->w.cell? ⟨b,off+j*2,none⟩=some (.int .i64 (f j)) from fun j hj=>by
  have e:=aN hj;rw[(R j _ e).1,L j _ e])
 clear M R L J;go_enter func165,ntmps165;go_wp2_with fail
 go_loopg [3,4] (l.length-1) (fun g s3 s4 wr=>∃k m:Nat,1<=k/\k<=l.length/\g=l.length-k/\s4=.int .i64 (k:Int)/\s3=.int .i64 (m:Int)/\Hid (m=oD f k)/\m<l.length/\Below w.heap.size w wr)
 case atStart=>exact⟨1,0,aD _,G,by omega,rfl,rfl,hid (by unfold oD;split<;>rfl),G,aH _ _⟩
 case round=>
  obtain⟨k,m,a4,hk,F,rfl,rfl,V,Y,D⟩:=hrel;have Z:=hid F;clear F
  by_cases a0:k<l.length
  ·have u1:decide ((k:Int)<(l.length:Int))=true:=aG (by omega);have c1:=(D.cell (p:=⟨b,off+k*2,none⟩) O).trans (U.out k a0);have c2:=(D.cell (p:=⟨b,off+m*2,none⟩) O).trans (U.out m Y);have d:oD f (k+1)=if f k<f m then k else m:=by rw[V.out];rfl
   obtain⟨x,hx⟩:=ex1 (f k);obtain⟨y,hy⟩:=ex1 (f m);rw[<-hx] at c1 d;rw[<-hy] at c2 d;clear hx hy
   by_cases A:x<y
   ·have u2:decide (x<y)=true:=aG A;rw[aB A] at d;have I:=hid d.symm;clear d A;go_wp2_with fail
    go_quiet (fail)
    go_wp2_with fail;have F:=Z.out
    go_roundg (l.length-(k+1))
    ·exact⟨k+1,k,by omega,by omega,rfl,by go_num,rfl,I,a0,kY D _⟩
    ·omega
   ·have u2:decide (x<y)=false:=aE A;rw[aA A] at d;have I:=hid d.symm;clear d A;go_wp2_with fail
    go_quiet (fail)
    go_wp2_with fail;have F:=Z.out
    go_roundg (l.length-(k+1))
    ·exact⟨k+1,m,by omega,by omega,rfl,by go_num,rfl,I,Y,kY D _⟩
    ·omega
  ·have u1:decide ((k:Int)<(l.length:Int))=false:=aE (by omega);have a2:k=l.length:=by omega
   subst a2;go_wp2_with fail;go_ret;exact⟨by rw[<-V.out];rfl,D⟩
theorem aFk {wr w:World} {b off cap:Nat} {l:List VV} (e:b<wr.heap.size) (A:∀j q,l[j]? =some q->wr.cell? ⟨b,off+j*2,none⟩=some q.1/\wr.cell? ⟨b,off+j*2+1,none⟩=some q.2) (h:Below wr.heap.size wr w/\wr.heap.size<=w.heap.size)
  (k:Nat) (G:k<=l.length) (I:k<=cap) (D:cap<=maxLen):nN w (.slice (some ⟨b,off,none⟩) k cap) (l.take k):=by
 have F:(l.take k).length=k:=by grind
 refine .inr ⟨b,off,cap,by rw[F],by omega,D,by omega,fun j q d=>?_⟩;have J:=(eF.1 d).1;rw[List.getElem?_take_of_lt (by omega)] at d;rw[h.1.cell (p:=⟨b,off+j*2,none⟩) e,h.1.cell (p:=⟨b,off+j*2+1,none⟩) e];exact A j q d
theorem aXs {wr w:World} {b off cap:Nat} {l:List VV} (d:b<wr.heap.size) (A:∀j q,l[j]? =some q->wr.cell? ⟨b,off+j*2,none⟩=some q.1/\wr.cell? ⟨b,off+j*2+1,none⟩=some q.2) (h:Below wr.heap.size wr w/\wr.heap.size<=w.heap.size)
  (k:Nat) (D:l.length<=cap) (F:cap<=maxLen):nN w (.slice (some ⟨b,off+k*2,none⟩) (l.length-k) (cap-k)) (l.drop k):=by
 refine .inr ⟨b,off+k*2,cap-k,by simp,by grind,by omega,by omega,fun j q e=>?_⟩;rw[List.getElem?_drop] at e;rw[h.1.cell (p:=⟨b,off+k*2+j*2,none⟩) d,h.1.cell (p:=⟨b,off+k*2+j*2+1,none⟩) d,show off+k*2+j*2=off+(k+j)*2 by omega];exact A _ q e
theorem aXt {wr w:World} {b off:Nat} (d:b<wr.heap.size) (h:Below wr.heap.size wr w/\wr.heap.size<=w.heap.size):nN w (.slice (some ⟨b,off,none⟩) 0 0) []:=by grind [nN]
theorem aFl (v:Value) (l:List VV) (i:Nat) (w:World) (V:nN w v l) (hi:i<l.length) (b5:l.length<=1000) (I:rA l):
  Calls pG 166 #[v,.int .i64 (i:Int)] w fun e w'=>∃Y,e=.returned Y/\OwP w' w.heap.size 272 Y (l.eraseIdx i)/\Below w.heap.size w w':=by
 obtain⟨a,A,rfl,a5,Z,hA⟩:=V.open;have J:=hid Z;unfold maxLen at Z;obtain⟨b,off,rfl,hb,hc⟩:=hA (by omega);have L:=hid hc;have G:=hid hb;have a0:=hid (I.sub (m:=l.take i) (fun q D=>List.mem_of_mem_take D));have a1:=hid (I.sub (m:=l.drop (i+1)) (fun q D=>List.mem_of_mem_drop D));have a2:i<=A:=by omega
 obtain⟨d,M⟩:=ex1 (i+1);rw[<-M] at a1;have m1:aJ.wrap ((i:Int)+1)=(d:Int):=by rw[aM];omega
 have m2:(i:Int)+1=(d:Int):=by omega
 have m3:aJ.wrap (d:Int)=(d:Int):=by rw[aM];omega
 have b6:d<=l.length:=by omega
 have a6:(d:Int)<=(l.length:Int):=by omega
 have b7:(0:Int)<=(d:Int):=by omega
 have a7:¬d*2=0:=by omega
 have HE:=hid (show l.take i++l.drop d=l.eraseIdx i by rw[M,List.eraseIdx_eq_take_drop_succ]);clear M;have b8:(i:Int)<=(A:Int):=by omega
 have b9:(0:Int)<=(i:Int):=by omega
 have a3:i<=l.length:=by omega
 clear hA hc V I hi
 by_cases O:A=d
 ·have a4:l.length=d:=by omega
  have a8:=hid (show l.drop d=[] from List.drop_of_length_le (by omega));have a9:∀w,(vN 270 (.slice (some ⟨b,off,none⟩) l.length A) (some (.int .i64 (d:Int))) none none).run pG w=.ok (.slice (some ⟨b,off,none⟩) 0 0) w:=fun W=>by
   simp[go_sem,O,a4]
  clear O a4;go_enter func166,ntmps166;go_wp2_with fail
  go_region_held3 (fun w'=>Below w.heap.size w w'/\w.heap.size<=w'.heap.size)
   (first
    |with_reducible assumption
    |with_reducible exact zE (by assumption) _
    |with_reducible exact BR (by assumption) (by assumption)
    |with_reducible exact aFi (aH _ _) (aD _))
   (first
    |(refine MF CJ rfl _ _ rfl w.heap.size (.slice none 0 0) [] rfl (OwP.nil _ _ _) (.slice (some ⟨b,off,none⟩) i A) (l.take i) rfl ?_ ?_ ?_ ?_ ?_;(exact aFk G.out L.out (by assumption) i a3 a2 J.out);(exact a0.out);(simp only[aV,aQ];omega);(exact(show Below w.heap.size w _/\w.heap.size<=_ by assumption).2);intro v1 w1 b0 b1 b2)
    |(refine MF CJ rfl _ _ rfl w.heap.size _ ([]++l.take i) rfl (by assumption) (.slice (some ⟨b,off,none⟩) 0 0) [] rfl ?_ ?_ ?_ ?_ ?_;(exact aXt G.out (by assumption));(exact fun q D=>by simp at D);(simp only[aL,aV,aQ];omega);(exact(show Below w.heap.size w _/\w.heap.size<=_ by assumption).2);intro v2 F R b3 b4))
  all_goals
   go_wp2_with fail;go_ret;have U:Below w.heap.size w F/\w.heap.size<=F.heap.size:=by assumption
   refine⟨_,rfl,?_,U.1⟩;rw[<-HE.out,a8.out];exact R
 ·have a9:∀w,(vN 270 (.slice (some ⟨b,off,none⟩) l.length A) (some (.int .i64 (d:Int))) none none).run pG w=.ok (.slice (some ⟨b,off+d*2,none⟩) (l.length-d) (A-d)) w:=fun W=>by
   simp[go_sem,a6,O,gP,a7]
  go_enter func166,ntmps166;go_wp2_with fail
  go_region_held3 (fun w'=>Below w.heap.size w w'/\w.heap.size<=w'.heap.size)
   (first
    |with_reducible assumption
    |with_reducible exact zE (by assumption) _
    |with_reducible exact BR (by assumption) (by assumption)
    |with_reducible exact aFi (aH _ _) (aD _))
   (first
    |(refine MF CJ rfl _ _ rfl w.heap.size (.slice none 0 0) [] rfl (OwP.nil _ _ _) (.slice (some ⟨b,off,none⟩) i A) (l.take i) rfl ?_ ?_ ?_ ?_ ?_;(exact aFk G.out L.out (by assumption) i a3 a2 J.out);(exact a0.out);(simp only[aV,aQ];omega);(exact(show Below w.heap.size w _/\w.heap.size<=_ by assumption).2);intro v1 w1 b0 b1 b2)
    |(refine MF CJ rfl _ _ rfl w.heap.size _ ([]++l.take i) rfl (by assumption) (.slice (some ⟨b,off+d*2,none⟩) (l.length-d) (A-d)) (l.drop d) rfl ?_ ?_ ?_ ?_ ?_;(exact aXs G.out L.out (by assumption) d a5 J.out);(exact a1.out);(simp only[aL,aV,aQ,List.length_drop];omega);(exact(show Below w.heap.size w _/\w.heap.size<=_ by assumption).2);intro v2 F R b3 b4))
  all_goals
   go_wp2_with fail;go_ret;have U:Below w.heap.size w F/\w.heap.size<=F.heap.size:=by assumption
   refine⟨_,rfl,?_,U.1⟩;rw[<-HE.out];exact R
theorem uV {w:World} {B D e d z F n G:Nat} {v A:Value} {I J:List Value} (h:w.ownsRow B e z v n I) (L:w.ownsRow D d F A G J) (O:e≠d):v.ownBlock=none\/v.ownBlock≠A.ownBlock:=by
 rcases h.2 with⟨rfl,_⟩|⟨g,cap,R,rfl,_,U,_⟩
 ·exact .inl rfl
 ·right
  rcases L.2 with⟨rfl,_⟩|⟨M,V,Y,rfl,_,Z,_⟩
  ·intro e;cases e
  ·intro e;have e:some g=some M:=e
   grind
theorem MG {w:World} {B e d D F b:Nat} {A:Value} {l G:List Value} (h:Arr w b e l) (I:w.ownsRow B d D A F G) (L:e≠d):some b≠A.ownBlock:=by
 rcases I.2 with⟨rfl,_⟩|⟨J,M,O,rfl,_,R,_⟩
 ·intro e;cases e
 ·intro e;have e:some b=some J:=e
  grind [Arr]
theorem lD {w:World} {B e z n b:Nat} {v:Value} {d:List Value} (h:w.ownsRow B e z v n d) (A:b<B):v.ownBlock=none\/v.ownBlock≠some b:=by
 rcases hob:v.ownBlock with _|k
 ·exact .inl rfl
 ·have:=(h.lt k hob).1
  grind
def lvI (t:HT):List Int:=t.leaves.map (fun n:Nat=>((n:Nat):Int))
def TOK (w:World) (B d:Nat) (l:List VV) (r:cE):Prop:=
 l.length=r.length/\∀(j:Nat) (q:VV) (p:Int×HT),l[j]? =some q->r[j]? =some p->q.1=.int .i64 p.1/\OwI w B q.2 (lvI p.2)/\(q.2.ownBlock=none\/q.2.ownBlock≠some d)/\q.2.oneCell'=true
theorem TOK.nil (w:World) (B d:Nat):TOK w B d [] []:=by simp[TOK]
theorem TOK.map {w w':World} {B d e:Nat} {l:List VV} {r:cE} (h:TOK w B d l r) (k:∀(v:Value) (m:List Int),OwI w B v m->(v.ownBlock=none\/v.ownBlock≠some d)->OwI w' B v m/\(v.ownBlock=none\/v.ownBlock≠some e)):TOK w' B e l r:=
 ⟨h.1,fun j q p A D=>by
  obtain⟨F,G,I,J⟩:=h.2 j q p A D
  grind⟩
theorem TOK.below {w w':World} {B d:Nat} {l:List VV} {r:cE} (h:TOK w B d l r) (e:Below w.heap.size w w'):TOK w' B d l r:=h.map (fun _ _ A D=>⟨OwI.below A e (aD _),D⟩)
theorem TOK.alloc {w:World} {B d:Nat} {l:List VV} {r:cE} (h:TOK w B d l r) (o:Obj):TOK (w.alloc o) B d l r:=h.map (fun _ _ e A=>⟨OwI.alloc e o,A⟩)
theorem TOK.set {w:World} {B d:Nat} {l:List VV} {r:cE} (h:TOK w B d l r) (i:Nat) (x:Value):TOK (w.setCell ⟨d,i,none⟩ x) B d l r:=h.map (fun _ _ A e=>⟨Ow.kept A (gD w d i x) e,e⟩)
theorem TOK.snoc {w:World} {B e:Nat} {l:List VV} {r:cE} (h:TOK w B e l r) {q:VV} {p:Int×HT} (J:q.1=.int .i64 p.1) (L:OwI w B q.2 (lvI p.2)) (M:q.2.ownBlock=none\/q.2.ownBlock≠some e) (O:q.2.oneCell'=true):TOK w B e (l++[q]) (r++[p]):=by
 refine⟨by rw[aL,aL,h.1];rfl,fun j F G d A=>?_⟩
 by_cases D:j<l.length
 ·rw[nE D] at d;rw[nE (by rw[<-h.1];exact D)] at A;exact h.2 j F G d A
 ·have I:=(eF.1 d).1;rw[aL,List.length_singleton] at I;obtain rfl:j=l.length:=by omega
  rw[IV] at d;rw[h.1,IV] at A
  grind
theorem TOK.erase {w:World} {B A:Nat} {l:List VV} {r:cE} (h:TOK w B A l r) (i:Nat):TOK w B A (l.eraseIdx i) (r.eraseIdx i):=by
 refine⟨by rw[XP,XP,h.1],fun j q p e d=>?_⟩;rw[List.getElem?_eraseIdx] at e d;split at e
 ·next k=>rw[aB k] at d;exact h.2 _ _ _ e d
 ·next k=>rw[aA k] at d;exact h.2 _ _ _ e d
theorem TOK.one {w:World} {B e:Nat} {l:List VV} {r:cE} (h:TOK w B e l r):rA l:=fun q A=>by
 obtain⟨j,d⟩:=List.mem_iff_getElem?.1 A;have D:=(eF.1 d).1;obtain⟨F,_,_,G⟩:=h.2 j q _ d (aN (by rw[<-h.1];exact D));exact⟨by rw[F];rfl,G⟩
theorem TOK.fst {w:World} {B e:Nat} {l:List VV} {r:cE} (h:TOK w B e l r):∀(j:Nat) (q:VV),l[j]? =some q->q.1=bQ .i64 ((fun i=>(r.getD i (0,.leaf 0)).1) j):=fun j q d=>by
 have A:=(eF.1 d).1;have D:j<r.length:=by rw[<-h.1];exact A
 have F:r[j]? =some r[j]:=aN D;rw[(h.2 j q _ d F).1]
 grind
theorem aFm:∀{l:List Int},(∀x∈l,0<=x)->0<=l.sum/\∀x∈l,x<=l.sum
 |[],_=>⟨by simp,fun x d=>by simp at d⟩
 |y::l,h=>by
  obtain⟨e,A⟩:=aFm (l:=l) (fun x d=>h x (List.mem_cons_of_mem _ d))
  grind [List.mem_cons_self]
theorem aFn (d:List Int) (D:∀x∈d,1<=x) (t:Nat) (F:t<d.length):∀p∈bS d t,1<=p.1/\p.1<=d.sum:=fun p e=>by
 obtain⟨A,G⟩:=wE.all d D t F;have I:∀p∈bS d t,1<=p.1:=fun p e=>by rw[A.wt p e];exact HT.wt_pos p.2 (A.even p e)
 refine⟨I p e,?_⟩;rw[<-G];refine(aFm (fun x J=>?_)).2 _ (eK.2 ⟨p,e,rfl⟩)
 grind
theorem aFo {d:List Int} {k:Nat} {x:Int} (h:d[k]? =some x):bS (d.take (k+1)) 0=bS (d.take k) 0++[(x,.leaf k)]:=by grind [eF,aQ,cG,Option.toList_some,bS]
theorem TOK.app {W A:World} {B G D d:Nat} {v3:Value} {l I:List VV} {r:cE} (h:TOK W B D l r) (J:OwP W G 272 v3 I) (L:W.grownBy A v3.ownBlock) (F:d=D\/W.heap.size<=d):TOK A B d l r:=
 h.map (fun v m e M=>⟨Ow.kept e L (uV e J (by decide)),by
  rcases F with rfl|F
  ·exact M
  ·rcases hob:v.ownBlock with _|k
   ·exact .inl rfl
   ·have:=(Ow.lt e k hob).2
    grind⟩)
theorem aX5 {d e:World} {D F:Addr} {v1 v2:Value} {B:Nat} {w0:World} (h:d.cell? D=some v1/\d.cell? F=some v2/\Below B w0 d/\B<=d.heap.size) (A:Below d.heap.size d e):
  e.cell? D=some v1/\e.cell? F=some v2/\Below B w0 e/\B<=e.heap.size:=by
 obtain⟨J,L,M,G⟩:=h;have k:∀{p:Addr} {v:Value},d.cell? p=some v->e.cell? p=some v:=fun{p} {v} I=>(A.cell (World.block_lt_of_cell? d p I)).trans I
 exact⟨k J,k L,M.trans (A.mono G),aR G A.size⟩
theorem aX6 {d e:World} {A G D I:Nat} {v1 v2:Value} {B:Nat} {w0:World} (h:d.cell? ⟨A,G,none⟩=some v1/\d.cell? ⟨D,I,none⟩=some v2/\Below B w0 d/\B<=d.heap.size) (F:Below B d e) (J:A<B) (L:D<B):
  e.cell? ⟨A,G,none⟩=some v1/\e.cell? ⟨D,I,none⟩=some v2/\Below B w0 e/\B<=e.heap.size:=by
 obtain⟨M,O,R,U⟩:=h;exact⟨(F.cell (p:=⟨A,G,none⟩) J).trans M,(F.cell (p:=⟨D,I,none⟩) L).trans O,R.trans F,aR U F.size⟩
theorem aFv {d A:Prop} {B D:Nat} {w0 w':World} {v:Value} {m:List Int} (e:OwI w0 D v m) (F:w0.heap.size<=B) (h:d/\A/\Below B w0 w'/\B<=w'.heap.size):tQ w' v m:=OwI.src (OwI.below e h.2.2.1 F)
theorem aFw {d e:Prop} {B:Nat} {w0 w':World} (h:d/\e/\Below B w0 w'/\B<=w'.heap.size):B<=w'.heap.size:=h.2.2.2
theorem aX7 (v:Value) (A:List Int) (w:World) (hr:RdI w v A) (h2:2<=A.length) (q8:A.length<=258) (h1:∀x∈A,1<=x) (hs:A.sum<28657):
  Calls pG 145 #[v] w fun e w'=>∃v',e=.returned v'/\OwI w' w.heap.size v' (nK A)/\Below w.heap.size w w':=by
 have g0:=hid (aFn A h1);have m0:=hid hs;obtain⟨a,ca,rfl,q9,m2,hA⟩:=hr.open;unfold maxLen at m2;obtain⟨b,off,rfl,hb,hc⟩:=hA (by omega);have HC:=hid hc;clear hA hc hr h1 hs;go_enter func145,ntmps145;go_wp2_with fail
 go_loopg [3,4] A.length (fun g s3 s4 wr=>∃(k:Nat) (v3:Value) (l:List VV),k<=A.length/\g=A.length-k/\v3=s3/\s4=.int .i64 (k:Int)/\OwP wr w.heap.size 272 v3 l/\TOK wr w.heap.size wr.heap.size l (bS (A.take k) 0)/\Below w.heap.size w wr)
 case atStart=>exact⟨0,_,[],aO _,rfl,rfl,rfl,OwP.nil _ _ _,TOK.nil _ _ _,aH _ _⟩
 case round=>
  obtain⟨k,v3,l,hk,hg,rfl,rfl,ho,ht,J⟩:=hrel;have HG:=hid hg;clear hg;have b6:=J.size;have m3:l.length=k:=by rw[ht.1];show((A.take k).zipIdx.map _).length=k;rw[aS,List.length_zipIdx,aQ];omega
  by_cases c6:k<A.length
  ·have u1:decide ((k:Int)<(A.length:Int))=true:=aG (by omega);obtain⟨x,hx⟩:=eG c6;have c1:=(J.cell (p:=⟨b,off+k,none⟩) hb).trans (HC.out k x hx);have HT:=hid (aFo hx);have hO:OwI (wr.alloc (.cells #[.int .i64 (k:Int)] 3)) w.heap.size (.slice (some ⟨wr.heap.size,0,none⟩) 1 1) (lvI (.leaf k)):=(Arr.new wr 3 [.int .i64 (k:Int)]).own b6 (by simp[maxLen]);have I:=ho.alloc (.cells #[.int .i64 (k:Int)] 3);have G:=(ht.alloc (.cells #[.int .i64 (k:Int)] 3));have b7:=J.alloc (o:=.cells #[.int .i64 (k:Int)] 3) b6
   have d5:(wr.alloc (.cells #[.int .i64 (k:Int)] 3)).heap.size=wr.heap.size+1:=by simp
   clear hx;have d6:=nN.new (wr.alloc (.cells #[.int .i64 (k:Int)] 3)) 272 (.int .i64 x,.slice (some ⟨wr.heap.size,0,none⟩) 1 1);rw[d5] at d6;have hO:=OwI.alloc hO (.cells #[.int .i64 x,.slice (some ⟨wr.heap.size,0,none⟩) 1 1] 272);have I:=I.alloc (.cells #[.int .i64 x,.slice (some ⟨wr.heap.size,0,none⟩) 1 1] 272);have G:=G.alloc (.cells #[.int .i64 x,.slice (some ⟨wr.heap.size,0,none⟩) 1 1] 272);have b7:=b7.alloc (o:=.cells #[.int .i64 x,.slice (some ⟨wr.heap.size,0,none⟩) 1 1] 272) (by omega)
   have r0:((wr.alloc (.cells #[.int .i64 (k:Int)] 3)).alloc (.cells #[.int .i64 x,.slice (some ⟨wr.heap.size,0,none⟩) 1 1] 272)).heap.size=wr.heap.size+1+1:=by simp
   clear ho ht;go_wp2_with (at_builtin;refine aFh CJ rfl _ _ rfl w.heap.size _ l rfl I _ [(.int .i64 x,.slice (some ⟨wr.heap.size,0,none⟩) 1 1)] rfl d6 (fun q hq=>by obtain rfl:=cP.1 hq;exact⟨rfl,rfl⟩) ?_ ?_ ?_;(simp only[List.length_cons,aV];omega);(simp;omega);intro v4 w4 r1 r2 r3);have hg:=HG.out;have m4:=r3.size
   go_roundg (A.length-(k+1))
   ·
    refine⟨k+1,_,_,by omega,rfl,rfl,by go_num,r1,?_,b7.trans r2⟩;rw[HT.out];refine TOK.snoc (G.app I r3 (.inr m4)) rfl (Ow.kept hO r3 (uV hO I (by decide))) ?_ rfl;exact .inr (fun e=>by have e:wr.heap.size=w4.heap.size:=cC e;omega)
   ·omega
  ·have u1:decide ((k:Int)<(A.length:Int))=false:=aE (by omega);have m5:k=A.length:=by omega
   subst m5;rw[jS] at ht;have hB:=hid (show w.heap.size<=wr.heap.size from b6);go_wp2_with (at_make;refine mkA jL rfl _ _ rfl A.length rfl rfl ?_ ?_;omega);have L:=Arr.made wr 3 (.int .i64 0) A.length;have I:=ho.alloc (.cells (gW (.int .i64 0) A.length) 3);have G:=ht.alloc (.cells (gW (.int .i64 0) A.length) 3);have b7:=J.alloc (o:=.cells (gW (.int .i64 0) A.length) 3) b6;have d5:(wr.alloc (.cells (gW (.int .i64 0) A.length) 3)).heap.size=wr.heap.size+1:=by simp
   have g1:aX A.length (bQ .i64 0)=(jO A 0).map (bQ .i64):=by show _=(aX A.length (0:Int)).map _;rw[List.map_replicate]
   rw[g1] at L;change Arr (wr.alloc (.cells (gW (.int .i64 0) A.length) 3)) _ _ _ at L;generalize wr.alloc (.cells (gW (.int .i64 0) A.length) 3)=w1 at*
   obtain⟨bd,b1⟩:=ex1 (wr.heap.size);rw[<-b1] at L d5 G b6 ⊢;clear ho ht J b1 g1 HG
   go_loopg [3,6,7,8,9,10,11] (A.length-1) (fun g s3 _s6 _s7 _s8 _s9 _s10 _s11 wr=>∃(t:Nat) (v3:Value) (l:List VV),t<A.length/\g=A.length-1-t/\v3=s3/\OwP wr w.heap.size 272 v3 l/\TOK wr w.heap.size bd l (bS A t)/\Arr wr bd 3 ((jO A t).map (bQ .i64))/\Below w.heap.size w wr/\bd<wr.heap.size)
   case atStart=>exact⟨0,_,l,by omega,rfl,rfl,I,G,L,b7,by omega⟩
   case round=>
    clear I G L b7 d5;obtain⟨t,v3,l,e7,hg,rfl,I,G,L,J,b1⟩:=hrel;have HG:=hid hg;clear hg;have m6:=tS A t e7;have c0:=hid G.1;have m3:l.length+t=A.length:=by have:=c0.out;omega
    have b6:=J.size;clear m6
    by_cases c6:t+1<A.length
    ·obtain⟨a3,c3,rfl,m7,m8,d7⟩:=I.src.open;obtain⟨b3,o3,rfl,g2,g3⟩:=d7 (by omega);have u1:decide ((l.length:Int)>1)=true:=aG (by omega);have u2:decide (1<(l.length:Int))=true:=aG (by omega);have u3:1<l.length:=by omega
     have b2:=aFj (.slice (some ⟨b3,o3,none⟩) l.length c3) l _ wr I.src (by omega) (by omega) G.fst;obtain⟨i0,c7⟩:=ex1 (cE.least (bS A t));rw[c0.out,show oD (fun i=>((bS A t).getD i (0,.leaf 0)).1) (bS A t).length=i0 from c7.symm,<-c0.out] at b2;have d8:i0<l.length:=by rw[c7,c0.out];exact(EQ _ _ (by rw[<-c0.out];omega)).1
     have r4:=hid c7;obtain⟨q0,e8⟩:∃q0,l[i0]? =some q0:=⟨_,aN d8⟩;obtain⟨D,d9⟩:∃D,(bS A t)[i0]? =some D:=⟨_,aN (by rw[<-c0.out];exact d8)⟩;have g4:cA (bS A t)=(D,(bS A t).eraseIdx i0):=by
      unfold cA;rw[<-c7,bV,d9];rfl
     obtain⟨g5,O,g6,g7⟩:=G.2 i0 q0 D e8 d9;obtain⟨x0,e9⟩:∃x0:Value,q0.2=x0:=⟨_,rfl⟩;rw[e9] at O g6 g7;have r5:=g0.out t e7 D (cN d9);obtain⟨c8,d0⟩:=g3 i0 q0 e8;rw[g5] at c8;rw[e9] at d0;have f0:=hid g4;clear d7 g3 c7 e8 d9 g4 g5 e9;go_wp2_with fail;refine b2.mono ?_;rintro e w2 ⟨rfl,a7⟩;have c8:=(a7.cell (p:=⟨b3,o3+i0*2,none⟩) g2).trans c8;have d0:=(a7.cell (p:=⟨b3,o3+i0*2+1,none⟩) g2).trans d0;have I:=I.below a7 (aD _);have G:=G.below a7;have L:=L.below a7 b1;have J:=aW J a7;have b1:=Nat.lt_of_lt_of_le b1 a7.size;have O:=OwI.below O a7 (aD _)
     obtain⟨a0,a2,rfl,_,_,_⟩:=(OwI.rd O).open;obtain⟨V,i2⟩:∃V,(lvI D.2).length=V:=⟨_,rfl⟩;rw[i2] at O g6 g7 d0;clear b2 a7 i2;have i3:=J.size;go_wp2_with fail;have R:=Arr.new w2 272 [.int .i64 D.1,.slice a0 V a2];have I:=I.alloc (.cells #[.int .i64 D.1,.slice a0 V a2] 272);have G:=G.alloc (.cells #[.int .i64 D.1,.slice a0 V a2] 272);have L:=L.alloc (.cells #[.int .i64 D.1,.slice a0 V a2] 272);have O:=OwI.alloc O (.cells #[.int .i64 D.1,.slice a0 V a2] 272);have J:=J.alloc (o:=.cells #[.int .i64 D.1,.slice a0 V a2] 272) i3
     have m9:(w2.alloc (.cells #[.int .i64 D.1,.slice a0 V a2] 272)).heap.size=w2.heap.size+1:=by simp
     change Arr (w2.alloc (.cells #[.int .i64 D.1,.slice a0 V a2] 272)) _ _ _ at R;generalize w2.alloc (.cells #[.int .i64 D.1,.slice a0 V a2] 272)=w3 at*
     obtain⟨y0,i4⟩:=ex1 (w2.heap.size);rw[<-i4] at R m9 b1 i3 ⊢;clear i4;refine(aFl (.slice (some ⟨b3,o3,none⟩) l.length c3) l i0 w3 I.src d8 (by omega) G.one).mono ?_;rintro e w4 ⟨v4,rfl,i5,b5⟩;have r6:=b5.size;have G:=(G.below b5).erase i0;have L:=L.below b5 (by omega);have R:=R.below b5 (by omega);have O:=OwI.below O b5 (aD _);have J:=J.trans (b5.mono (by omega));have I:=OwP.base i5 (show w.heap.size<=w3.heap.size by omega);have o0:(l.eraseIdx i0).length+1=l.length:=by rw[XP,aB d8];omega
     obtain⟨l1,i6⟩:=ex1 (l.eraseIdx i0);obtain⟨r1,f1⟩:=ex1 ((bS A t).eraseIdx i0);have i7:∀p∈r1,p∈bS A t:=fun p hp=>by rw[f1] at hp;exact(List.eraseIdx_sublist ..).subset hp
     rw[<-i6] at G I o0;rw[<-f1] at G f0;clear i5 b5 i6 f1 c8 d0;have d1:=hid G.1;obtain⟨r7,i8,rfl,r8,r9,i9⟩:=I.src.open;obtain⟨b4,o4,rfl,j0,j1⟩:=i9 (by omega);have b2:=aFj (.slice (some ⟨b4,o4,none⟩) l1.length i8) l1 _ w4 I.src (by omega) (by omega) G.fst;obtain⟨i1,e0⟩:=ex1 (cE.least r1);rw[d1.out,show oD (fun i=>(r1.getD i (0,.leaf 0)).1) r1.length=i1 from e0.symm,<-d1.out] at b2;have e1:i1<l1.length:=by rw[e0,d1.out];exact(EQ _ _ (by rw[<-d1.out];omega)).1
     obtain⟨q1,f3⟩:∃q1,l1[i1]? =some q1:=⟨_,aN e1⟩;obtain⟨F,e2⟩:∃F,r1[i1]? =some F:=⟨_,aN (by rw[<-d1.out];exact e1)⟩;have j2:cA r1=(F,r1.eraseIdx i1):=by
      unfold cA;rw[<-e0,bV,e2];rfl
     obtain⟨j3,a4,j4,j5⟩:=G.2 i1 q1 F f3 e2;obtain⟨x1,f4⟩:∃x1:Value,q1.2=x1:=⟨_,rfl⟩;rw[f4] at a4 j4 j5;have s0:=g0.out t e7 F (i7 F (cN e2));obtain⟨d2,d3⟩:=j1 i1 q1 f3;rw[j3] at d2;rw[f4] at d3;have j6:=hid j2;clear i9 j1 e0 f3 e2 j2 j3 f4 i7;go_wp2_with fail;refine b2.mono ?_;rintro e w5 ⟨rfl,a5⟩;have o1:=a5.size;have d2:=(a5.cell (p:=⟨b4,o4+i1*2,none⟩) j0).trans d2;have d3:=(a5.cell (p:=⟨b4,o4+i1*2+1,none⟩) j0).trans d3;have I:=I.below a5 (aD _);have G:=G.below a5;have L:=L.below a5 (by omega);have R:=R.below a5 (by omega);have J:=J.trans (a5.mono (by omega))
     have O:=OwI.below O a5 (aD _);have a4:=OwI.below a4 a5 (aD _);obtain⟨Y,Z,rfl,_,_,_⟩:=(OwI.rd a4).open;obtain⟨U,j7⟩:∃U,(lvI F.2).length=U:=⟨_,rfl⟩;rw[j7] at a4 j4 j5 d3;clear b2 a5 j7;go_wp2_with fail;have a6:=Arr.new w5 272 [.int .i64 F.1,.slice Y U Z];have I:=I.alloc (.cells #[.int .i64 F.1,.slice Y U Z] 272);have G:=G.alloc (.cells #[.int .i64 F.1,.slice Y U Z] 272);have L:=L.alloc (.cells #[.int .i64 F.1,.slice Y U Z] 272);have R:=R.alloc (.cells #[.int .i64 F.1,.slice Y U Z] 272);have O:=OwI.alloc O (.cells #[.int .i64 F.1,.slice Y U Z] 272)
     have a4:=OwI.alloc a4 (.cells #[.int .i64 F.1,.slice Y U Z] 272);have J:=J.alloc (o:=.cells #[.int .i64 F.1,.slice Y U Z] 272) (by omega);have o2:(w5.alloc (.cells #[.int .i64 F.1,.slice Y U Z] 272)).heap.size=w5.heap.size+1:=by simp
     change Arr (w5.alloc (.cells #[.int .i64 F.1,.slice Y U Z] 272)) _ _ _ at a6;generalize w5.alloc (.cells #[.int .i64 F.1,.slice Y U Z] 272)=w6 at*
     obtain⟨y1,j8⟩:=ex1 (w5.heap.size);rw[<-j8] at a6 o2 o1 ⊢;clear j8;refine(aFl (.slice (some ⟨b4,o4,none⟩) l1.length i8) l1 i1 w6 I.src e1 (by omega) G.one).mono ?_;rintro e w7 ⟨v5,rfl,j9,a8⟩;have o5:=a8.size;have G:=(G.below a8).erase i1;have L:=L.below a8 (by omega);have R:=R.below a8 (by omega);have a6:=a6.below a8 (by omega);have O:=OwI.below O a8 (aD _);have a4:=OwI.below a4 a8 (aD _);have J:=J.trans (a8.mono (by omega));have I:=OwP.base j9 (show w.heap.size<=w6.heap.size by omega)
     have o6:(l1.eraseIdx i1).length+1=l1.length:=by rw[XP,aB e1];omega
     obtain⟨l2,k0⟩:=ex1 (l1.eraseIdx i1);rw[<-k0] at G I o6;have k3:=hid (show oY A t=D.2.leaves++F.2.leaves by unfold oY;rw[f0.out];show _++(cA r1).1.2.leaves=_;rw[j6.out]);have cE:=hid (show bS A (t+1)=r1.eraseIdx i1++[(D.1+F.1,.node (A.length+t) D.2 F.2)] by
      show qV (A.length+t) (bS A t)=_;unfold qV;rw[f0.out];show(cA r1).2++[(D.1+(cA r1).1.1,.node _ D.2 (cA r1).1.2)]=_;rw[j6.out])
     have k4:=(TH A t c6).2.2;have s1:(lvI D.2).length+(lvI F.2).length<=258:=by
      rw[k3.out,aL] at k4;unfold lvI;rw[aS,aS];omega
     have k5:=R.cell (i:=1) rfl;have k6:=a6.cell (i:=1) rfl;obtain⟨B,o7⟩:=ex1 (w7.heap.size);rw[<-o7] at o5;have e3:w7.heap.size<=B:=by omega
     have k7:y0<B:=by omega
     have k8:y1<B:=by omega
     have p2:w7.drew.cell? ⟨y0,1,none⟩=some (.slice a0 V a2)/\w7.drew.cell? ⟨y1,1,none⟩=some (.slice Y U Z)/\Below B w7 w7.drew/\B<=w7.drew.heap.size:=⟨k5,k6,(aH B w7).drew,by show B<=w7.heap.size;omega⟩;clear j9 a8 k0 d2 d3 k5 k6;go_wp2_with fail
     go_region_held3 (fun w'=>w'.cell? ⟨y0,1,none⟩=some (.slice a0 V a2)/\w'.cell? ⟨y1,1,none⟩=some (.slice Y U Z)/\Below B w7 w'/\B<=w'.heap.size)
      (first
       |with_reducible assumption
       |with_reducible exact aX5 (by assumption) (by assumption)
       |with_reducible exact aX6 (by assumption) (by assumption) k7 k8)
      (first
       |(refine TC rfl _ _ rfl B (.slice none 0 0) [] rfl (OwI.nil _ _) (.slice a0 V a2) (lvI D.2) rfl (aFv O e3 (by assumption)) ?_ ?_ ?_;(simp only[aV];omega);(exact aFw (by assumption));intro v8 w8 o8 b8 g8)
       |(refine TC rfl _ _ rfl B _ ([]++lvI D.2) rfl (by assumption) (.slice Y U Z) (lvI F.2) rfl (aFv a4 e3 (by assumption)) ?_ ?_ ?_;(simp only[aL,aV];omega);(exact aFw (by assumption));intro v9 w9 o9 b9 g9))
     have f5:=(show w9.cell? ⟨y0,1,none⟩=some (.slice a0 V a2)/\w9.cell? ⟨y1,1,none⟩=some (.slice Y U Z)/\Below B w7 w9/\B<=w9.heap.size by assumption);have c4:=f5.2.2.1;have s2:=f5.2.2.2;have G:=(G.below (c4.mono e3));have L:=L.below c4 (by omega);have R:=R.below c4 k7;have a6:=a6.below c4 k8;have J:=J.trans (c4.mono (by omega));have I:=I.below c4 e3;have f6:=hid (show lvI (.node (A.length+t) D.2 F.2)=(oY A t).map (fun n:Nat=>((n:Nat):Int)) by rw[k3.out];rfl);have o9:OwI w9 B v9 (lvI (.node (A.length+t) D.2 F.2)):=by
      have e:lvI (.node (A.length+t) D.2 F.2)=([]++lvI D.2)++lvI F.2:=by
       show(D.2.leaves++F.2.leaves).map _=_;rw[dY];rfl
      rw[e];exact o9
     rw[f6.out] at o9;obtain⟨M,d4⟩:=ex1 (oY A t);rw[<-d4] at o9 k4 f6;have p3:=hid d4;have f7:=fun(j y:Nat) (h:M[j]? =some y)=>aX4 A t c6 (j:=j) (y:=y) (by rw[<-d4];exact h)
     rw[<-d4] at f7;have k9:=hid f7;obtain⟨a9,c9,rfl,p4,s5,f8⟩:=(OwI.rd o9).open;have f9:(M.map (fun n:Nat=>((n:Nat):Int))).length=M.length:=aS ..;rw[f9] at p4 f8 o9;rw[f9];clear O a4 f5 p2 f9 f7 d4 o8 b8 g8 b9 g9;go_wp2_with fail
     go_loopg [11] M.length (fun g p5 wy=>∃j:Nat,j<=M.length/\g=M.length-j/\p5=.int .i64 (j:Int)/\Arr wy bd 3 ((lZ (jO A t) (M.take j)).map (bQ .i64))/\w9.grownBy wy (some bd))
     case atStart=>exact⟨0,aO _,rfl,rfl,L,⟨rfl,rfl,rfl,aD _,fun _ _ _=>rfl⟩⟩
     case round=>
      obtain⟨j,hj,hg,rfl,c5,b0⟩:=hrel;have p6:=hid hg;clear hg
      by_cases e4:j<M.length
      ·have v1:decide ((j:Int)<(M.length:Int))=true:=aG (by omega);obtain⟨y,hy⟩:∃y,M[j]? =some y:=⟨_,aN e4⟩;obtain⟨s6,d,hd,s7,s8,l3⟩:=k9.out j y hy;obtain⟨b9,l4,rfl,p7,l5⟩:=f8 (by omega);have s9:=(Ow.lt o9 b9 rfl).1;have c1:=(show wr.cell? ⟨b9,l4+j,none⟩=w9.cell? ⟨b9,l4+j,none⟩ from World.cell?_of_block (w:=w9) (b0.block b9 p7 (by simp only[ne_eq,lJ];omega))).trans (l5 j (y:Int) (by rw[eQ,hy];rfl));have c2:=c5.cell (i:=y) (v:=.int .i64 d) (by rw[eQ,hd];rfl);have f2:=c5.free y;have v2:((y:Nat):Int)<(A.length:Int):=by omega
       have v3:aJ.wrap (d+1)=d+1:=by rw[aM];omega
       have HN:=hid l3;clear hy hd l5 l3;go_wp2_with fail
       go_region
       all_goals go_wp2_with fail
       have t0:=p6.out
       go_roundg (M.length-(j+1))
       ·
        refine⟨j+1,by omega,rfl,by go_num,?_,qP (eU b0 (gD _ _ _ _))⟩;have:=c5.set y (.int .i64 (d+1));rw[<-List.map_set,<-HN.out] at this;exact this
       ·omega
      ·have v1:decide ((j:Int)<(M.length:Int))=false:=aE (by omega);have p8:j=M.length:=by omega
       subst p8;rw[jS,p3.out,<-aFt] at c5;have p9:some y0≠some bd:=by simp only[ne_eq,lJ];omega
       have q2:some y1≠some bd:=by simp only[ne_eq,lJ];omega
       have R:=R.grown b0 p9;have a6:=a6.grown b0 q2;have I:=I.kept b0 (.inr (MG L I (by decide)).symm);have G:=G.map (fun v m k1 k2=>⟨Ow.kept k1 b0 k2,k2⟩);have o9:OwI wr B (.slice a9 M.length c9) (M.map (fun n:Nat=>((n:Nat):Int))):=Ow.kept o9 b0 (lD o9 (by omega));have J:=J.grown b0 (by omega) (fun k hk=>by obtain rfl:=cC hk;omega);have t1:=b0.size;have c8:=R.cell (i:=0) rfl;have d2:=a6.cell (i:=0) rfl;have m1:aJ.wrap (D.1+F.1)=D.1+F.1:=by have:=m0.out;rw[aM];omega
       have d6:=nN.new wr 272 (.int .i64 (D.1+F.1),.slice a9 M.length c9);have e5:=I.alloc (.cells #[.int .i64 (D.1+F.1),.slice a9 M.length c9] 272);have q3:=G.alloc (.cells #[.int .i64 (D.1+F.1),.slice a9 M.length c9] 272);have l6:=c5.alloc (.cells #[.int .i64 (D.1+F.1),.slice a9 M.length c9] 272);have l7:=OwI.alloc o9 (.cells #[.int .i64 (D.1+F.1),.slice a9 M.length c9] 272);have q4:=J.alloc (o:=.cells #[.int .i64 (D.1+F.1),.slice a9 M.length c9] 272) (by omega);have t2:(wr.alloc (.cells #[.int .i64 (D.1+F.1),.slice a9 M.length c9] 272)).heap.size=wr.heap.size+1:=by simp
       have q5:(l2.length+1)*32<=140737488355328:=by omega
       clear I G c5 L R a6 J f8 k9;go_wp2_with (at_builtin;refine aFh CJ rfl _ _ rfl w.heap.size _ l2 rfl e5 _ [(.int .i64 (D.1+F.1),.slice a9 M.length c9)] rfl d6 (fun q hq=>by obtain rfl:=cP.1 hq;exact⟨rfl,rfl⟩) ?_ ?_ ?_;(exact q5);(omega);intro t3 q6 q7 r2 r3);have e6:(wr.alloc (.cells #[.int .i64 (D.1+F.1),.slice a9 M.length c9] 272)).grownBy q6 v5.ownBlock:=r3;have t4:=e6.size;have hg:=HG.out
       go_roundg (A.length-1-(t+1))
       ·
        refine⟨t+1,_,_,c6,rfl,rfl,q7,?_,l6.grown e6 (MG l6 e5 (by decide)),q4.trans r2,by omega⟩;rw[cE.out];refine TOK.snoc (q3.app e5 e6 (.inl rfl)) rfl ?_ ?_ rfl
        ·rw[f6.out];exact Ow.base (Ow.kept l7 e6 (uV l7 e5 (by decide))) (by omega)
        ·exact lD o9 (by omega)
       ·omega
    ·have u1:decide ((l.length:Int)>1)=false:=aE (by omega);have u2:decide (1<(l.length:Int))=false:=aE (by omega);have u3:¬1<l.length:=by omega
     have l8:t=A.length-1:=by omega
     have e4:nK A=jO A t:=by rw[l8];rfl
     have l9:((jO A t).map (bQ .i64)).length=A.length:=by rw[aS,wD]
     have ho:=L.own (B:=w.heap.size) (by omega) (by rw[l9];simp only[maxLen];omega);rw[l9,<-e4] at ho;obtain⟨a3,c3,rfl,m7,m8,d7⟩:=I.src.open;clear d7 l8 e4;go_wp2_with fail;go_ret;exact⟨_,rfl,ho,J⟩
theorem aX8 (v:Value) (l:List Int) (w:World) (F:RdI w v l) (d:∀x∈l,0<=x/\x<=1048576):
  Calls pG 144 #[v] w fun e w'=>e=.returned (.bool true)/\w'=w:=by
 obtain⟨a,U,rfl,V,J,G⟩:=F.open;unfold maxLen at J;have L:=hid d;clear d F;go_enter func144,ntmps144;go_wp2_with fail
 go_loopg [3] l.length (fun g M wr=>∃k:Nat,k<=l.length/\g=l.length-k/\M=.int .i64 (k:Int)/\wr=w)
 case atStart=>exact⟨0,aO _,rfl,rfl,rfl⟩
 case round=>
  obtain⟨k,Y,A,rfl,rfl⟩:=hrel;have O:=hid A;clear A
  by_cases R:k<l.length
  ·have u1:decide ((k:Int)<(l.length:Int))=true:=aG (by omega);obtain⟨b,off,rfl,d,I⟩:=G (by omega);obtain⟨x,D⟩:=eG R;have Z:=I k x D;have a0:=L.out x (cN D);have v1:decide (x<0)=false:=aE (by omega);have v2:decide (x>1048576)=false:=aE (by omega);have v3:decide (1048576<x)=false:=aE (by omega);clear I G D;go_wp2_with fail;have A:=O.out
   go_roundg (l.length-(k+1))
   ·exact⟨k+1,by omega,rfl,by go_num,rfl⟩
   ·omega
  ·have u1:decide ((k:Int)<(l.length:Int))=false:=aE (by omega);go_wp2_with fail;go_ret;exact⟨rfl,rfl⟩
theorem aX9 (v:Value) (l:List Int) (w:World) (G:RdI w v l) (A:∀x∈l,x<=20):
  Calls pG 146 #[v] w fun e w'=>∃d:Int,e=.returned (.int .i64 d)/\d<=20/\w'=w:=by
 obtain⟨a,ca,rfl,a1,L,I⟩:=G.open;unfold maxLen at L;have O:=hid A;clear A G;go_enter func146,ntmps146;go_wp2_with fail
 go_loopg [3,4] l.length (fun g R U wr=>∃(k:Nat) (d:Int),k<=l.length/\g=l.length-k/\U=.int .i64 (k:Int)/\R=.int .i64 d/\d<=20/\wr=w)
 case atStart=>exact⟨0,0,aO _,rfl,rfl,rfl,by omega,rfl⟩
 case round=>
  obtain⟨k,d,hk,D,rfl,rfl,V,rfl⟩:=hrel;have Y:=hid D;clear D
  by_cases Z:k<l.length
  ·have u1:decide ((k:Int)<(l.length:Int))=true:=aG (by omega);obtain⟨b,off,rfl,A,J⟩:=I (by omega);obtain⟨x,F⟩:=eG Z;have c1:=J k x F;have a2:=O.out x (cN F);obtain⟨M,hM⟩:∃M,max d x=M:=⟨_,rfl⟩;have a3:(if d<x then x else d)=M:=by rw[<-hM];split<;>omega
   have a0:M<=20:=by omega
   clear J I F;go_wp2_with fail;have D:=Y.out
   go_roundg (l.length-(k+1))
   ·exact⟨k+1,M,by omega,rfl,by go_num,rfl,a0,rfl⟩
   ·omega
  ·have u1:decide ((k:Int)<(l.length:Int))=false:=aE (by omega);go_wp2_with fail;go_ret;exact⟨d,rfl,V,rfl⟩
theorem aYa (v:Value) (l:List Int) (w:World) (G:RdI w v l) (h2:2<=l.length) (a1:l.length<=258) (D:∀x∈l,0<=x/\x<=20000) (O:l.sum<=20000):
  Calls pG 110 #[v,.int .i64 20] w fun e w'=>∃U,e=.returned (.tuple #[U,.int .i64 0])/\OwI w' w.heap.size U (qX l)/\Below w.heap.size w w':=by
 have a2:=hid (RP h2 a1 (fun x A=>(D x A).1) O);have a3:=hid (LB l (fun x A=>(D x A).1));have HS:=hid O;have b1:=G;obtain⟨a,ca,rfl,b2,a4,V⟩:=G.open;unfold maxLen at a4;obtain⟨b,off,rfl,hb,Y⟩:=V (by omega);have HC:=hid Y;have HB:=hid D;have t1:decide ((l.length:Int)<2)=false:=aE (by omega);have t2:decide ((l.length:Int)>258)=false:=aE (by omega);have t3:decide (258<(l.length:Int))=false:=aE (by omega);have a5:=aX8 _ l w G (fun x A=>by have:=D x A;omega);clear V Y G O D;go_enter func110,ntmps110;go_wp2_with fail;refine a5.mono ?_;rintro e w' ⟨rfl,rfl⟩
 go_wp2_with fail
 go_loopg [7,8] l.length (fun g s7 s8 wr=>∃(k:Nat) (I:Value),k<=l.length/\g=l.length-k/\I=s7/\s8=.int .i64 (k:Int)/\OwI wr w'.heap.size I ((l.take k).map (fun x=>max x 1))/\Below w'.heap.size w' wr)
 case atStart=>exact⟨0,_,aO _,rfl,rfl,rfl,OwI.nil _ _,aH _ _⟩
 case round=>
  obtain⟨k,I,hk,R,rfl,rfl,J,F⟩:=hrel;have HG:=hid R;clear R;have Z:=F.size;have b3:((l.take k).map (fun x=>max x 1)).length=k:=by rw[aS,aQ];omega
  by_cases a6:k<l.length
  ·have u1:decide ((k:Int)<(l.length:Int))=true:=aG (by omega);obtain⟨x,A⟩:=eG a6;have c1:=(F.cell (p:=⟨b,off+k,none⟩) hb).trans (HC.out k x A);obtain⟨M,hM⟩:∃M,max x 1=M:=⟨_,rfl⟩;have b4:(if x<1 then 1 else x)=M:=by rw[<-hM];split<;>omega
   have HT:=hid (show(l.take (k+1)).map (fun x=>max x 1)=(l.take k).map (fun x=>max x 1)++[M] by rw[cG,A,dY,<-hM];rfl);clear A;go_wp2_with (at_builtin;refine gK rfl _ _ rfl w'.heap.size _ _ rfl (OwI.alloc J _) _ M rfl (bX _ _ _) ?_ ?_ ?_;(omega);(simp;omega);intro v4 w4 r1 r2 r3);have R:=HG.out
   go_roundg (l.length-(k+1))
   ·exact⟨k+1,_,by omega,rfl,rfl,by go_num,by rw[HT.out];exact r1,(F.alloc Z _).trans r2⟩
   ·omega
  ·have u1:decide ((k:Int)<(l.length:Int))=false:=aE (by omega);rw[cD (by omega)] at J;have hj:=aX7 I (l.map (fun x=>max x 1)) wr (OwI.rd J) (by rw[aS];omega) (by rw[aS];omega) (fun x A=>by
    obtain⟨y,_,rfl⟩:=eK.1 A;omega) (by have:=a3.out;have:=HS.out;omega)
   go_wp2_with fail;refine hj.mono ?_;rintro e w5 ⟨v9,rfl,L,a0⟩;have a7:nK (l.map (fun x=>max x 1))=qX l:=rfl;rw[a7] at L;have a8:=aW F a0;have a9:=Ow.base L Z;have b0:=aX9 v9 (qX l) w5 (OwI.rd L) (fun x A=>(a2.out.1.2.2 x A).2);clear J hj F a0 L;go_wp2_with fail
   go_loopg [7,9,10,11] 0 (fun g _s7 s9 _s10 _s11 wx=>g=0/\s9=v9/\wx=w5)
   case atStart=>exact⟨rfl,rfl,rfl⟩
   case round=>
    obtain⟨_,rfl,rfl⟩:=hrel;go_wp2_with fail;refine b0.mono ?_;rintro e w6 ⟨d,rfl,hd,rfl⟩;have v1:decide (d>20)=false:=aE (by omega);have v2:decide (20<d)=false:=aE (by omega);go_wp2_with fail
    go_ret2
    exact⟨_,rfl,a9,a8⟩
def LOK (w:World) (d:List Value) (e:List (List Int)):Prop:=d.length=e.length/\∀(j:Nat) (x:Value) (g:List Int),d[j]? =some x->e[j]? =some g->RdI w x g
theorem LOK.nil (w:World):LOK w [] []:=by simp[LOK]
theorem LOK.below {w w':World} {d:List Value} {e:List (List Int)} (h:LOK w d e) (A:Below w.heap.size w w'):LOK w' d e:=⟨h.1,fun j x g D F=>(h.2 j x g D F).below A⟩
theorem LOK.snoc {w:World} {d:List Value} {e:List (List Int)} (h:LOK w d e) {x:Value} {g:List Int} (A:RdI w x g):LOK w (d++[x]) (e++[g]):=by grind [LOK,RdI]
def RdL (w:World) (v:Value) (d:List (List Int)):Prop:=∃e,Rd w v d.length e/\LOK w e d
theorem RdL.below {w w':World} {v:Value} {d:List (List Int)} (h:RdL w v d) (e:Below w.heap.size w w'):RdL w' v d:=by
 obtain⟨A,D,F⟩:=h;exact⟨A,D.below e,F.below e⟩
theorem RdL.open {w:World} {v:Value} {d:List (List Int)} (h:RdL w v d):∃a cap,v=.slice a d.length cap/\d.length<=cap/\cap<=maxLen/\
  (0<d.length->∃b off,a=some ⟨b,off,none⟩/\b<w.heap.size/\∀(j:Nat) (g:List Int),d[j]? =some g->∃x,w.cell? ⟨b,off+j,none⟩=some x/\RdI w x g):=by
 obtain⟨e,⟨a,cap,rfl,A,D,F⟩,G,I⟩:=h
 grind
theorem CK:ElT pG 143 53 24 (.slice none 0 0):=ElT.mk' (by kernel_rfl) underlying143 rfl (by decide)
theorem Ow.rdL {w:World} {B:Nat} {v:Value} {d:List Value} {e:List (List Int)} (h:Ow w B 53 v d) (A:LOK w d e):RdL w v e:=⟨d,by rw[<-A.1];exact h.rd,A⟩
theorem aYb {m:List Int} {k:Nat} (h:10*k<m.length):(dA m)[k]? =some ((m.drop (10*k)).take 10):=BY m k (by omega)
theorem aYc {m:List Int} {k:Nat} (h:10*k<m.length):(dA m).take (k+1)=(dA m).take k++[(m.drop (10*k)).take 10]:=by rw[cG,aYb h];rfl
theorem aYd {w:World} {b off cap:Nat} {m:List Int} (e:b<w.heap.size) (A:∀j x,m[j]? =some x->w.cell? ⟨b,off+j,none⟩=some (.int .i64 x)) (D:m.length<=cap) (F:cap<=maxLen) (i h:Nat) (G:i<=m.length) (I:h=min (i+10) m.length):
  RdI w (.slice (some ⟨b,off+i,none⟩) (h-i) (cap-i)) ((m.drop i).take 10):=by
 have d:((m.drop i).take 10).length=h-i:=by grind
 refine⟨_,cap-i,by rw[d],by rw[d];omega,by omega,.inr ⟨b,off+i,rfl,e,fun j J=>?_⟩⟩
 grind
theorem aYe {w:World} {a:Option Addr} {n c:Nat} {l:List Int} (h:RdI w (.slice a n c) l):∀b off,a=some ⟨b,off,none⟩->0<l.length->b<w.heap.size/\∀j x,l[j]? =some x->w.cell? ⟨b,off+j,none⟩=some (.int .i64 x):=fun b off e d=>by
 obtain⟨A,D,F,_,_,G⟩:=h.open
 grind
theorem Ow.cellAt {w:World} {B e b off n c:Nat} {A:List Value} (h:Ow w B e (.slice (some ⟨b,off,none⟩) n c) A) {j:Nat} {x:Value} (D:A[j]? =some x):w.cell? ⟨b,off+j,none⟩=some x:=by
 obtain⟨I,h⟩:=h;rcases h with⟨d,_⟩|⟨g,cap,F,d,J,G,L,M,O,R⟩
 ·cases d
 ·cases d
  have U:=(eF.1 D).1;rw[Nat.zero_add,cell_of_row w _ j F e (0,0) G]
  grind
theorem Ow.openN {w:World} {B e:Nat} {v:Value} {d:List Value} (h:Ow w B e v d) (A:0<d.length):∃b off c,v=.slice (some ⟨b,off,none⟩) d.length c:=by
 rcases h.2 with⟨rfl,e⟩|⟨g,cap,D,rfl,_⟩
 ·omega
 simp
theorem aFx (v:Value) (m:List Int) (w w0:World) (L:RdI w v m) (M:RdI w0 v m) (hm:m.length<=1000000):
  Calls pG 73 #[v] w fun e w'=>∃O d,e=.returned O/\Ow w' w.heap.size 53 O d/\LOK w0 d (dA m)/\Below w.heap.size w w':=by
 obtain⟨a,D,rfl,a2,R,U⟩:=L.open;have V:=aYe M;have a3:=hid R;unfold maxLen at R;clear L M;go_enter func73,ntmps73;go_wp2_with fail
 go_loopg [3,4] ((m.length+9)/10) (fun g s3 s4 wr=>∃(k:Nat) (v3:Value) (d:List Value),k<=(m.length+9)/10/\g=(m.length+9)/10-k/\v3=s3/\s4=.int .i64 ((10*k:Nat):Int)/\Ow wr w.heap.size 53 v3 d/\LOK w0 d ((dA m).take k)/\Below w.heap.size w wr)
 case atStart=>exact⟨0,_,[],aO _,rfl,rfl,rfl,Ow.nil _ _ _,LOK.nil _,aH _ _⟩
 case round=>
  obtain⟨k,v3,d,hk,G,rfl,rfl,Y,F,I⟩:=hrel;have HG:=hid G;clear G;have a4:=I.size;have a6:d.length=k:=by rw[F.1,aQ,kR];omega
  obtain⟨i,A⟩:∃i,10*k=i:=⟨_,rfl⟩;rw[A];have Z:=hid A;clear A
  by_cases a7:i<m.length
  ·have u1:decide ((i:Int)<(m.length:Int))=true:=aG (by omega);obtain⟨b,off,rfl,hb,hc⟩:=U (by omega);obtain⟨a0,a1⟩:=V b off rfl (by omega);obtain⟨h,J⟩:=ex1 (min (i+10) m.length);have m1:aJ.wrap ((i:Int)+10)=(i:Int)+10:=by rw[aM];omega
   have m2:min ((i:Int)+10) (m.length:Int)=(h:Int):=by omega
   have m3:(if(m.length:Int)<(i:Int)+10 then(m.length:Int) else(i:Int)+10)=(h:Int):=by split<;>omega
   have m4:(if(i:Int)+10<(m.length:Int) then(i:Int)+10 else(m.length:Int))=(h:Int):=by split<;>omega
   have a8:∀W,(vN 53 (.slice (some ⟨b,off,none⟩) m.length D) (some (.int .i64 (i:Int))) (some (.int .i64 (h:Int))) none).run pG W=.ok (.slice (some ⟨b,off+i,none⟩) (h-i) (D-i)) W:=fun W=>by
    have k1:(0:Int)<=(i:Int):=by omega
    have k2:(i:Int)<=(h:Int):=by omega
    have k3:(h:Int)<=(D:Int):=by omega
    have k4:¬D=i:=by omega
    by_cases h0:i=0
    ·subst h0;simp[go_sem,k3,k4,gP]
    ·simp[go_sem,k2,k3,k4,gP,h0]
   have HP:=hid (aYd a0 a1 a2 a3.out i h (by omega) J);have a5:(d.length+1)*24<=140737488355328:=by omega
   clear hc U a1 a0 V hb;have HH:=hid J;clear J;go_wp2_with (at_builtin;refine tM CK rfl _ _ rfl w.heap.size _ d rfl (Ow.alloc Y _) wr.heap.size (.slice (some ⟨b,off+i,none⟩) (h-i) (D-i)) rfl (bX _ _ _) rfl ?_ ?_ ?_;(exact a5);(simp;omega);intro v4 w4 r1 r2 r3);have G:=HG.out;have A:=Z.out
   go_roundg ((m.length+9)/10-(k+1))
   ·
    refine⟨k+1,_,_,by omega,rfl,rfl,?_,r1,?_,(I.alloc a4 _).trans r2⟩
    ·rw[<-A];go_num
    ·rw[aYc (by omega),A];exact F.snoc HP.out
   ·omega
  ·have u1:decide ((i:Int)<(m.length:Int))=false:=aE (by omega);have A:=Z.out;rw[cD (by rw[kR];omega)] at F;clear A;go_wp2_with fail;go_ret;exact⟨_,_,rfl,Y,F,I⟩
theorem aYf (v:Value) (m:List Int) (w:World) (A:RdI w v m) (F:m.length<=1000000):
  Calls pG 73 #[v] w fun e w'=>∃d,e=.returned d/\RdL w' d (dA m)/\Below w.heap.size w w':=
 (aFx v m w w A A F).mono fun _ _ ⟨d,_,G,I,J,D⟩=>⟨d,G,I.rdL (J.below D),D⟩
end Go.Proofs.YtfckbfofgeilgaaGreatDoor
