/-
  Texts put together (part 20): the walks and the plain laws on which the statement stands.
-/
import Derived.Test.YtihbnmlinkbnkaaGreatDoorZ15
set_option maxRecDepth 100000
set_option maxHeartbeats 12800000
set_option linter.unusedVariables false
set_option linter.unusedSimpArgs false
open Go.Proofs.Tryz
open Go.Proofs.Tryz renaming prog->pG
open Go.Addr renaming add->gP
open Go.IntKind renaming i64->aJ,wrap_i64->aM
open Go.RowKit.Below renaming refl->aH
open Go.Value renaming int->bQ
open Int renaming toNat_natCast->fL
open List renaming getD_eq_getElem?_getD->bV,getElem?_eq_getElem->aN,getElem?_map->eQ,length_append->aL,length_eraseIdx->XP,length_map->aS,length_nil->aV,length_take->aQ,map_append->dY,map_replicate->DM,map_set->AP,mem_append->dK,mem_of_getElem?->cN,mem_singleton->cP,replicate->aX,take_add_one->cG,take_length->jS,take_of_length_le->cD
open Nat renaming le_refl->aD,le_trans->aR,zero_le->aO
open Option.some renaming inj->cC,injEq->lJ
namespace Go.Proofs.YtihbnmlinkbnkaaGreatDoor
section
open Go.RowKit Go Go.Shelf
theorem TOK.app {W F:World} {B B' G d:Nat} {H:Value} {l J:List VV} {r:cE} (h:TOK W B G l r) (L:OwP W B' 315 H J) (M:W.grownBy F H.ownBlock) (I:d=G\/W.heap.size<=d):TOK F B d l r:=
 h.map (fun v m A O=>⟨Ow.kept A M (uV A L (by decide)),by
  rcases I with rfl|I
  ·exact O
  ·rcases hob:v.ownBlock with _|k
   ·exact .inl rfl
   ·have:=(Ow.lt A k hob).2
    grind⟩)
theorem aX5 {w1 w2:World} {A F:Addr} {G H:Value} {B:Nat} {w0:World} (h:w1.cell? A=some G/\w1.cell? F=some H/\Below B w0 w1/\B<=w1.heap.size) (d:Below w1.heap.size w1 w2):
  w2.cell? A=some G/\w2.cell? F=some H/\Below B w0 w2/\B<=w2.heap.size:=by
 obtain⟨L,M,O,I⟩:=h;have k:∀{p:Addr} {v:Value},w1.cell? p=some v->w2.cell? p=some v:=fun{p} {v} J=>(d.cell (World.block_lt_of_cell? w1 p J)).trans J
 exact⟨k L,k M,O.trans (d.mono I),aR I d.size⟩
theorem aX6 {w1 w2:World} {d G A H:Nat} {I J:Value} {B:Nat} {w0:World} (h:w1.cell? ⟨d,G,none⟩=some I/\w1.cell? ⟨A,H,none⟩=some J/\Below B w0 w1/\B<=w1.heap.size) (F:Below B w1 w2) (L:d<B) (M:A<B):
  w2.cell? ⟨d,G,none⟩=some I/\w2.cell? ⟨A,H,none⟩=some J/\Below B w0 w2/\B<=w2.heap.size:=by
 obtain⟨O,U,V,Z⟩:=h;exact⟨(F.cell (p:=⟨d,G,none⟩) L).trans O,(F.cell (p:=⟨A,H,none⟩) M).trans U,V.trans F,aR Z F.size⟩
theorem aFv {d A:Prop} {B F:Nat} {w0 w':World} {v:Value} {m:List Int} (e:OwI w0 F v m) (G:w0.heap.size<=B) (h:d/\A/\Below B w0 w'/\B<=w'.heap.size):tQ w' v m:=OwI.src (OwI.below e h.2.2.1 G)
theorem aFw {d A:Prop} {B:Nat} {w0 w':World} (h:d/\A/\Below B w0 w'/\B<=w'.heap.size):B<=w'.heap.size:=h.2.2.2
theorem aX7 (v:Value) (A:List Int) (w:World) (hr:RdI w v A) (h2:2<=A.length) (q9:A.length<=258) (h1:∀x∈A,1<=x) (hs:A.sum<28657):
  Calls pG 214 #[v] w fun e w'=>∃v',e=.returned v'/\OwI w' w.heap.size v' (nK A)/\Below w.heap.size w w':=by
 have g1:=hid (aFn A h1);have m2:=hid hs;obtain⟨a,ca,rfl,r0,m3,hA⟩:=hr.open;unfold maxLen at m3;obtain⟨b,off,rfl,hb,hc⟩:=hA (by omega);have HC:=hid hc;clear hA hc hr h1 hs;go_enter func214,ntmps214;go_wp2_with fail
 go_loopg [3,4] A.length (fun g s3 s4 wr=>∃(k:Nat) (v3:Value) (l:List VV),k<=A.length/\g=A.length-k/\v3=s3/\s4=.int .i64 (k:Int)/\OwP wr w.heap.size 315 v3 l/\TOK wr w.heap.size wr.heap.size l (bS (A.take k) 0)/\Below w.heap.size w wr)
 case atStart=>exact⟨0,_,[],aO _,rfl,rfl,rfl,OwP.nil _ _ _,TOK.nil _ _ _,aH _ _⟩
 case round=>
  obtain⟨k,v3,l,hk,hg,rfl,rfl,ho,ht,J⟩:=hrel;have HG:=hid hg;clear hg;have b7:=J.size;have m4:l.length=k:=by rw[ht.1];show((A.take k).zipIdx.map _).length=k;rw[aS,List.length_zipIdx,aQ];omega
  by_cases c7:k<A.length
  ·have u1:decide ((k:Int)<(A.length:Int))=true:=aG (by omega);obtain⟨x,hx⟩:=eG c7;have c1:=(J.cell (p:=⟨b,off+k,none⟩) hb).trans (HC.out k x hx);have HT:=hid (aFo hx);have hO:OwI (wr.alloc (.cells #[.int .i64 (k:Int)] 3)) w.heap.size (.slice (some ⟨wr.heap.size,0,none⟩) 1 1) (lvI (.leaf k)):=(Arr.new wr 3 [.int .i64 (k:Int)]).own b7 (by simp[maxLen]);have I:=ho.alloc (.cells #[.int .i64 (k:Int)] 3);have H:=(ht.alloc (.cells #[.int .i64 (k:Int)] 3));have c0:=J.alloc (o:=.cells #[.int .i64 (k:Int)] 3) b7
   have d6:(wr.alloc (.cells #[.int .i64 (k:Int)] 3)).heap.size=wr.heap.size+1:=by simp
   clear hx;have d7:=nN.new (wr.alloc (.cells #[.int .i64 (k:Int)] 3)) 315 (.int .i64 x,.slice (some ⟨wr.heap.size,0,none⟩) 1 1);rw[d6] at d7;have hO:=OwI.alloc hO (.cells #[.int .i64 x,.slice (some ⟨wr.heap.size,0,none⟩) 1 1] 315);have I:=I.alloc (.cells #[.int .i64 x,.slice (some ⟨wr.heap.size,0,none⟩) 1 1] 315);have H:=H.alloc (.cells #[.int .i64 x,.slice (some ⟨wr.heap.size,0,none⟩) 1 1] 315);have c0:=c0.alloc (o:=.cells #[.int .i64 x,.slice (some ⟨wr.heap.size,0,none⟩) 1 1] 315) (by omega)
   have r4:((wr.alloc (.cells #[.int .i64 (k:Int)] 3)).alloc (.cells #[.int .i64 x,.slice (some ⟨wr.heap.size,0,none⟩) 1 1] 315)).heap.size=wr.heap.size+1+1:=by simp
   clear ho ht;go_wp2_with (at_builtin;refine aFh CJ rfl _ _ rfl w.heap.size _ l rfl I _ [(.int .i64 x,.slice (some ⟨wr.heap.size,0,none⟩) 1 1)] rfl d7 (fun q hq=>by obtain rfl:=cP.1 hq;exact⟨rfl,rfl⟩) ?_ ?_ ?_;(simp only[List.length_cons,aV];omega);(simp;omega);intro v4 w4 Z r2 r3);have hg:=HG.out;have m5:=r3.size
   go_roundg (A.length-(k+1))
   case measure=>omega
   case rel=>
    refine⟨k+1,_,_,by omega,rfl,rfl,by go_num,Z,?_,c0.trans r2⟩;rw[HT.out];refine TOK.snoc (H.app I r3 (.inr m5)) rfl (Ow.kept hO r3 (uV hO I (by decide))) ?_ rfl;exact .inr (fun e=>by have e:wr.heap.size=w4.heap.size:=cC e;omega)
  ·have u1:decide ((k:Int)<(A.length:Int))=false:=aE (by omega);have m6:k=A.length:=by omega
   subst m6;rw[jS] at ht;have hB:=hid (show w.heap.size<=wr.heap.size from b7);go_wp2_with (at_make;refine mkA jL rfl _ _ rfl A.length rfl rfl ?_ ?_;omega);have M:=Arr.made wr 3 (.int .i64 0) A.length;have I:=ho.alloc (.cells (gW (.int .i64 0) A.length) 3);have H:=ht.alloc (.cells (gW (.int .i64 0) A.length) 3);have c0:=J.alloc (o:=.cells (gW (.int .i64 0) A.length) 3) b7;have d6:(wr.alloc (.cells (gW (.int .i64 0) A.length) 3)).heap.size=wr.heap.size+1:=by simp
   have g2:aX A.length (bQ .i64 0)=(jO A 0).map (bQ .i64):=by show _=(aX A.length (0:Int)).map _;rw[DM]
   rw[g2] at M;change Arr (wr.alloc (.cells (gW (.int .i64 0) A.length) 3)) _ _ _ at M;generalize wr.alloc (.cells (gW (.int .i64 0) A.length) 3)=w1 at*
   obtain⟨bd,b2⟩:∃bd,bd=wr.heap.size:=⟨_,rfl⟩;rw[<-b2] at M d6 H b7 ⊢;clear ho ht J b2 g2 HG
   go_loopg [3,6,7,8,9,10,11] (A.length-1) (fun g s3 _s6 _s7 _s8 _s9 _s10 _s11 wr=>∃(t:Nat) (v3:Value) (l:List VV),t<A.length/\g=A.length-1-t/\v3=s3/\OwP wr w.heap.size 315 v3 l/\TOK wr w.heap.size bd l (bS A t)/\Arr wr bd 3 ((jO A t).map (bQ .i64))/\Below w.heap.size w wr/\bd<wr.heap.size)
   case atStart=>exact⟨0,_,l,by omega,rfl,rfl,I,H,M,c0,by omega⟩
   case round=>
    clear I H M c0 d6;obtain⟨t,v3,l,e8,hg,rfl,I,H,M,J,b2⟩:=hrel;have HG:=hid hg;clear hg;have m7:=tS A t e8;have c4:=hid H.1;have m4:l.length+t=A.length:=by have:=c4.out;omega
    have b7:=J.size;clear m7
    by_cases c7:t+1<A.length
    ·obtain⟨a3,c3,rfl,m8,m9,d8⟩:=I.src.open;obtain⟨b3,o3,rfl,g3,g4⟩:=d8 (by omega);have u1:decide ((l.length:Int)>1)=true:=aG (by omega);have u2:decide (1<(l.length:Int))=true:=aG (by omega);have u3:1<l.length:=by omega
     have b5:=aFj (.slice (some ⟨b3,o3,none⟩) l.length c3) l _ wr I.src (by omega) (by omega) H.fst;obtain⟨i0,c8⟩:∃i0,i0=cE.least (bS A t):=⟨_,rfl⟩;rw[c4.out,show oD (fun i=>((bS A t).getD i (0,.leaf 0)).1) (bS A t).length=i0 from c8.symm,<-c4.out] at b5;have d9:i0<l.length:=by rw[c8,c4.out];exact(EQ _ _ (by rw[<-c4.out];omega)).1
     have r5:=hid c8;obtain⟨q0,e9⟩:∃q0,l[i0]? =some q0:=⟨_,aN d9⟩;obtain⟨F,e0⟩:∃F,(bS A t)[i0]? =some F:=⟨_,aN (by rw[<-c4.out];exact d9)⟩;have g5:cA (bS A t)=(F,(bS A t).eraseIdx i0):=by
      unfold cA;rw[<-c8,bV,e0];rfl
     obtain⟨g6,O,g7,i2⟩:=H.2 i0 q0 F e9 e0;obtain⟨x0,f0⟩:∃x0:Value,q0.2=x0:=⟨_,rfl⟩;rw[f0] at O g7 i2;have r6:=g1.out t e8 F (cN e0);obtain⟨d0,d1⟩:=g4 i0 q0 e9;rw[g6] at d0;rw[f0] at d1;have f1:=hid g5;clear d8 g4 c8 e9 e0 g5 g6 f0;go_wp2_with fail;refine b5.mono ?_;rintro e w2 ⟨rfl,a8⟩;have d0:=(a8.cell (p:=⟨b3,o3+i0*2,none⟩) g3).trans d0;have d1:=(a8.cell (p:=⟨b3,o3+i0*2+1,none⟩) g3).trans d1;have I:=I.below a8 (aD _);have H:=H.below a8;have M:=M.below a8 b2;have J:=aW J a8;have b2:=Nat.lt_of_lt_of_le b2 a8.size;have O:=OwI.below O a8 (aD _)
     obtain⟨a0,a4,rfl,_,_,_⟩:=(OwI.rd O).open;obtain⟨n0,i3⟩:∃n0,(lvI F.2).length=n0:=⟨_,rfl⟩;rw[i3] at O g7 i2 d1;clear b5 a8 i3;have i4:=J.size;go_wp2_with fail;have U:=Arr.new w2 315 [.int .i64 F.1,.slice a0 n0 a4];have I:=I.alloc (.cells #[.int .i64 F.1,.slice a0 n0 a4] 315);have H:=H.alloc (.cells #[.int .i64 F.1,.slice a0 n0 a4] 315);have M:=M.alloc (.cells #[.int .i64 F.1,.slice a0 n0 a4] 315);have O:=OwI.alloc O (.cells #[.int .i64 F.1,.slice a0 n0 a4] 315);have J:=J.alloc (o:=.cells #[.int .i64 F.1,.slice a0 n0 a4] 315) i4
     have o0:(w2.alloc (.cells #[.int .i64 F.1,.slice a0 n0 a4] 315)).heap.size=w2.heap.size+1:=by simp
     change Arr (w2.alloc (.cells #[.int .i64 F.1,.slice a0 n0 a4] 315)) _ _ _ at U;generalize w2.alloc (.cells #[.int .i64 F.1,.slice a0 n0 a4] 315)=w3 at*
     obtain⟨y0,i5⟩:∃y0,y0=w2.heap.size:=⟨_,rfl⟩;rw[<-i5] at U o0 b2 i4 ⊢;clear i5;refine(aFl (.slice (some ⟨b3,o3,none⟩) l.length c3) l i0 w3 I.src d9 (by omega) H.one).mono ?_;rintro e w4 ⟨v4,rfl,i6,b6⟩;have r7:=b6.size;have H:=(H.below b6).erase i0;have M:=M.below b6 (by omega);have U:=U.below b6 (by omega);have O:=OwI.below O b6 (aD _);have J:=J.trans (b6.mono (by omega));have I:=OwP.base i6 (show w.heap.size<=w3.heap.size by omega);have o1:(l.eraseIdx i0).length+1=l.length:=by rw[XP,aB d9];omega
     obtain⟨l1,i7⟩:∃l1,l1=l.eraseIdx i0:=⟨_,rfl⟩;obtain⟨Z,f3⟩:∃Z,Z=(bS A t).eraseIdx i0:=⟨_,rfl⟩;have i8:∀p∈Z,p∈bS A t:=fun p hp=>by rw[f3] at hp;exact(List.eraseIdx_sublist ..).subset hp
     rw[<-i7] at H I o1;rw[<-f3] at H f1;clear i6 b6 i7 f3 d0 d1;have d2:=hid H.1;obtain⟨r8,i9,rfl,r9,s0,j0⟩:=I.src.open;obtain⟨b4,o4,rfl,j1,j2⟩:=j0 (by omega);have b5:=aFj (.slice (some ⟨b4,o4,none⟩) l1.length i9) l1 _ w4 I.src (by omega) (by omega) H.fst;obtain⟨i1,e1⟩:∃i1,i1=cE.least Z:=⟨_,rfl⟩;rw[d2.out,show oD (fun i=>(Z.getD i (0,.leaf 0)).1) Z.length=i1 from e1.symm,<-d2.out] at b5;have e2:i1<l1.length:=by rw[e1,d2.out];exact(EQ _ _ (by rw[<-d2.out];omega)).1
     obtain⟨q1,f4⟩:∃q1,l1[i1]? =some q1:=⟨_,aN e2⟩;obtain⟨G,e3⟩:∃G,Z[i1]? =some G:=⟨_,aN (by rw[<-d2.out];exact e2)⟩;have j3:cA Z=(G,Z.eraseIdx i1):=by
      unfold cA;rw[<-e1,bV,e3];rfl
     obtain⟨j4,a5,j5,j6⟩:=H.2 i1 q1 G f4 e3;obtain⟨x1,f5⟩:∃x1:Value,q1.2=x1:=⟨_,rfl⟩;rw[f5] at a5 j5 j6;have s1:=g1.out t e8 G (i8 G (cN e3));obtain⟨d3,d4⟩:=j2 i1 q1 f4;rw[j4] at d3;rw[f5] at d4;have j7:=hid j3;clear j0 j2 e1 f4 e3 j3 j4 f5 i8;go_wp2_with fail;refine b5.mono ?_;rintro e w5 ⟨rfl,a6⟩;have o2:=a6.size;have d3:=(a6.cell (p:=⟨b4,o4+i1*2,none⟩) j1).trans d3;have d4:=(a6.cell (p:=⟨b4,o4+i1*2+1,none⟩) j1).trans d4;have I:=I.below a6 (aD _);have H:=H.below a6;have M:=M.below a6 (by omega);have U:=U.below a6 (by omega);have J:=J.trans (a6.mono (by omega))
     have O:=OwI.below O a6 (aD _);have a5:=OwI.below a5 a6 (aD _);obtain⟨a1,a2,rfl,_,_,_⟩:=(OwI.rd a5).open;obtain⟨V,j8⟩:∃V,(lvI G.2).length=V:=⟨_,rfl⟩;rw[j8] at a5 j5 j6 d4;clear b5 a6 j8;go_wp2_with fail;have a7:=Arr.new w5 315 [.int .i64 G.1,.slice a1 V a2];have I:=I.alloc (.cells #[.int .i64 G.1,.slice a1 V a2] 315);have H:=H.alloc (.cells #[.int .i64 G.1,.slice a1 V a2] 315);have M:=M.alloc (.cells #[.int .i64 G.1,.slice a1 V a2] 315);have U:=U.alloc (.cells #[.int .i64 G.1,.slice a1 V a2] 315);have O:=OwI.alloc O (.cells #[.int .i64 G.1,.slice a1 V a2] 315)
     have a5:=OwI.alloc a5 (.cells #[.int .i64 G.1,.slice a1 V a2] 315);have J:=J.alloc (o:=.cells #[.int .i64 G.1,.slice a1 V a2] 315) (by omega);have o5:(w5.alloc (.cells #[.int .i64 G.1,.slice a1 V a2] 315)).heap.size=w5.heap.size+1:=by simp
     change Arr (w5.alloc (.cells #[.int .i64 G.1,.slice a1 V a2] 315)) _ _ _ at a7;generalize w5.alloc (.cells #[.int .i64 G.1,.slice a1 V a2] 315)=w6 at*
     obtain⟨y1,j9⟩:∃y1,y1=w5.heap.size:=⟨_,rfl⟩;rw[<-j9] at a7 o5 o2 ⊢;clear j9;refine(aFl (.slice (some ⟨b4,o4,none⟩) l1.length i9) l1 i1 w6 I.src e2 (by omega) H.one).mono ?_;rintro e w7 ⟨v5,rfl,k0,b0⟩;have o6:=b0.size;have H:=(H.below b0).erase i1;have M:=M.below b0 (by omega);have U:=U.below b0 (by omega);have a7:=a7.below b0 (by omega);have O:=OwI.below O b0 (aD _);have a5:=OwI.below a5 b0 (aD _);have J:=J.trans (b0.mono (by omega));have I:=OwP.base k0 (show w.heap.size<=w6.heap.size by omega)
     have o7:(l1.eraseIdx i1).length+1=l1.length:=by rw[XP,aB e2];omega
     obtain⟨l2,k3⟩:∃l2,l2=l1.eraseIdx i1:=⟨_,rfl⟩;rw[<-k3] at H I o7;have k4:=hid (show oY A t=F.2.leaves++G.2.leaves by unfold oY;rw[f1.out];show _++(cA Z).1.2.leaves=_;rw[j7.out]);have cE:=hid (show bS A (t+1)=Z.eraseIdx i1++[(F.1+G.1,.node (A.length+t) F.2 G.2)] by
      show qV (A.length+t) (bS A t)=_;unfold qV;rw[f1.out];show(cA Z).2++[(F.1+(cA Z).1.1,.node _ F.2 (cA Z).1.2)]=_;rw[j7.out])
     have k5:=(TH A t c7).2.2;have s2:(lvI F.2).length+(lvI G.2).length<=258:=by
      rw[k4.out,aL] at k5;unfold lvI;rw[aS,aS];omega
     have k6:=U.cell (i:=1) rfl;have k7:=a7.cell (i:=1) rfl;obtain⟨B,p2⟩:∃B,B=w7.heap.size:=⟨_,rfl⟩;rw[<-p2] at o6;have e4:w7.heap.size<=B:=by omega
     have k8:y0<B:=by omega
     have k9:y1<B:=by omega
     have p3:w7.drew.cell? ⟨y0,1,none⟩=some (.slice a0 n0 a4)/\w7.drew.cell? ⟨y1,1,none⟩=some (.slice a1 V a2)/\Below B w7 w7.drew/\B<=w7.drew.heap.size:=⟨k6,k7,(aH B w7).drew,by show B<=w7.heap.size;omega⟩;clear k0 b0 k3 d3 d4 k6 k7;go_wp2_with fail
     go_region_held3 (fun w'=>w'.cell? ⟨y0,1,none⟩=some (.slice a0 n0 a4)/\w'.cell? ⟨y1,1,none⟩=some (.slice a1 V a2)/\Below B w7 w'/\B<=w'.heap.size)
      (first
       |with_reducible assumption
       |with_reducible exact aX5 (by assumption) (by assumption)
       |with_reducible exact aX6 (by assumption) (by assumption) k8 k9)
      (first
       |(refine TC rfl _ _ rfl B (.slice none 0 0) [] rfl (OwI.nil _ _) (.slice a0 n0 a4) (lvI F.2) rfl (aFv O e4 (by assumption)) ?_ ?_ ?_;(simp only[aV];omega);(exact aFw (by assumption));intro v8 w8 o8 b8 g8)
       |(refine TC rfl _ _ rfl B _ ([]++lvI F.2) rfl (by assumption) (.slice a1 V a2) (lvI G.2) rfl (aFv a5 e4 (by assumption)) ?_ ?_ ?_;(simp only[aL,aV];omega);(exact aFw (by assumption));intro v9 w9 o9 b9 g9))
     have f6:=(show w9.cell? ⟨y0,1,none⟩=some (.slice a0 n0 a4)/\w9.cell? ⟨y1,1,none⟩=some (.slice a1 V a2)/\Below B w7 w9/\B<=w9.heap.size by assumption);have c5:=f6.2.2.1;have s5:=f6.2.2.2;have H:=(H.below (c5.mono e4));have M:=M.below c5 (by omega);have U:=U.below c5 k8;have a7:=a7.below c5 k9;have J:=J.trans (c5.mono (by omega));have I:=I.below c5 e4;have f7:=hid (show lvI (.node (A.length+t) F.2 G.2)=(oY A t).map (fun n:Nat=>((n:Nat):Int)) by rw[k4.out];rfl);have o9:OwI w9 B v9 (lvI (.node (A.length+t) F.2 G.2)):=by
      have e:lvI (.node (A.length+t) F.2 G.2)=([]++lvI F.2)++lvI G.2:=by
       show(F.2.leaves++G.2.leaves).map _=_;rw[dY];rfl
      rw[e];exact o9
     rw[f7.out] at o9;obtain⟨L,d5⟩:∃L,L=oY A t:=⟨_,rfl⟩;rw[<-d5] at o9 k5 f7;have p4:=hid d5;have f8:=fun(j y:Nat) (h:L[j]? =some y)=>aX4 A t c7 (j:=j) (y:=y) (by rw[<-d5];exact h)
     rw[<-d5] at f8;have l3:=hid f8;obtain⟨a9,c9,rfl,p5,s6,f9⟩:=(OwI.rd o9).open;have g0:(L.map (fun n:Nat=>((n:Nat):Int))).length=L.length:=aS ..;rw[g0] at p5 f9 o9;rw[g0];clear O a5 f6 p3 g0 f8 d5 o8 b8 g8 b9 g9;go_wp2_with fail
     go_loopg [11] L.length (fun g p6 wy=>∃j:Nat,j<=L.length/\g=L.length-j/\p6=.int .i64 (j:Int)/\Arr wy bd 3 ((lZ (jO A t) (L.take j)).map (bQ .i64))/\w9.grownBy wy (some bd))
     case atStart=>exact⟨0,aO _,rfl,rfl,M,⟨rfl,rfl,rfl,aD _,fun _ _ _=>rfl⟩⟩
     case round=>
      obtain⟨j,hj,hg,rfl,c6,b1⟩:=hrel;have p7:=hid hg;clear hg
      by_cases e5:j<L.length
      ·have v1:decide ((j:Int)<(L.length:Int))=true:=aG (by omega);obtain⟨y,hy⟩:∃y,L[j]? =some y:=⟨_,aN e5⟩;obtain⟨s7,d,hd,s8,s9,l4⟩:=l3.out j y hy;obtain⟨b9,l5,rfl,p8,l6⟩:=f9 (by omega);have t2:=(Ow.lt o9 b9 rfl).1;have c1:=(show wr.cell? ⟨b9,l5+j,none⟩=w9.cell? ⟨b9,l5+j,none⟩ from World.cell?_of_block (w:=w9) (b1.block b9 p8 (by simp only[ne_eq,lJ];omega))).trans (l6 j (y:Int) (by rw[eQ,hy];rfl));have c2:=c6.cell (i:=y) (v:=.int .i64 d) (by rw[eQ,hd];rfl);have f2:=c6.free y;have v2:((y:Nat):Int)<(A.length:Int):=by omega
       have v3:aJ.wrap (d+1)=d+1:=by rw[aM];omega
       have HN:=hid l4;clear hy hd l6 l4;go_wp2_with fail
       go_region
       all_goals go_wp2_with fail
       have t3:=p7.out
       go_roundg (L.length-(j+1))
       case measure=>omega
       case rel=>
        refine⟨j+1,by omega,rfl,by go_num,?_,qP (eU b1 (gD _ _ _ _))⟩;have:=c6.set y (.int .i64 (d+1));rw[<-AP,<-HN.out] at this;exact this
      ·have v1:decide ((j:Int)<(L.length:Int))=false:=aE (by omega);have p9:j=L.length:=by omega
       subst p9;rw[jS,p4.out,<-aFt] at c6;have q2:some y0≠some bd:=by simp only[ne_eq,lJ];omega
       have q3:some y1≠some bd:=by simp only[ne_eq,lJ];omega
       have U:=U.grown b1 q2;have a7:=a7.grown b1 q3;have I:=I.kept b1 (.inr (MG M I (by decide)).symm);have H:=H.map (fun v m k1 k2=>⟨Ow.kept k1 b1 k2,k2⟩);have o9:OwI wr B (.slice a9 L.length c9) (L.map (fun n:Nat=>((n:Nat):Int))):=Ow.kept o9 b1 (lD o9 (by omega));have J:=J.grown b1 (by omega) (fun k hk=>by obtain rfl:=cC hk;omega);have t4:=b1.size;have d0:=U.cell (i:=0) rfl;have d3:=a7.cell (i:=0) rfl;have m1:aJ.wrap (F.1+G.1)=F.1+G.1:=by have:=m2.out;rw[aM];omega
       have d7:=nN.new wr 315 (.int .i64 (F.1+G.1),.slice a9 L.length c9);have e6:=I.alloc (.cells #[.int .i64 (F.1+G.1),.slice a9 L.length c9] 315);have q4:=H.alloc (.cells #[.int .i64 (F.1+G.1),.slice a9 L.length c9] 315);have l7:=c6.alloc (.cells #[.int .i64 (F.1+G.1),.slice a9 L.length c9] 315);have l8:=OwI.alloc o9 (.cells #[.int .i64 (F.1+G.1),.slice a9 L.length c9] 315);have q5:=J.alloc (o:=.cells #[.int .i64 (F.1+G.1),.slice a9 L.length c9] 315) (by omega);have t5:(wr.alloc (.cells #[.int .i64 (F.1+G.1),.slice a9 L.length c9] 315)).heap.size=wr.heap.size+1:=by simp
       have q6:(l2.length+1)*32<=140737488355328:=by omega
       clear I H c6 M U a7 J f9 l3;go_wp2_with (at_builtin;refine aFh CJ rfl _ _ rfl w.heap.size _ l2 rfl e6 _ [(.int .i64 (F.1+G.1),.slice a9 L.length c9)] rfl d7 (fun q hq=>by obtain rfl:=cP.1 hq;exact⟨rfl,rfl⟩) ?_ ?_ ?_;(exact q6);(omega);intro t6 q7 q8 r2 r3);have e7:(wr.alloc (.cells #[.int .i64 (F.1+G.1),.slice a9 L.length c9] 315)).grownBy q7 v5.ownBlock:=r3;have t7:=e7.size;have hg:=HG.out
       go_roundg (A.length-1-(t+1))
       case measure=>omega
       case rel=>
        refine⟨t+1,_,_,c7,rfl,rfl,q8,?_,l7.grown e7 (MG l7 e6 (by decide)),q5.trans r2,by omega⟩;rw[cE.out];refine TOK.snoc (q4.app e6 e7 (.inl rfl)) rfl ?_ ?_ rfl
        ·rw[f7.out];exact Ow.base (Ow.kept l8 e7 (uV l8 e6 (by decide))) (by omega)
        ·exact lD o9 (by omega)
    ·have u1:decide ((l.length:Int)>1)=false:=aE (by omega);have u2:decide (1<(l.length:Int))=false:=aE (by omega);have u3:¬1<l.length:=by omega
     have l9:t=A.length-1:=by omega
     have e5:nK A=jO A t:=by rw[l9];rfl
     have m0:((jO A t).map (bQ .i64)).length=A.length:=by rw[aS,wD]
     have ho:=M.own (B:=w.heap.size) (by omega) (by rw[m0];simp only[maxLen];omega);rw[m0,<-e5] at ho;obtain⟨a3,c3,rfl,m8,m9,d8⟩:=I.src.open;clear d8 l9 e5;go_wp2_with fail;go_ret;exact⟨_,rfl,ho,J⟩
theorem aX8 (v:Value) (l:List Int) (w:World) (G:RdI w v l) (d:∀x∈l,0<=x/\x<=1048576):
  Calls pG 213 #[v] w fun e w'=>e=.returned (.bool true)/\w'=w:=by
 obtain⟨a,Z,rfl,a0,J,H⟩:=G.open;unfold maxLen at J;have L:=hid d;clear d G;go_enter func213,ntmps213;go_wp2_with fail
 go_loopg [3] l.length (fun g M wr=>∃k:Nat,k<=l.length/\g=l.length-k/\M=.int .i64 (k:Int)/\wr=w)
 case atStart=>exact⟨0,aO _,rfl,rfl,rfl⟩
 case round=>
  obtain⟨k,hk,A,rfl,rfl⟩:=hrel;have O:=hid A;clear A
  by_cases U:k<l.length
  ·have V:decide ((k:Int)<(l.length:Int))=true:=aG (by omega);obtain⟨b,off,rfl,d,I⟩:=H (by omega);obtain⟨x,F⟩:=eG U;have c1:=I k x F;have a1:=L.out x (cN F);have v1:decide (x<0)=false:=aE (by omega);have v2:decide (x>1048576)=false:=aE (by omega);have v3:decide (1048576<x)=false:=aE (by omega);clear I H F;go_wp2_with fail;have A:=O.out
   go_roundg (l.length-(k+1))
   case measure=>omega
   case rel=>exact⟨k+1,by omega,rfl,by go_num,rfl⟩
  ·have V:decide ((k:Int)<(l.length:Int))=false:=aE (by omega);go_wp2_with fail;go_ret;exact⟨rfl,rfl⟩
theorem aX9 (v:Value) (l:List Int) (w:World) (H:RdI w v l) (A:∀x∈l,x<=20):
  Calls pG 215 #[v] w fun e w'=>∃d:Int,e=.returned (.int .i64 d)/\d<=20/\w'=w:=by
 obtain⟨a,ca,rfl,a2,L,I⟩:=H.open;unfold maxLen at L;have O:=hid A;clear A H;go_enter func215,ntmps215;go_wp2_with fail
 go_loopg [3,4] l.length (fun g U V wr=>∃(k:Nat) (d:Int),k<=l.length/\g=l.length-k/\V=.int .i64 (k:Int)/\U=.int .i64 d/\d<=20/\wr=w)
 case atStart=>exact⟨0,0,aO _,rfl,rfl,rfl,by omega,rfl⟩
 case round=>
  obtain⟨k,d,hk,F,rfl,rfl,Z,rfl⟩:=hrel;have HG:=hid F;clear F
  by_cases a0:k<l.length
  ·have u1:decide ((k:Int)<(l.length:Int))=true:=aG (by omega);obtain⟨b,off,rfl,A,J⟩:=I (by omega);obtain⟨x,G⟩:=eG a0;have c1:=J k x G;have a3:=O.out x (cN G);obtain⟨M,hM⟩:∃M,max d x=M:=⟨_,rfl⟩;have a4:(if d<x then x else d)=M:=by rw[<-hM];split<;>omega
   have a1:M<=20:=by omega
   clear J I G;go_wp2_with fail;have F:=HG.out
   go_roundg (l.length-(k+1))
   case measure=>omega
   case rel=>exact⟨k+1,M,by omega,rfl,by go_num,rfl,a1,rfl⟩
  ·have u1:decide ((k:Int)<(l.length:Int))=false:=aE (by omega);go_wp2_with fail;go_ret;exact⟨d,rfl,Z,rfl⟩
theorem aYa (v:Value) (l:List Int) (w:World) (H:RdI w v l) (h2:2<=l.length) (a2:l.length<=258) (F:∀x∈l,0<=x/\x<=20000) (O:l.sum<=20000):
  Calls pG 162 #[v,.int .i64 20] w fun e w'=>∃V,e=.returned (.tuple #[V,.int .i64 0])/\OwI w' w.heap.size V (qX l)/\Below w.heap.size w w':=by
 have a3:=hid (RP h2 a2 (fun x A=>(F x A).1) O);have a4:=hid (LB l (fun x A=>(F x A).1));have HS:=hid O;have b2:=H;obtain⟨a,ca,rfl,b3,a5,Z⟩:=H.open;unfold maxLen at a5;obtain⟨b,off,rfl,hb,hc⟩:=Z (by omega);have HC:=hid hc;have HB:=hid F;have t1:decide ((l.length:Int)<2)=false:=aE (by omega);have t2:decide ((l.length:Int)>258)=false:=aE (by omega);have t3:decide (258<(l.length:Int))=false:=aE (by omega);have a6:=aX8 _ l w H (fun x A=>by have:=F x A;omega);clear Z hc H O F;go_enter func162,ntmps162;go_wp2_with fail;refine a6.mono ?_;rintro e w' ⟨rfl,rfl⟩
 go_wp2_with fail
 go_loopg [7,8] l.length (fun g s7 s8 wr=>∃(k:Nat) (I:Value),k<=l.length/\g=l.length-k/\I=s7/\s8=.int .i64 (k:Int)/\OwI wr w'.heap.size I ((l.take k).map (fun x=>max x 1))/\Below w'.heap.size w' wr)
 case atStart=>exact⟨0,_,aO _,rfl,rfl,rfl,OwI.nil _ _,aH _ _⟩
 case round=>
  obtain⟨k,I,hk,U,rfl,rfl,J,G⟩:=hrel;have HG:=hid U;clear U;have a0:=G.size;have b4:((l.take k).map (fun x=>max x 1)).length=k:=by rw[aS,aQ];omega
  by_cases a7:k<l.length
  ·have u1:decide ((k:Int)<(l.length:Int))=true:=aG (by omega);obtain⟨x,A⟩:=eG a7;have c1:=(G.cell (p:=⟨b,off+k,none⟩) hb).trans (HC.out k x A);obtain⟨M,hM⟩:∃M,max x 1=M:=⟨_,rfl⟩;have b5:(if x<1 then 1 else x)=M:=by rw[<-hM];split<;>omega
   have HT:=hid (show(l.take (k+1)).map (fun x=>max x 1)=(l.take k).map (fun x=>max x 1)++[M] by rw[cG,A,dY,<-hM];rfl);clear A;go_wp2_with (at_builtin;refine gK rfl _ _ rfl w'.heap.size _ _ rfl (OwI.alloc J _) _ M rfl (bX _ _ _) ?_ ?_ ?_;(omega);(simp;omega);intro v4 w4 r1 r2 r3);have U:=HG.out
   go_roundg (l.length-(k+1))
   case measure=>omega
   case rel=>exact⟨k+1,_,by omega,rfl,rfl,by go_num,by rw[HT.out];exact r1,(G.alloc a0 _).trans r2⟩
  ·have u1:decide ((k:Int)<(l.length:Int))=false:=aE (by omega);rw[cD (by omega)] at J;have hj:=aX7 I (l.map (fun x=>max x 1)) wr (OwI.rd J) (by rw[aS];omega) (by rw[aS];omega) (fun x A=>by
    obtain⟨y,_,rfl⟩:=List.mem_map.1 A;omega) (by have:=a4.out;have:=HS.out;omega)
   go_wp2_with fail;refine hj.mono ?_;rintro e w5 ⟨v9,rfl,L,a1⟩;have a8:nK (l.map (fun x=>max x 1))=qX l:=rfl;rw[a8] at L;have a9:=aW G a1;have b0:=Ow.base L a0;have b1:=aX9 v9 (qX l) w5 (OwI.rd L) (fun x A=>(a3.out.1.2.2 x A).2);clear J hj G a1 L;go_wp2_with fail
   go_loopg [7,9,10,11] 0 (fun g _s7 s9 _s10 _s11 wx=>g=0/\s9=v9/\wx=w5)
   case atStart=>exact⟨rfl,rfl,rfl⟩
   case round=>
    obtain⟨_,rfl,rfl⟩:=hrel;go_wp2_with fail;refine b1.mono ?_;rintro e w6 ⟨d,rfl,hd,rfl⟩;have v1:decide (d>20)=false:=aE (by omega);have v2:decide (20<d)=false:=aE (by omega);go_wp2_with fail
    go_ret2
    exact⟨_,rfl,b0,a9⟩
def LOK (w:World) (d:List Value) (gs:List (List Int)):Prop:=d.length=gs.length/\∀(j:Nat) (x:Value) (g:List Int),d[j]? =some x->gs[j]? =some g->RdI w x g
theorem LOK.nil (w:World):LOK w [] []:=by simp[LOK]
theorem LOK.below {w w':World} {d:List Value} {gs:List (List Int)} (h:LOK w d gs) (A:Below w.heap.size w w'):LOK w' d gs:=⟨h.1,fun j x g F G=>(h.2 j x g F G).below A⟩
theorem LOK.snoc {w:World} {d:List Value} {gs:List (List Int)} (h:LOK w d gs) {x:Value} {g:List Int} (A:RdI w x g):LOK w (d++[x]) (gs++[g]):=by grind [LOK,RdI]
def RdL (w:World) (v:Value) (gs:List (List Int)):Prop:=∃d,Rd w v gs.length d/\LOK w d gs
theorem RdL.below {w w':World} {v:Value} {gs:List (List Int)} (h:RdL w v gs) (d:Below w.heap.size w w'):RdL w' v gs:=by
 obtain⟨A,F,G⟩:=h;exact⟨A,F.below d,G.below d⟩
theorem RdL.open {w:World} {v:Value} {gs:List (List Int)} (h:RdL w v gs):∃a cap,v=.slice a gs.length cap/\gs.length<=cap/\cap<=maxLen/\
  (0<gs.length->∃b off,a=some ⟨b,off,none⟩/\b<w.heap.size/\∀(j:Nat) (g:List Int),gs[j]? =some g->∃x,w.cell? ⟨b,off+j,none⟩=some x/\RdI w x g):=by
 obtain⟨d,⟨a,cap,rfl,A,F,G⟩,H,I⟩:=h
 grind
theorem CK:ElT pG 123 26 24 (.slice none 0 0):=ElT.mk' (by kernel_rfl) underlying123 rfl (by decide)
theorem Ow.rdL {w:World} {B:Nat} {v:Value} {d:List Value} {gs:List (List Int)} (h:Ow w B 26 v d) (A:LOK w d gs):RdL w v gs:=⟨d,by rw[<-A.1];exact h.rd,A⟩
theorem aYb {m:List Int} {k:Nat} (h:10*k<m.length):(dA m)[k]? =some ((m.drop (10*k)).take 10):=BY m k (by omega)
theorem aYc {m:List Int} {k:Nat} (h:10*k<m.length):(dA m).take (k+1)=(dA m).take k++[(m.drop (10*k)).take 10]:=by rw[cG,aYb h];rfl
theorem aYd {w:World} {b off cap:Nat} {m:List Int} (A:b<w.heap.size) (F:∀j x,m[j]? =some x->w.cell? ⟨b,off+j,none⟩=some (.int .i64 x)) (G:m.length<=cap) (H:cap<=maxLen) (i h:Nat) (hi:i<=m.length) (I:h=min (i+10) m.length):
  RdI w (.slice (some ⟨b,off+i,none⟩) (h-i) (cap-i)) ((m.drop i).take 10):=by
 have d:((m.drop i).take 10).length=h-i:=by grind
 refine⟨_,cap-i,by rw[d],by rw[d];omega,by omega,.inr ⟨b,off+i,rfl,A,fun j J=>?_⟩⟩
 grind
theorem aYe {w:World} {a:Option Addr} {n c:Nat} {l:List Int} (h:RdI w (.slice a n c) l):∀b off,a=some ⟨b,off,none⟩->0<l.length->b<w.heap.size/\∀j x,l[j]? =some x->w.cell? ⟨b,off+j,none⟩=some (.int .i64 x):=fun b off e d=>by
 obtain⟨A,F,G,_,_,H⟩:=h.open
 grind
theorem Ow.cellAt {w:World} {B e b off n c:Nat} {A:List Value} (h:Ow w B e (.slice (some ⟨b,off,none⟩) n c) A) {j:Nat} {x:Value} (F:A[j]? =some x):w.cell? ⟨b,off+j,none⟩=some x:=by
 obtain⟨I,h⟩:=h;rcases h with⟨d,_⟩|⟨g,cap,G,d,J,H,L,M,O,U⟩
 ·cases d
 ·cases d
  have V:=(List.getElem?_eq_some_iff.1 F).1;rw[Nat.zero_add,cell_of_row w _ j G e (0,0) H]
  grind
theorem Ow.openN {w:World} {B e:Nat} {v:Value} {d:List Value} (h:Ow w B e v d) (A:0<d.length):∃b off c,v=.slice (some ⟨b,off,none⟩) d.length c:=by
 rcases h.2 with⟨rfl,e⟩|⟨g,cap,F,rfl,_⟩
 ·omega
 simp
theorem aFx (v:Value) (m:List Int) (w w0:World) (L:RdI w v m) (M:RdI w0 v m) (hm:m.length<=1000000):
  Calls pG 106 #[v] w fun e w'=>∃O d,e=.returned O/\Ow w' w.heap.size 26 O d/\LOK w0 d (dA m)/\Below w.heap.size w w':=by
 obtain⟨a,A,rfl,a2,U,V⟩:=L.open;have Z:=aYe M;have a3:=hid U;unfold maxLen at U;clear L M;go_enter func106,ntmps106;go_wp2_with fail
 go_loopg [3,4] ((m.length+9)/10) (fun g s3 s4 wr=>∃(k:Nat) (G:Value) (d:List Value),k<=(m.length+9)/10/\g=(m.length+9)/10-k/\G=s3/\s4=.int .i64 ((10*k:Nat):Int)/\Ow wr w.heap.size 26 G d/\LOK w0 d ((dA m).take k)/\Below w.heap.size w wr)
 case atStart=>exact⟨0,_,[],aO _,rfl,rfl,rfl,Ow.nil _ _ _,LOK.nil _,aH _ _⟩
 case round=>
  obtain⟨k,G,d,hk,H,rfl,rfl,ho,F,I⟩:=hrel;have HG:=hid H;clear H;have a4:=I.size;have a6:d.length=k:=by rw[F.1,aQ,kR];omega
  obtain⟨i,hi⟩:∃i,10*k=i:=⟨_,rfl⟩;rw[hi];have HI:=hid hi;clear hi
  by_cases a7:i<m.length
  ·have u1:decide ((i:Int)<(m.length:Int))=true:=aG (by omega);obtain⟨b,off,rfl,hb,hc⟩:=V (by omega);obtain⟨a0,a1⟩:=Z b off rfl (by omega);obtain⟨h,J⟩:∃h,h=min (i+10) m.length:=⟨_,rfl⟩;have m1:aJ.wrap ((i:Int)+10)=(i:Int)+10:=by rw[aM];omega
   have m2:min ((i:Int)+10) (m.length:Int)=(h:Int):=by omega
   have m3:(if(m.length:Int)<(i:Int)+10 then(m.length:Int) else(i:Int)+10)=(h:Int):=by split<;>omega
   have m4:(if(i:Int)+10<(m.length:Int) then(i:Int)+10 else(m.length:Int))=(h:Int):=by split<;>omega
   have a8:∀W,(Instr.sliceAt 26 (.slice (some ⟨b,off,none⟩) m.length A) (some (.int .i64 (i:Int))) (some (.int .i64 (h:Int))) none).run pG W=.ok (.slice (some ⟨b,off+i,none⟩) (h-i) (A-i)) W:=fun W=>by
    have k1:(0:Int)<=(i:Int):=by omega
    have k2:(i:Int)<=(h:Int):=by omega
    have k3:(h:Int)<=(A:Int):=by omega
    have k4:¬A=i:=by omega
    by_cases h0:i=0
    ·subst h0;simp[go_sem,k3,k4,gP]
    ·simp[go_sem,k2,k3,k4,gP,h0]
   have HP:=hid (aYd a0 a1 a2 a3.out i h (by omega) J);have a5:(d.length+1)*24<=140737488355328:=by omega
   clear hc V a1 a0 Z hb;have HH:=hid J;clear J;go_wp2_with (at_builtin;refine tM CK rfl _ _ rfl w.heap.size _ d rfl (Ow.alloc ho _) wr.heap.size (.slice (some ⟨b,off+i,none⟩) (h-i) (A-i)) rfl (bX _ _ _) rfl ?_ ?_ ?_;(exact a5);(simp;omega);intro v4 w4 r1 r2 r3);have H:=HG.out;have hi:=HI.out
   go_roundg ((m.length+9)/10-(k+1))
   case measure=>omega
   case rel=>
    refine⟨k+1,_,_,by omega,rfl,rfl,?_,r1,?_,(I.alloc a4 _).trans r2⟩
    ·rw[<-hi];go_num
    ·rw[aYc (by omega),hi];exact F.snoc HP.out
  ·have u1:decide ((i:Int)<(m.length:Int))=false:=aE (by omega);have hi:=HI.out;rw[cD (by rw[kR];omega)] at F;clear hi;go_wp2_with fail;go_ret;exact⟨_,_,rfl,ho,F,I⟩
theorem aYf (v:Value) (m:List Int) (w:World) (A:RdI w v m) (G:m.length<=1000000):
  Calls pG 106 #[v] w fun e w'=>∃d,e=.returned d/\RdL w' d (dA m)/\Below w.heap.size w w':=
 (aFx v m w w A A G).mono fun _ _ ⟨d,_,H,I,J,F⟩=>⟨d,H,I.rdL (J.below F),F⟩
theorem aFy (v:Value) (l:List Int) (n:Nat) (w:World) (G:RdI w v l) (d:∀x∈l,0<=x/\x<(n:Int)):
  Calls pG 161 #[v,.int .i64 (n:Int)] w fun e w'=>e=.returned (.bool false)/\w'=w:=by
 obtain⟨a,Z,rfl,a0,J,H⟩:=G.open;unfold maxLen at J;have L:=hid d;clear d G;go_enter func161,ntmps161;go_wp2_with fail
 go_loopg [5] l.length (fun g M wr=>∃k:Nat,k<=l.length/\g=l.length-k/\M=.int .i64 (k:Int)/\wr=w)
 case atStart=>exact⟨0,aO _,rfl,rfl,rfl⟩
 case round=>
  obtain⟨k,hk,A,rfl,rfl⟩:=hrel;have O:=hid A;clear A
  by_cases U:k<l.length
  ·have V:decide ((k:Int)<(l.length:Int))=true:=aG (by omega);obtain⟨b,off,rfl,d,I⟩:=H (by omega);obtain⟨x,F⟩:=eG U;have c1:=I k x F;have a1:=L.out x (cN F);have v1:decide (x<0)=false:=aE (by omega);have v2:decide (x>=(n:Int))=false:=aE (by omega);have v3:decide ((n:Int)<=x)=false:=aE (by omega);clear I H F;go_wp2_with fail;have A:=O.out
   go_roundg (l.length-(k+1))
   case measure=>omega
   case rel=>exact⟨k+1,by omega,rfl,by go_num,rfl⟩
  ·have V:decide ((k:Int)<(l.length:Int))=false:=aE (by omega);go_wp2_with fail;go_ret;exact⟨rfl,rfl⟩
theorem aFz {l g:List Int} (h:bM l=0) (d:∀x∈g,0<=x/\x<(l.length:Int)):qW l g=oV l g:=by grind [qW,aB8,aTd,bM,oV]
theorem aF0 {l g:List Int} {k:Nat} {x:Int} (h:g[k]? =some x):oV l (g.take (k+1))=oV l (g.take k)+l.getD x.toNat 0:=by grind [cG,aB9,oV]
theorem aF1 (v u:Value) (l g:List Int) (w:World) (O:RdI w v l) (U:RdI w u g) (H:bM l=0) (d:∀x∈g,0<=x/\x<(l.length:Int)) (b5:g.length<=1000):
  Calls pG 164 #[v,u] w fun e w'=>e=.returned (.tuple #[.int .i64 (qW l g),.int .i64 0])/\Below w.heap.size w w':=by
 rw[aFz H d];have I:=(gE H).1;have F:=LV v l w O;rw[H] at F;have F:=F.mono (fun e w' (h:e=.returned (.int .i64 0)/\w'=w)=>(⟨h.1,by rw[h.2];exact aH _ _⟩:e=.returned (.int .i64 0)/\Below w.heap.size w w'));have a7:=hid (fun k=>aCa I.2.2 (g.take k));have HX:=hid d;have HL:=hid (fun(x:Int) (h:0<=x/\x<(l.length:Int))=>show l[x.toNat]? =some (l.getD x.toNat 0) by
  rw[bV,aN (show x.toNat<l.length by omega)];rfl)
 have a0:=fun W (h:RdI W u g)=>aFy u g l.length W h d
 have b6:=I.1;have a8:=hid (fun(x:Int) (h:0<=x/\x<(l.length:Int))=>I.2.2 (l.getD x.toNat 0) (cN (HL.out x h)));obtain⟨a,ca,rfl,b7,a9,hA⟩:=O.open;unfold maxLen at a9;obtain⟨b,off,rfl,hb,hc⟩:=hA (by omega);obtain⟨a2,c2,rfl,b8,b0,a1⟩:=U.open;unfold maxLen at b0;clear O hA I d H;go_enter func164,ntmps164;go_wp2_with fail;refine F.mono ?_;rintro e w1 ⟨rfl,J⟩;have a3:=U.below J;have HC:=hid (fun j x (A:l[j]? =some x)=>((pJ J).1 b (off+j) hb).trans (hc j x A))
 have b1:=hid (fun G L (h:G<w.heap.size) (h2:∀j x,g[j]? =some x->w.cell? ⟨G,L+j,none⟩=some (.int .i64 x)) j x (A:g[j]? =some x)=>((pJ J).1 G (L+j) h).trans (h2 j x A));clear F hc;go_wp2_with fail;refine(a0 _ a3).mono ?_;rintro e w2 ⟨rfl,rfl⟩;clear a0 U a3;go_wp2_with fail
 go_loopg [7,8] g.length (fun gg s7 s8 wr=>∃k:Nat,k<=g.length/\gg=g.length-k/\s8=.int .i64 (k:Int)/\s7=.int .i64 (oV l (g.take k))/\wr=w2)
 case atStart=>exact⟨0,aO _,rfl,rfl,rfl,rfl⟩
 case round=>
  obtain⟨k,hk,d,rfl,rfl,rfl⟩:=hrel;have HG:=hid d;clear d;have a4:=a7.out k;rw[aQ,Nat.min_eq_left hk] at a4
  by_cases b3:k<g.length
  ·have u1:decide ((k:Int)<(g.length:Int))=true:=aG (by omega);obtain⟨G,L,rfl,b4,a5⟩:=a1 (by omega);obtain⟨x,A⟩:=eG b3;have c1:=b1.out G L b4 a5 k x A;have M:=HX.out x (cN A);have V:=HL.out x M;have a6:=a8.out x M;have HT:=hid (aF0 (l:=l) A);obtain⟨X,rfl⟩:∃X:Nat,x=(X:Int):=⟨x.toNat,by omega⟩;rw[fL] at V a6 HT;have c2:=HC.out X _ V;obtain⟨S,Z⟩:∃S,S=oV l (g.take k):=⟨_,rfl⟩;obtain⟨D,hD⟩:∃D,D=l.getD X 0:=⟨_,rfl⟩;rw[<-Z,<-hD] at HT;rw[<-Z] at a4 ⊢;rw[<-hD] at a6 c2;have m1:aJ.wrap (S+D)=S+D:=by rw[aM];omega
   have v1:(X:Int)<(l.length:Int):=M.2;have v2:X<l.length:=by omega
   clear A V a5 a1 Z hD M;go_wp2_with fail;have d:=HG.out
   go_roundg (g.length-(k+1))
   case measure=>omega
   case rel=>exact⟨k+1,by omega,rfl,by go_num,by rw[HT.out],rfl⟩
  ·have u1:decide ((k:Int)<(g.length:Int))=false:=aE (by omega);rw[cD (by omega)];go_wp2_with fail
   go_ret2
   exact⟨rfl,J⟩
theorem aF2 {m:List Int} {n wh k:Nat} {x:Int} (h:m[k]? =some x):eH m n wh (k+1)=if k/10%2=wh then(eH m n wh k).set x.toNat ((eH m n wh k).getD x.toNat 0+1) else eH m n wh k:=by grind [eH]
theorem aYg (v:Value) (m:List Int) (n wh:Nat) (w:World) (hr:RdI w v m) (hm:m.length<=1000000) (hn:n<=1000) (hw:wh<=1) (G:∀x∈m,0<=x/\x<(n:Int)):
  Calls pG 163 #[v,.int .i64 (n:Int),.int .i64 (wh:Int)] w fun e w'=>∃v',e=.returned v'/\OwI w' w.heap.size v' (mW m n wh)/\Below w.heap.size w w':=by
 have HX:=hid G;have a5:=hid (fun k hk=>(BZ m n wh G k hk).2.2);have a1:=hid (xO m n wh);obtain⟨a,ca,rfl,b1,a6,V⟩:=hr.open;unfold maxLen at a6;have a2:aX n (bQ .i64 0)=(eH m n wh 0).map (bQ .i64):=by show _=(aX n (0:Int)).map _;rw[DM]
 clear hr G;go_enter func163,ntmps163;go_wp2_with (at_make;refine mkA jL rfl _ _ rfl n rfl rfl ?_ ?_;omega);have A:=Arr.made w 3 (.int .i64 0) n;rw[a2] at A;have hB:=bD (aH w.heap.size w) (.cells (gW (.int .i64 0) n) 3);change Arr (w.alloc (.cells (gW (.int .i64 0) n) 3)) _ _ _ at A;generalize w.alloc (.cells (gW (.int .i64 0) n) 3)=w1 at*
 clear a2
 go_loopg [8] m.length (fun g s8 wr=>∃k:Nat,k<=m.length/\g=m.length-k/\s8=.int .i64 (k:Int)/\Arr wr w.heap.size 3 ((eH m n wh k).map (bQ .i64))/\Below w.heap.size w wr)
 case atStart=>exact⟨0,aO _,rfl,rfl,A,hB⟩
 case round=>
  clear A hB;obtain⟨k,hk,I,rfl,A,J⟩:=hrel;have HG:=hid I;clear I
  by_cases a7:k<m.length
  ·have u1:decide ((k:Int)<(m.length:Int))=true:=aG (by omega);obtain⟨b,off,rfl,hb,Z⟩:=V (by omega);obtain⟨x,G⟩:=eG a7;have c1:=(J.cell (p:=⟨b,off+k,none⟩) hb).trans (Z k x G);have a0:=HX.out x (cN G);have F:=aF2 (n:=n) (wh:=wh) G;obtain⟨X,rfl⟩:∃X:Nat,x=(X:Int):=⟨x.toNat,by omega⟩;rw[fL] at F;obtain⟨q,L⟩:∃q,q=k/10:=⟨_,rfl⟩;obtain⟨p,M⟩:∃p,p=q%2:=⟨_,rfl⟩;have m1:(k:Int).tdiv 10=(q:Int):=by rw[L];exact Int.ofNat_tdiv k 10
   have m2:(q:Int).tmod 2=(p:Int):=by rw[M];exact Int.ofNat_tmod q 2
   have m3:aJ.wrap (q:Int)=(q:Int):=by rw[aM];omega
   have m4:(k:Int)/10=(q:Int):=by omega
   have m5:(q:Int)%2=(p:Int):=by omega
   rw[<-L,<-M] at F
   by_cases H:p=wh
   ·rw[aB H] at F;have u2:((p:Int)==(wh:Int))=true:=by rw[beq_iff_eq,H]
    have a3:=a1.out k;obtain⟨D,O⟩:∃D,D=eH m n wh k:=⟨_,rfl⟩;have U:D[X]? =some (D.getD X 0):=by rw[bV,aN (by rw[O,a3];omega)];rfl
    have a8:=a5.out k (by omega) (D.getD X 0) (by rw[<-O];exact cN U);rw[<-O] at F A;obtain⟨d,hd⟩:∃d,d=D.getD X 0:=⟨_,rfl⟩;rw[<-hd] at F U a8;have c2:=A.cell (i:=X) (v:=.int .i64 d) (by rw[eQ,U];rfl);have f2:=A.free X;have m6:aJ.wrap (d+1)=d+1:=by rw[aM];omega
    have v1:(X:Int)<(n:Int):=a0.2;have HS:=hid F;have a9:p<=1:=by omega
    clear F L M H G Z V hd U a3 O a0;go_wp2_with fail
    go_region
    all_goals go_wp2_with fail
    have I:=HG.out
    go_roundg (m.length-(k+1))
    case measure=>omega
    case rel=>
     refine⟨k+1,by omega,rfl,by go_num,?_,(J.setCell (p:=⟨w.heap.size,X,none⟩) (aD _) _).drew⟩;have:=A.set X (.int .i64 (d+1));rw[<-AP,<-HS.out] at this;exact this
   ·rw[aA H] at F;have u2:((p:Int)==(wh:Int))=false:=by rw[cB];omega
    have HS:=hid F;have a9:p<=1:=by omega
    clear F L M H G Z V a0;go_wp2_with fail;have I:=HG.out
    go_roundg (m.length-(k+1))
    case measure=>omega
    case rel=>exact⟨k+1,by omega,rfl,by go_num,by rw[HS.out];exact A,J⟩
  ·have u1:decide ((k:Int)<(m.length:Int))=false:=aE (by omega);have b0:k=m.length:=by omega
   subst b0;have a4:((eH m n wh m.length).map (bQ .i64)).length=n:=by rw[aS,a1.out]
   have ho:=A.own (B:=w.heap.size) (aD _) (by rw[a4];simp only[maxLen];omega);rw[a4] at ho;go_wp2_with fail;go_ret;exact⟨_,rfl,ho,J⟩
end
section
theorem aG1 (d:List Int):∀t,t<d.length->∀x,kQ d t x=0\/((x:Int)<kQ d t x/\kQ d t x<((d.length+t:Nat):Int))
 |0,_,x=>.inl rfl
 |t+1,h,x=>by
  have A:=mT.all d t (by omega);have L:=tS d t (by omega);obtain⟨a,b,s,F,_,I,J,_,_,_⟩:=uL (d.length+t) (bS d t) (by omega);have M:=A.lt a (F.mem_iff.1 (by simp)) _ (HT.root_mem _);have O:=A.lt b (F.mem_iff.1 (by simp)) _ (HT.root_mem _);show(if x=(cA (cA (bS d t)).2).1.2.root then _ else if x=(cA (bS d t)).1.2.root then _ else kQ d t x)=0\/_<(if x=(cA (cA (bS d t)).2).1.2.root then _ else if x=(cA (bS d t)).1.2.root then _ else kQ d t x)/\(if x=(cA (cA (bS d t)).2).1.2.root then _ else if x=(cA (bS d t)).1.2.root then _ else kQ d t x)<_
  rw[I,J]
  by_cases G:x=b.2.root
  ·rw[aB G];right;omega
  ·rw[aA G]
   by_cases H:x=a.2.root
   ·rw[aB H];right;omega
   ·rw[aA H];rcases aG1 d t (by omega) x with k|k
    ·exact .inl k
    ·right;omega
theorem aG2 (d:List Int):∀t,t<d.length->∀x,x<d.length+t->(∃p∈bS d t,p.2.root=x)\/kQ d t x≠0
 |0,h,x,J=>by
  obtain⟨p,A,I⟩:=(mT.all d 0 h).leaves x (by omega);obtain⟨j,hj,rfl⟩:=cE.start_mem A;obtain rfl:=cP.1 I;exact .inl ⟨_,A,rfl⟩
 |t+1,h,x,J=>by
  have I:=tS d t (by omega);obtain⟨a,b,s,A,L,M,O,_,_,_⟩:=uL (d.length+t) (bS d t) (by omega);have U:bS d (t+1)=s++[(a.1+b.1,.node (d.length+t) a.2 b.2)]:=L;have V:kQ d (t+1) x=if x=b.2.root then((d.length+t:Nat):Int) else if x=a.2.root then((d.length+t:Nat):Int) else kQ d t x:=by rw[<-M,<-O];rfl
  rw[U,V]
  by_cases Z:x=d.length+t
  ·exact .inl ⟨_,dK.2 (.inr (cP.2 rfl)),Z.symm⟩
  ·by_cases F:x=b.2.root
   ·rw[aB F];right;omega
   ·by_cases G:x=a.2.root
    ·rw[aA F,aB G];right;omega
    ·rw[aA F,aA G];rcases aG2 d t (by omega) x (by omega) with⟨p,a0,H⟩|k
     ·have:=A.mem_iff.2 a0;simp only[List.mem_cons] at this;rcases this with rfl|rfl|q
      ·exact absurd H.symm G
      ·exact absurd H.symm F
      ·exact .inl ⟨p,dK.2 (.inl q),H⟩
     ·exact .inr k
theorem aZt (d:List Int) (h:2<=d.length) (x:Nat) (H:x<2*d.length-2):∃u:Nat,kQ d (d.length-1) x=(u:Int)/\x<u/\u<=2*d.length-2:=by
 obtain⟨p,G,I⟩:=LA d h;rcases aG2 d (d.length-1) (by omega) x (by omega) with⟨q,A,J⟩|k
 ·rw[G] at A;obtain rfl:=cP.1 A;omega
 ·rcases aG1 d (d.length-1) (by omega) x with F|⟨F,L⟩
  ·exact absurd F k
  ·exact⟨(kQ d (d.length-1) x).toNat,by omega,by omega,by omega⟩
theorem aZu {q d:List (Int×Int)} {r:cE} (G:oG q) (A:q.Perm (rT r)) (h:r≠[]) (H:r.Pairwise (fun p q=>p.2.root<q.2.root)) (F:(q.getD 0 (0,0)::d).Perm q):
  q.getD 0 (0,0)=((cA r).1.1,((cA r).1.2.root:Int))/\d.Perm (rT (cA r).2):=by
 have e:=aZk G A h H;refine⟨e,?_⟩;rw[e] at F;exact List.Perm.cons_inv ((F.trans A).trans (aZl h).symm)
structure zV (N:Nat) (U:Nat->Int) (j:Nat) (D:Nat->Int):Prop where
 top:D (N-1)=0
 down:∀x,j<=x->x<N-1->D x=D (U x).toNat+1
 bd:∀x,j<=x->x<N->0<=D x/\D x<=((N-x:Nat):Int)
theorem zV.start (N:Nat) (U:Nat->Int):zV N U (N-1) (fun _=>0):=⟨rfl,fun x d A=>by omega,fun x d A=>by omega⟩
theorem zV.step {N:Nat} {U:Nat->Int} {j u:Nat} {D:Nat->Int} (h:zV N U (j+1) D) (J:j+1<N) (G:U j=(u:Int)) (L:j<u) (H:u<N) (I:∀x,j<=x->x<N-1->j<(U x).toNat):zV N U j (fun d=>if d=j then D u+1 else D d):=by
 refine⟨?_,fun x F A=>?_,fun x F A=>?_⟩
 ·show(if N-1=j then _ else _)=_;rw[aA (by omega)];exact h.top
 ·show(if x=j then _ else _)=(if(U x).toNat=j then _ else _)+1;have M:=I x F A;rw[aA (show ¬(U x).toNat=j by omega)]
  by_cases e:x=j
  ·subst e;rw[aB rfl,G,fL]
  ·rw[aA e];exact h.down x (by omega) A
 ·show 0<=(if x=j then _ else _)/\(if x=j then _ else _)<=_
  by_cases e:x=j
  ·subst e;rw[aB rfl];have:=h.bd u (by omega) H;omega
  ·rw[aA e];exact h.bd x (by omega) A
end
end Go.Proofs.YtihbnmlinkbnkaaGreatDoor
