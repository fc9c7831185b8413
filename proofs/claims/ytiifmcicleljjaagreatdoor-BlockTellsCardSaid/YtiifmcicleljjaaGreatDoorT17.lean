/- The walks and the plain laws, part 17. -/
import Derived.Test.YtiifmcicleljjaaGreatDoorT16
import Derived.Test.YtiifmcicleljjaaGreatDoorT20
set_option maxRecDepth 100000
set_option maxHeartbeats 12800000
set_option linter.unusedVariables false
open Array renaming getElem?_eq_some_iff->gQ,replicate_succ->lL,replicate_zero->lM
open Go renaming belowK_b->pJ,callsIn_of_wp->tW,callsIn_of_wp_marks->xX,grownBy_putObj'->mC,heap_alloc_new->FL,heap_setCell_other->kT,results_none->qX,run_takeDeferred->sJ,run_underlying->sI,wpAnyH_done->pY,wpAnyH_ready->fL
open Go.Act renaming eval->qC,put->aJ
open Go.Addr renaming add->iN
open Go.AllReadyH renaming cons->fA,nil->fM
open Go.Builtin renaming append_->tT
open Go.Fence renaming wide->eA
open Go.Instr renaming index->tV,sliceAt->GN
open Go.IntKind renaming i64->aI,u64->fU,wrap_i64->aM,wrap_u64->gF
open Go.KeepsOthers renaming drew->aC3,setCell->iH
open Go.Oper renaming semAt_some->rB
open Go.Result renaming andThen->jB
open Go.RowKit.Below renaming heap_alloc->oF,refl->aB
open Go.Value renaming func->iR,int->bO,slice->lK
open Go.World renaming block_lt_of_cell?->iO
open Int renaming tmod_eq_emod_of_nonneg->oJ,toNat_natCast->eG
open List renaming append_assoc->cF,append_nil->eE,append_toArray->lO,cons_append->gE,drop_eq_getElem_cons->oH,flatten_append->AM,flatten_cons->AS,flatten_nil->OO,getD_eq_getElem?_getD->aV,getElem?_append_left->gS,getElem?_append_right->jY,getElem?_drop->gR,getElem?_eq_getElem->aN,getElem?_eq_none->dL,getElem?_eq_some_iff->eU,getElem?_map->dY,getElem?_take_of_lt->mB,length_append->aL,length_cons->cR,length_drop->cI,length_map->bJ,length_nil->cX,length_pos_iff->kV,length_singleton->fK,length_take->aX,map_append->fI,map_set->vF,mem_of_getElem?->cH,nil_append->iG,push_toArray->lN,replicate->bB,setIfInBounds_toArray->aK,set_cons_succ->aG,set_cons_zero->aH,size_toArray->mY,take_add_one->cQ,take_append_drop->jE,take_of_length_le->cS
open List.Perm renaming refl->xP
open Nat renaming le_refl->aA,le_trans->aW,lt_of_lt_of_le->dR,min_eq_left->gU,mul_one->sE,reduceAdd->lZ,reduceSub->mZ,sub_self->oI,zero_add->iZ,zero_le->aU
open Option.some renaming inj->bW
namespace Go.Proofs.YtiifmcicleljjaaGreatDoor
section
open Go.RowKit Go Go.Shelf
theorem WrL.below {w w':World} {p B:Nat} {d:List (List Bool)} (h:WrL w p B d) (z:Below w.heap.size w w'):WrL w' p B d:=by
 obtain⟨v,A,E⟩:=h;exact⟨v,A.below z A.lt,E.below z (aA _)⟩
theorem AA (s:ByteArray) (room:Int) (w:World) (hs:s.size<=100000):
  Calls Tryz.prog 12 #[.string s,.int .i64 room] w fun e w'=>zQ w w' s room e:=by
 have HL:=hid (show s.data.toList.length=s.size by simp);have a3:=Arr.new w 29 [.string ⟨#[]⟩,.int .i64 0];have x4:(w.alloc (.cells #[.string ⟨#[]⟩,.int .i64 0] 29)).heap.size=w.heap.size+1:=by simp
 have c9:Below w.heap.size w (w.alloc (.cells #[.string ⟨#[]⟩,.int .i64 0] 29)):=bD (aB _ _) _;change Arr (w.alloc (.cells #[.string ⟨#[]⟩,.int .i64 0] 29)) _ _ _ at a3;have hd:eZ s room=if s.size=0\/room<1\/360<room then 1 else if room<((bC s.data.toList).length:Int) then 4 else 0:=rfl;have d0:=a3.cell (i:=0) rfl;have d1:=a3.cell (i:=1) rfl;have f0:=a3.free 0;have f1:=a3.free 1;have b4:=fun W=>ZU room W
 by_cases k6:s.size=0\/room<1\/360<room
 ·rw[if_pos k6] at hd;have HF:=hid hd;clear hd
  by_cases h1:s.size=0
  ·have u1:s.toList.isEmpty=true:=vA (List.eq_nil_of_length_eq_zero (by rw[HL.out];exact h1));go_enter Tryz.func12,Tryz.ntmps12;go_wp2_with fail;exact bpE rfl a3 rfl rfl rfl (vB HF.out (by decide) c9)
  have u1:s.toList.isEmpty=false:=rY (by omega);have d2:(decide (1<=room)&&decide (room<=360))=false:=by
   rw[Bool.and_eq_false_iff,decide_eq_false_iff_not,decide_eq_false_iff_not];omega
  rw[d2] at b4;go_enter Tryz.func12,Tryz.ntmps12;go_wp2_with fail;refine(b4 _).mono ?_;rintro e w' ⟨rfl,rfl⟩;go_wp2_with fail;exact bpE rfl a3 rfl rfl rfl (vB HF.out (by decide) c9)
 rw[if_neg k6] at hd;have u1:s.toList.isEmpty=false:=rY (by omega);have d2:(decide (1<=room)&&decide (room<=360))=true:=by
  rw[Bool.and_eq_true,decide_eq_true_eq,decide_eq_true_eq];omega
 rw[d2] at b4;have g9:0<s.size:=by omega
 have k7:=(oS s.data.toList.length s.data.toList (aA _)).1;rw[HL.out] at k7;have i0:=fun W=>ND s W (by omega)
 have i1:=fun W=>aR7 s W (by omega)
 obtain⟨P,hP⟩:∃P,P=bC s.data.toList:=⟨_,rfl⟩;rw[<-hP] at hd i1 k7 i0;have HP:=hid hP;clear hP d2;go_enter Tryz.func12,Tryz.ntmps12;go_wp2_with fail;generalize w.alloc (.cells #[.string ⟨#[]⟩,.int .i64 0] 29)=w0 at*
 have p6:w.heap.size<w0.heap.size:=by omega
 refine(b4 _).mono ?_;rintro e w' ⟨rfl,rfl⟩;clear b4 d0 d1 f0 f1;go_wp2_with fail;refine(i0 _).mono ?_;rintro e w1 ⟨rfl,a4⟩;have M:=a3.below a4 p6;have hb:=c9.trans (a4.mono (by omega));have g9:=a4.size;clear i0 a4 a3 c9
 by_cases a9:room<(P.length:Int)
 ·rw[if_pos a9] at hd;have HF:=hid hd;clear hd;have v1:decide ((P.length:Int)>room)=true:=decide_eq_true a9;have v2:decide (room<(P.length:Int))=true:=decide_eq_true a9;have d0:=M.cell (i:=0) rfl;have d1:=M.cell (i:=1) rfl;have f0:=M.free 0;have f1:=M.free 1;go_wp2_with fail;obtain⟨z0,z1⟩:=EL M hb (.string ⟨#[]⟩) (.int .i64 0);exact bpE rfl z0 rfl rfl rfl (vB HF.out (by decide) z1)
 rw[if_neg a9] at hd;have HF:=hid hd;clear hd;have v1:decide ((P.length:Int)>room)=false:=decide_eq_false a9;have v2:decide (room<(P.length:Int))=false:=decide_eq_false a9;have x5:P.length<=360:=by omega
 go_wp2_with fail;refine(i1 _).mono ?_;rintro e x6 ⟨rfl,a4⟩;have M:=M.below a4 (by omega);have hb:=hb.trans (a4.mono (by omega));have g9:=aW g9 a4.size;clear i1 a4;go_wp2_with fail;refine(aN0 (mkS P) _ (by rw[cP];omega)).mono ?_;rintro e w2 ⟨v5,rfl,a8,d3,hO⟩;have k8:=(oS s.data.toList.length s.data.toList (aA _)).2.1 (fun e=>by have:=HL.out;rw[e] at this;simp at this;omega);rw[<-HP.out] at k8;have hO:=hO (by rw[cP];exact kV.2 k8);have HO:=hid (show fS (mkS (bC s.data.toList)) by rw[<-HP.out];exact hO)
 obtain⟨P',a,m,o,n,O⟩:=BIn.of (t:=s) (by omega) (by rw[<-HP.out];omega) HO.out;obtain rfl:P'=P:=by rw[O.hP,HP.out]
 rw[O.hA,<-O.ho,O.hE,<-O.hm] at*
 have HI:=hid O;have k9:=O.m0;have x7:=O.m361;have x8:=O.n2;have p7:=O.n258;have x9:=O.a256;have y2:=O.o16;have l3:(a.length:Int)+2=(n:Int):=by rw[O.hn];omega
 have p8:((mkS a).size:Int)+2=(n:Int):=by rw[cP];exact l3
 have y3:(a.length:Int)+2=(n:Int):=l3;obtain⟨V,Y,rfl,_,_,_⟩:=a8.open;have M:=M.below d3 (by omega);have hb:=hb.trans (d3.mono (by omega));have p9:=d3.size;clear O d3 hO;go_wp2_with fail;have hX:=Arr.new w2 50 [.string (mkS a),.int .i64 (o:Int),.slice V m.length Y];have M:=M.alloc (.cells #[.string (mkS a),.int .i64 (o:Int),.slice V m.length Y] 50);have hb:=hb.alloc (o:=.cells #[.string (mkS a),.int .i64 (o:Int),.slice V m.length Y] 50) (by omega);have a8:=a8.below (bD (aB w2.heap.size w2) (.cells #[.string (mkS a),.int .i64 (o:Int),.slice V m.length Y] 50))
 have q0:(w2.alloc (.cells #[.string (mkS a),.int .i64 (o:Int),.slice V m.length Y] 50)).heap.size=w2.heap.size+1:=by simp
 change Arr (w2.alloc (.cells #[.string (mkS a),.int .i64 (o:Int),.slice V m.length Y] 50)) _ _ _ at hX;generalize w2.alloc (.cells #[.string (mkS a),.int .i64 (o:Int),.slice V m.length Y] 50)=w3 at*
 obtain⟨H,l6⟩:∃H,H=w2.heap.size:=⟨_,rfl⟩;rw[<-l6] at hX q0 p9 ⊢;clear l6;obtain⟨B3,l7⟩:∃B3,w3.heap.size=B3:=⟨_,rfl⟩;have x0:=hX.cell (i:=0) rfl;have x1:=hX.cell (i:=1) rfl;have x2:=hX.cell (i:=2) rfl;have y4:H<B3:=by omega
 have y5:=kZ (B:=B3) (w0:=w3) ⟨x0,x1,x2,aB _ _,by omega⟩ (aB w3.heap.size w3).drew
 go_region_held3 (fun w'=>w'.cell? ⟨H,0,none⟩=some (.string (mkS a))/\w'.cell? ⟨H,1,none⟩=some (.int .i64 (o:Int))/\w'.cell? ⟨H,2,none⟩=some (.slice V m.length Y)/\Below B3 w3 w'/\B3<=w'.heap.size)
  (first
   |with_reducible assumption
   |with_reducible exact kZ (by assumption) (by assumption))
  (first
   |(go_at_call 30;refine(WV (mkS a) (o:Int) (.slice V m.length Y) rfl _ (by rw[cP];omega)).mono ?_;rintro e w4 ⟨rfl,y6⟩;rw[p8])
   |(go_at_call 29;refine(aSk (.slice V m.length Y) m n _ (rdQ a8 l7 (by assumption)) k9 (by omega) (by omega) p7 HI.out.rng).mono ?_;rintro e F ⟨v9,v10,rfl,l8,q2,y7⟩))
 have q3:=(show F.cell? ⟨H,0,none⟩=some (.string (mkS a))/\F.cell? ⟨H,1,none⟩=some (.int .i64 (o:Int))/\F.cell? ⟨H,2,none⟩=some (.slice V m.length Y)/\Below B3 w3 F/\B3<=F.heap.size by assumption);obtain⟨x0,x1,x2,i2,y8⟩:=q3;obtain⟨B,T⟩:∃B,B=F.heap.size:=⟨_,rfl⟩;have i3:H<B:=by omega
 have l9:w.heap.size<B:=by omega
 have HC:=hid (fun W (h:Below B F W)=>show W.cell? ⟨H,0,none⟩=some (.string (mkS a))/\W.cell? ⟨H,1,none⟩=some (.int .i64 (o:Int))/\W.cell? ⟨H,2,none⟩=some (.slice V m.length Y) from⟨(h.cell (p:=⟨H,0,none⟩) i3).trans x0,(h.cell (p:=⟨H,1,none⟩) i3).trans x1,(h.cell (p:=⟨H,2,none⟩) i3).trans x2⟩);have M:=M.below i2 (by omega);have hb:=hb.trans (i2.mono (by omega));have a8:=a8.below (l7▸i2);have m3:=OwI.rd q2;have HA:=hid (fun W (h:Below B F W)=>M.below h l9);have HB:=hid (fun W (h:Below B F W)=>hb.trans (h.mono (Nat.le_of_lt l9)));have q4:=hid (fun W (h:Below B F W)=>a8.below (T▸h))
 have m4:=hid (fun W (h:Below B F W)=>m3.below (T▸h));have y9:=hid (fun W (h:Below B F W)=>l8.below (T▸h));have m5:=wJ m n;obtain⟨ac,cc,rfl,_,_,m6⟩:=m3.open;obtain⟨i4,i5,rfl,b5,m7⟩:=m6 (by omega);obtain⟨z2,z3,rfl,z4,z5,m8⟩:=l8.open;obtain⟨b9,o9,rfl,b0,i6⟩:=m8 (by simp);obtain⟨y0,hy0,d4⟩:=i6 0 _ rfl;obtain⟨y1,hy1,d5⟩:=i6 1 _ rfl;obtain⟨I,d6⟩:∃I,I=dN m n 0:=⟨_,rfl⟩;obtain⟨J,d7⟩:∃J,J=dN m n 1:=⟨_,rfl⟩;rw[<-d6] at d4;rw[<-d7] at d5;have q5:=hid d6;have q6:=hid d7;have b1:=hid (show bL I=0/\I.length=n by rw[d6];exact⟨HI.out.c0,HI.out.l0⟩)
 have b2:=hid (show bL J=0/\J.length=n by rw[d7];exact⟨HI.out.c1,HI.out.l1⟩);obtain⟨d8,d9,rfl,_,_,_⟩:=d4.open;obtain⟨e0,e7,rfl,_,_,_⟩:=d5.open;have m9:=hid (fun W (h:Below B F W)=>show W.cell? ⟨b9,o9,none⟩=some (.slice d8 I.length d9)/\W.cell? ⟨b9,o9+1,none⟩=some (.slice e0 J.length e7)/\RdI W (.slice d8 I.length d9) I/\RdI W (.slice e0 J.length e7) J from
  ⟨(h.cell (p:=⟨b9,o9,none⟩) (by rw[T];exact b0)).trans hy0,(h.cell (p:=⟨b9,o9+1,none⟩) (by rw[T];exact b0)).trans hy1,d4.below (T▸h),d5.below (T▸h)⟩)
 have q7:=hid (fun W (h:Below B F W) i c (hi:(cT m n)[i]? =some c)=>show W.cell? ⟨i4,i5+i,none⟩=some (.int .i64 c) from(h.cell (p:=⟨i4,i5+i,none⟩) (by rw[T];exact b5)).trans (m7 i c hi));clear m6 m7 m8 i6 hy0 hy1 d4 d5 d6 d7;have q8:(cT m n).length<=901:=by omega
 have q9:0<(cT m n).length:=by omega
 have i7:=hid (DE m n);have hZ:=(fG s.data.toList).isLt;obtain⟨Z,e8⟩:∃Z,Z=(fG s.data.toList).toNat:=⟨_,rfl⟩;rw[<-e8] at hZ;have i8:=fun W=>FA s W (by omega)
 rw[<-e8] at i8;have HZ:=hid e8;obtain⟨G,hG⟩:∃G,G=(cT m n).length:=⟨_,rfl⟩;have HG:=hid hG;have i9:=hid (hG.trans m5);have b6:=fun W=>aPk (mkS a) W (by rw[cP];omega)
 rw[fW] at b6;have r0:=CD a;have b7:=fun W h=>aO9 (.slice (some ⟨i4,i5,none⟩) (cT m n).length cc) (cT m n) W h (by omega) i7.out
 have j0:=wL (dO (cT m n)) 2 (yW i7.out);rw[uU] at j0;have e9:=fun W h=>ZN (.slice d8 I.length d9) I W h (eH b1.out.1).1
 have f2:=fun W h=>ZN (.slice e0 J.length e7) J W h (eH b2.out.1).1
 have r1:=wW (eH b1.out.1).1;have r2:=wW (eH b2.out.1).1;obtain⟨XM,f3⟩:∃X,X=fZ a:=⟨_,rfl⟩;obtain⟨XS,f4⟩:∃X,X=dE (dO (cT m n)):=⟨_,rfl⟩;obtain⟨X0,j1⟩:∃X,X=dW I:=⟨_,rfl⟩;obtain⟨X1,j2⟩:∃X,X=dW J:=⟨_,rfl⟩;rw[<-f3] at b6 r0;rw[<-f4] at b7 j0;rw[<-j1] at e9 r1;rw[<-j2] at f2 r2;unfold eL at b6 b7 e9 f2;rw[<-hG] at b7 j0 q8 q9 m4 ⊢;have z6:=hid f3;have z8:=hid f4;have r3:=hid j1;have r4:=hid j2;have e1:fU.wrap (Z:Int)=(Z:Int):=by rw[gF];omega
 have e2:(Z:Int)%18446744073709551616=(Z:Int):=by omega
 have e3:fU.wrap (o:Int)=(o:Int):=by rw[gF];omega
 have e4:(o:Int)%18446744073709551616=(o:Int):=by omega
 have e5:fU.wrap (G:Int)=(G:Int):=by rw[gF];omega
 have e6:(G:Int)%18446744073709551616=(G:Int):=by omega
 obtain⟨l0,f5⟩:∃l,l=aY 0x314159265359 48:=⟨_,rfl⟩;obtain⟨l1,f6⟩:∃l,l=aY Z 32:=⟨_,rfl⟩;obtain⟨l2,f7⟩:∃l,l=aY o 16:=⟨_,rfl⟩;obtain⟨l4,f8⟩:∃l,l=aY 2 3:=⟨_,rfl⟩;obtain⟨l5,f9⟩:∃l,l=aY G 15:=⟨_,rfl⟩;have o0:∀W,WrL W B (B+1) []->B+1<=W.heap.size->Calls Tryz.prog 31 #[.pointer (some ⟨B,0,none⟩),.int .u64 54156738319193,.int .i64 48] W fun e w'=>e=.returned (.tuple #[])/\WrL w' B (B+1) [l0]/\Below B W w':=fun W h1 h2=>by
  rw[f5];exact zW B (B+1) [] 54156738319193 48 W h1 (by omega) h2 (by decide) (by decide) (by decide)
 have j3:=fun W h1 h2=>zW B (B+1) [l0] Z 32 W h1 (by omega) h2 (by simp) (by omega) (by decide)
 have j4:=fun W h1 h2=>zW B (B+1) [l0,l1] o 16 W h1 (by omega) h2 (by simp) (by omega) (by decide)
 have o1:∀W,WrL W B (B+1) [l0,l1,l2,XM]->B+1<=W.heap.size->Calls Tryz.prog 31 #[.pointer (some ⟨B,0,none⟩),.int .u64 2,.int .i64 3] W fun e w'=>e=.returned (.tuple #[])/\WrL w' B (B+1) [l0,l1,l2,XM,l4]/\Below B W w':=fun W h1 h2=>by
  rw[f8];exact zW B (B+1) [l0,l1,l2,XM] 2 3 W h1 (by omega) h2 (by simp) (by decide) (by decide)
 have a2:=fun W h1 h2=>zW B (B+1) [l0,l1,l2,XM,l4] G 15 W h1 (by omega) h2 (by simp) (by omega) (by decide)
 rw[<-f6] at j3;rw[<-f7] at j4;rw[<-f9] at a2;have o2:=hid (show[l0,l1,l2,XM,l4,l5,XS].flatten=aY 0x314159265359 48++aY Z 32++aY o 16++fZ a++(aY 2 3++aY G 15++dE (dO (cT m n))) by
  rw[f5,f6,f7,f8,f9,f3,f4];simp only[AS,OO,eE,cF])
 have r5:[l0,l1,l2,XM,l4,l5,XS].flatten.length<=3000:=by
  rw[f5,f6,f7,f8,f9];simp only[AS,OO,eE,aL,cY];omega
 clear e8 hG m5 f3 f4 j1 j2 f5 f6 f7 f8 f9;go_wp2_with fail;have d:WrL (F.alloc (.cells #[.slice none 0 0] 69)) B (B+1) []:=⟨_,by rw[T];exact Arr.new F _ _,gG.nil _ _⟩;have A:Below B F (F.alloc (.cells #[.slice none 0 0] 69)):=by rw[T];exact bD (aB _ _) _
 have z:B+1<=(F.alloc (.cells #[.slice none 0 0] 69)).heap.size:=by rw[T];simp
 generalize F.alloc (.cells #[.slice none 0 0] 69)=w6 at*
 rw[<-T];have z9:=hid T;clear T;refine(o0 _ d z).mono ?_;rintro e w7 ⟨rfl,d,j5⟩;have A:=A.trans j5;have z:=aW z j5.size;clear o0 j5;go_wp2_with fail;refine(i8 _).mono ?_;rintro e w8 ⟨rfl,g0⟩;have d:=d.below g0;have A:=A.trans (g0.mono (by omega));have z:=aW z g0.size;clear i8 g0;go_wp2_with fail;refine(j3 _ d z).mono ?_;rintro e w9 ⟨rfl,d,b0⟩;have A:=A.trans b0;have z:=aW z b0.size;clear j3 b0;obtain⟨xa,xb,xc⟩:=HC.out _ A;clear xa xc;go_wp2_with fail;refine(j4 _ d z).mono ?_;rintro e w10 ⟨rfl,d,b5⟩;have A:=A.trans b5;have z:=aW z b5.size;clear j4 b5
 obtain⟨xa,r6,xc⟩:=HC.out _ A;clear r6 xc xb;go_wp2_with fail;refine(b6 _).mono ?_;rintro e w11 ⟨rfl,g1⟩;have d:=d.below g1;have A:=A.trans (g1.mono (by omega));have z:=aW z g1.size;clear b6 g1;go_wp2_with fail;refine(xF B (B+1) [l0,l1,l2] XM 0 _ d (by omega) z (by simp)).mono ?_;rintro e w12 ⟨rfl,d,j6,-⟩;have A:=A.trans j6;have z:=aW z j6.size;clear j6;go_wp2_with fail;refine(o1 _ d z).mono ?_;rintro e w13 ⟨rfl,d,j7⟩;have A:=A.trans j7;have z:=aW z j7.size;clear o1 j7;go_wp2_with fail;refine(a2 _ d z).mono ?_;rintro e w14 ⟨rfl,d,j8⟩;have A:=A.trans j8
 have z:=aW z j8.size;clear a2 j8;go_wp2_with fail;refine(b7 _ (m4.out _ A)).mono ?_;rintro e w15 ⟨rfl,g2⟩;have d:=d.below g2;have A:=A.trans (g2.mono (by omega));have z:=aW z g2.size;clear b7 g2;go_wp2_with fail;refine(xF B (B+1) [l0,l1,l2,XM,l4,l5] XS 0 _ d (by omega) z (by simp)).mono ?_;rintro e r7 ⟨rfl,d,j9,-⟩;have A:=A.trans j9;have z:=aW z j9.size;clear j9;clear xa e1 e2 e3 e4 e5 e6;obtain⟨L7,g3⟩:∃L,L=[l0,l1,l2,XM,l4,l5,XS]:=⟨_,rfl⟩;have d:WrL r7 B (B+1) L7:=by rw[g3];exact d
 rw[<-g3] at o2 r5;have hL7l:L7.length=7:=by rw[g3];rfl
 clear g3;go_wp2_with fail
 go_loopg [13,71] 2 (fun gm _s13 r8 wr=>∃k:Nat,k<=2/\gm=2-k/\r8=.int .i64 (k:Int)/\WrL wr B (B+1) (L7++[X0,X1].take k)/\Below B F wr/\B+1<=wr.heap.size)
 case atStart=>exact⟨0,by omega,rfl,rfl,by simpa using d,A,z⟩
 case round=>
  clear d A z;obtain⟨k,hk,hg,rfl,d,A,z⟩:=hrel;have o3:=hid hg;clear hg;obtain⟨t0,t1,t2,t3⟩:=m9.out _ A;rcases(show k=0\/k=1\/k=2 by omega) with rfl|rfl|rfl
  ·clear t1 t3;go_wp2_with fail;refine(e9 _ t2).mono ?_;rintro e r9 ⟨rfl,a6⟩;have d:=d.below a6;have A:=A.trans (a6.mono (by omega));have z:=aW z a6.size;clear a6;go_wp2_with fail;refine(xF B (B+1) _ X0 0 _ d (by omega) z (by simp;omega)).mono ?_;rintro e s0 ⟨rfl,d,c2,-⟩;go_wp2_with fail;have hg:=o3.out
   go_roundg 1
   case measure=>omega
   case rel=>exact⟨1,by omega,rfl,by go_num,by simpa using d,A.trans c2,aW z c2.size⟩
  ·clear t0 t2;go_wp2_with fail;refine(f2 _ t3).mono ?_;rintro e r9 ⟨rfl,a6⟩;have d:=d.below a6;have A:=A.trans (a6.mono (by omega));have z:=aW z a6.size;clear a6;go_wp2_with fail;refine(xF B (B+1) _ X1 0 _ d (by omega) z (by simp;omega)).mono ?_;rintro e s0 ⟨rfl,d,c2,-⟩;go_wp2_with fail;have hg:=o3.out
   go_roundg 0
   case measure=>omega
   case rel=>exact⟨2,by omega,rfl,by go_num,by simpa using d,A.trans c2,aW z c2.size⟩
  ·clear t0 t1 t2 t3;obtain⟨L9,g4⟩:∃L,L=L7++[X0,X1].take 2:=⟨_,rfl⟩;rw[<-g4] at d;have k0:L9.flatten=L7.flatten++(X0++X1):=by rw[g4];simp
   have s1:L9.length=9:=by rw[g4];simp;omega
   have s2:L9.flatten.length<=30000:=by rw[k0,aL,aL];omega
   obtain⟨D,hD⟩:∃D,D=L9.flatten:=⟨_,rfl⟩;have HD:=hid (hD.trans k0);have s3:=hid hD;obtain⟨xa,xb,xc⟩:=HC.out _ A;have o4:=aBi (.slice V m.length Y) m _ (q4.out _ A) k9 (by omega);clear xa xb g4 k0 e9 f2 hD;obtain⟨wo,rfl⟩:∃wo,wo=wr:=⟨_,rfl⟩;go_wp2_with fail;refine o4.mono ?_;rintro e w30 ⟨v8,gs,rfl,U,a0,g5⟩;have d:=d.below g5;have A:=A.trans (g5.mono (by omega));have s4:=z;have z:=aW z g5.size;have o5:gs.length=G:=by rw[a0.1,iD];exact i9.out.symm
   obtain⟨b8,o8,c8,rfl⟩:=Ow.openN U (by omega);obtain⟨BG,o6⟩:∃BG,BG=wo.heap.size:=⟨_,rfl⟩;rw[<-o6] at U a0 s4;rw[o5] at U ⊢;have s5:=hid HI.out.rng;have s6:=hid (fun j g (h:(cK m)[j]? =some g)=>DK h);clear o4 g5 xc o6;go_wp2_with fail
   go_loopg [14,15,85] G (fun gm _s14 _s15 s7 wr=>∃(i:Nat) (ls:List (List Bool)),i<=G/\gm=G-i/\s7=.int .i64 (i:Int)/\WrL wr B (B+1) ls/\Hid (ls.flatten=D++gP I J ((cT m n).take i) ((cK m).take i))/\ls.length<=20+i/\ls.flatten.length<=30000+300*i/\Ow wr BG 27 (.slice (some ⟨b8,o8,none⟩) G c8) gs/\fE wr BG gs (cK m)/\Below B F wr/\B+1<=wr.heap.size)
   case atStart=>exact⟨0,L9,aU _,rfl,rfl,d,hid (by rw[s3.out];simp[gP]),by omega,by omega,U,a0,A,z⟩
   case round=>
    clear d U a0 A z s2 s1;obtain⟨i,ls,hi,hg,rfl,d,k1,hll,hfb,U,a0,A,z⟩:=hrel;have o7:=hid hg;clear hg
    by_cases s8:i<G
    ·have q1:decide ((i:Int)<(G:Int))=true:=decide_eq_true (by omega);have s9:=i9.out;obtain⟨g,g6⟩:∃g,(cK m)[i]? =some g:=⟨_,aN (by rw[iD];omega)⟩;obtain⟨c,g7⟩:∃c,(cT m n)[i]? =some c:=⟨_,aN (by rw[wJ];omega)⟩;obtain⟨x,hx⟩:∃x,gs[i]? =some x:=⟨_,aN (by rw[o5];exact s8)⟩;have c3:=OwI.rd (a0.2 i x g hx g6);have cg:=U.cellAt hx;have p0:=q7.out _ A i c g7;obtain⟨t0,t1,t2,t3⟩:=m9.out _ A;obtain⟨m1,m2⟩:=s6.out i g g6;have b3:∀x∈g,0<=x/\x<(n:Int):=fun x hx=>s5.out x (m1 x hx)
     have a2:=MH (t0:=I) (t1:=J) g7 g6;obtain⟨ax,cx,rfl,_,_,_⟩:=c3.open;have t4:=i7.out c (cH g7);clear m1 g6 hx g7 s9;rcases t4 with rfl|rfl
     ·rw[if_pos rfl] at a2;have a7:=aBj (.slice d8 I.length d9) (.slice ax g.length cx) I g _ t2 c3 b1.out.1 (by rw[b1.out.2];exact b3) (by omega);have k2:=rR (eH b1.out.1).1 g (by rw[b1.out.2];exact b3);obtain⟨X,hX⟩:∃X,X=eR I g:=⟨_,rfl⟩;rw[<-hX] at a2 a7 k2;unfold eL at a7;have k3:=hid a2;clear a2 hX b3 t1 t2 t3 c3;go_wp2_with fail;refine a7.mono ?_;rintro e t5 ⟨rfl,a1⟩;have d:=d.below a1;have A:=A.trans (a1.mono (by omega));have z:=aW z a1.size;have U:=U.below a1 (aA _);have a0:=a0.below a1;clear a7 a1 cg p0 t0;go_wp2_with fail
      refine(xF B (B+1) _ X 0 _ d (by omega) z (by omega)).mono ?_;rintro e t6 ⟨rfl,d,c4,c6⟩;go_wp2_with fail;have hg:=o7.out
      go_roundg (G-(i+1))
      case measure=>omega
      case rel=>exact⟨i+1,_,by omega,rfl,by go_num,d,hid (by rw[AM,k1.out,k3.out];simp),by rw[aL,fK];omega,by rw[AM,aL,AS,OO,eE];omega,c6.ow U (by omega) (by decide),a0.map (fun x g k=>c6.ow k (by omega) (by decide)),A.trans c4,aW z c4.size⟩
     ·rw[if_neg (by decide)] at a2;have a7:=aBj (.slice e0 J.length e7) (.slice ax g.length cx) J g _ t3 c3 b2.out.1 (by rw[b2.out.2];exact b3) (by omega);have k2:=rR (eH b2.out.1).1 g (by rw[b2.out.2];exact b3);obtain⟨X,hX⟩:∃X,X=eR J g:=⟨_,rfl⟩;rw[<-hX] at a2 a7 k2;unfold eL at a7;have k3:=hid a2;clear a2 hX b3 t0 t2 t3 c3;go_wp2_with fail;refine a7.mono ?_;rintro e t5 ⟨rfl,a1⟩;have d:=d.below a1;have A:=A.trans (a1.mono (by omega));have z:=aW z a1.size;have U:=U.below a1 (aA _);have a0:=a0.below a1;clear a7 a1 cg p0 t1;go_wp2_with fail
      refine(xF B (B+1) _ X 0 _ d (by omega) z (by omega)).mono ?_;rintro e t6 ⟨rfl,d,c4,c6⟩;go_wp2_with fail;have hg:=o7.out
      go_roundg (G-(i+1))
      case measure=>omega
      case rel=>exact⟨i+1,_,by omega,rfl,by go_num,d,hid (by rw[AM,k1.out,k3.out];simp),by rw[aL,fK];omega,by rw[AM,aL,AS,OO,eE];omega,c6.ow U (by omega) (by decide),a0.map (fun x g k=>c6.ow k (by omega) (by decide)),A.trans c4,aW z c4.size⟩
    ·have q1:decide ((i:Int)<(G:Int))=false:=decide_eq_false (by omega);have p1:i=G:=by omega
     have p2:=HA.out _ A;have p3:=HB.out _ A;have p4:=HI.out.blk;obtain⟨E,hE⟩:∃E,E=ls.flatten:=⟨_,rfl⟩;have p5:E=cB s:=by
      rw[p4,hE,k1.out,p1,cS (by rw[<-HG.out];exact aA _),cS (by rw[iD,<-i9.out];exact aA _),HD.out,o2.out,r3.out,r4.out,HZ.out,<-HG.out,<-q5.out,<-q6.out];simp only[cF]
     have t7:=hid p5;obtain⟨vw,t8,k4⟩:=d;have g8:=CF vw ls _ k4.rd (by omega);rw[<-hE] at g8;unfold eL at g8;obtain⟨aw,cw,rfl,-⟩:=k4.rd;have dw:=t8.cell (i:=0) rfl;clear p5 p4 p1 U a0 k4 hE;go_wp2_with fail;refine g8.mono ?_;rintro e w40 ⟨rfl,k5⟩;have c7:=p2.below k5 (by omega);have t9:=p3.trans (k5.mono (by omega));have d0:=c7.cell (i:=0) rfl;have d1:=c7.cell (i:=1) rfl;have f0:=c7.free 0;have f1:=c7.free 1;clear g8 k5 p2 p3;go_wp2_with fail;obtain⟨z0,z1⟩:=EL c7 t9 (.string (mkS (aD E))) (.int .i64 (E.length:Int));refine bpE rfl z0 rfl rfl rfl ⟨?_,z1,fun _=>HO.out⟩
     have x3:mP s room=E:=by unfold mP;rw[if_pos HF.out,t7.out]
     rw[x3,HF.out];rfl
end
end Go.Proofs.YtiifmcicleljjaaGreatDoor
