/- The walks and the plain laws, part 7. -/
import Derived.Deep.AppendLies
import Derived.Test.YtiifmcicleljjaaGreatDoorT6
set_option maxRecDepth 100000
set_option maxHeartbeats 12800000
set_option linter.unusedVariables false
open Bool renaming noConfusion->tQ
open Classical renaming byContradiction->aCc
open Go renaming Operand->iM
open Go.Addr renaming add->iN
open Go.Calls renaming quiet_of->OB
open Go.Instr renaming sliceAt->GN
open Go.IntKind renaming i64->aI,u32->rA,wrap_i64->aM,wrap_u32->vP
open Go.IntWalk renaming i64_in->tS
open Go.Op renaming bytesLess->oL
open Go.Oper renaming wp->lX
open Go.Region renaming wanted->nR
open Go.RowKit.Below renaming refl->aB
open Go.Value renaming int->bO
open Go.Value.slice renaming injEq->aCd
open Go.World renaming block_lt_of_cell?->iO,cell?_of_block->oK,size_alloc->fV
open Int renaming toNat_natCast->eG
open List renaming drop_of_length_le->qY,eq_nil_of_length_eq_zero->vK,ext_getElem?->jA,getD->fF,getD_eq_getElem?_getD->aV,getElem?_append_left->gS,getElem?_concat_length->AQ,getElem?_drop->gR,getElem?_eq_getElem->aN,getElem?_eq_none->dL,getElem?_eq_some_iff->eU,getElem?_map->dY,getElem?_take_of_lt->mB,length_append->aL,length_cons->cR,length_drop->cI,length_eraseIdx->GJ,length_map->bJ,length_nil->cX,length_take->aX,map_append->fI,map_congr_left->qW,mem_cons->kD,mem_map->dU,mem_of_getElem?->cH,mem_of_mem_drop->xU,mem_of_mem_take->nO,mem_range->jF,mem_singleton->dC,pairwise_append->aCg,pairwise_iff_getElem->xO,range->dG,replicate->bB,take_length->kE,take_of_length_le->cS
open List.Pairwise renaming imp_of_mem->aB5
open Nat renaming add_assoc->dZ,add_mod_right->aCi,add_mul_mod_self_left->aTo,add_zero->pH,eq_zero_or_pos->fJ,le_refl->aA,le_trans->aW,lt_or_ge->bT,mod_add_div->NU,mod_add_mod->AO,mod_eq_of_lt->kU,mod_lt->jQ,mul_one->sE,zero_le->aU
open Option.some renaming inj->bW,injEq->iP
open UInt8 renaming lt_iff_toNat_lt->NZ,toNat_inj->qV
namespace Go.Proofs.YtiifmcicleljjaaGreatDoor
section
open Go.RowKit
theorem aGy {s:ByteArray} (h:s.size=0):s=mkS []:=by
 apply IB;apply vK
 simpa using h
theorem aGz (w:World):
  Calls Tryz.prog 132 #[.string (mkS [])] w fun e w'=>e=.returned (.slice none 0 0)/\Below w.heap.size w w':=by
 have M:(mkS []).size=0:=rfl;obtain⟨s,G⟩:∃s,s=mkS []:=⟨_,rfl⟩;rw[<-G] at M ⊢;clear G;go_enter Tryz.func132,Tryz.ntmps132;go_wp2_with (at_make;refine mkA gL rfl _ _ rfl 0 rfl rfl ?_ ?_;omega)
 go_loopg [2,4,15] 0 (fun _gh A _s4 O wr=>O=.int .i64 0/\A=.slice none 0 0/\
   Arr wr (w.heap.size+1) 228 [.string s,.slice (some ⟨w.heap.size,0,none⟩) 0 0,.int .i64 0]/\
   Below w.heap.size w wr/\w.heap.size+2<=wr.heap.size)
 case atStart=>
  refine⟨rfl,rfl,?_,(uM _ _).trans ((aB _ _).alloc (by simp) _),by simp⟩;have:=Arr.new (w.alloc (.cells (fB (.int .i64 0) 0) 3)) 228 [.string s,.slice (some ⟨w.heap.size,0,none⟩) 0 0,.int .i64 0];rwa[fV] at this
 case round=>
  obtain⟨rfl,rfl,d,z,V⟩:=hrel;obtain⟨E,rfl⟩:∃E:World,E=wr:=⟨_,rfl⟩;go_wp2_with fail
  go_loopg [2,5,6] 0 (fun _gh A _s5 _s6 wr=>A=.slice none 0 0/\E=wr)
  case atStart=>exact⟨rfl,rfl⟩
  case round=>
   obtain⟨rfl,rfl⟩:=hrel;go_wp2_with fail;refine(Tryz.slices_Sort_int_none none 0 _).mono ?_;rintro e Y ⟨rfl,h⟩;subst h;have H:=d.cell (i:=0) rfl;have I:=d.cell (i:=1) rfl;have J:=d.cell (i:=2) rfl;go_wp2_with fail;refine(aGl none 0 _ _ _).mono ?_;rintro e Z ⟨rfl,F⟩;have T:=d.below F d.lt;have L:=z.trans (F.mono z.size);have a0:=F.size;clear d z H I J;go_wp2_with (at_make;refine mkA gL rfl _ _ rfl 0 rfl rfl ?_ ?_;omega)
   go_loopg [6] 0 (fun _gh U wr=>U=.int .i64 1/\Arr wr (w.heap.size+1) 228 [.string s,.slice (some ⟨w.heap.size,0,none⟩) 0 0,.int .i64 0]/\Below w.heap.size w wr)
   case atStart=>exact⟨rfl,T.alloc _,L.alloc L.size _⟩
   case round=>
    obtain⟨rfl,d,z⟩:=hrel;have H:=d.cell (i:=0) rfl;have I:=d.cell (i:=1) rfl;have J:=d.cell (i:=2) rfl;have f1:=d.free 1;have f2:=d.free 2;go_wp2_with fail;go_ret;exact⟨rfl,(z.setCell (by show w.heap.size<=w.heap.size+1;omega) _).setCell (by show w.heap.size<=w.heap.size+1;omega) _⟩
theorem aG0 {n:Nat} {f f':Nat->Int} (h:∀d,d<n->f d=f' d):tab n f=tab n f':=qW (fun d z=>by rw[h d (by simpa using z)])
theorem aG1 (s:ByteArray) {k:Nat} (h:k<s.size):bX s k=s[k].toNat:=by
 rw[aGw s h];simp[fF,eW s k h]
theorem aG2 (s:ByteArray) (w:World) (hn:s.size<=1000000) (f9:0<s.size):
  Calls Tryz.prog 132 #[.string s] w fun e w'=>∃v o,e=.returned v/\Ord (bX s) s.size s.size o/\OwI w' w.heap.size v (gI s.size o)/\Below w.heap.size w w':=by
 go_enter Tryz.func132,Tryz.ntmps132;go_wp2_with (at_make;refine mkA gL rfl _ _ rfl s.size rfl rfl ?_ ?_;omega)
 go_loopg [2,4,15] s.size (fun gh s2 _s4 e5 wr=>∃k:Nat,k<=s.size/\gh=s.size-k/\e5=.int .i64 k/\(k=0->s2=.slice none 0 0)/\OwI wr (w.heap.size+2) s2 (gI k (fun d=>(d:Int)))/\
   Arr wr w.heap.size 3 (tab s.size (fun d=>if d<k then(bX s d:Int) else 0))/\Arr wr (w.heap.size+1) 228 [.string s,.slice (some ⟨w.heap.size,0,none⟩) s.size s.size,.int .i64 0]/\
   Below w.heap.size w wr/\w.heap.size+2<=wr.heap.size)
 case atStart=>
  refine⟨0,aU _,rfl,rfl,fun _=>rfl,OwI.nil _ _,?_,?_,(uM _ _).trans ((aB _ _).alloc (by simp) _),by simp⟩
  ·have:=(Arr.made w 3 (.int .i64 0) s.size).alloc (.cells #[.string s,.slice (some ⟨w.heap.size,0,none⟩) s.size s.size,.int .i64 0] 228);rw[BF] at this;have e:(fun d=>if d<0 then(bX s d:Int) else 0)=fun _=>(0:Int):=by funext d;simp
   rw[e];exact this
  ·have:=Arr.new (w.alloc (.cells (fB (.int .i64 0) s.size) 3)) 228 [.string s,.slice (some ⟨w.heap.size,0,none⟩) s.size s.size,.int .i64 0];rwa[fV] at this
 case round=>
  obtain⟨k,hk,J,rfl,d6,b5,a2,E,F,e6⟩:=hrel;have HG:=hid J;have g0:=hid d6;clear J d6
  by_cases Y:k<s.size
  ·have hb:s[k].toNat<256:=s[k].toNat_lt;have HB:=hid (aG1 s Y);go_wp2_with (at_builtin;refine eN rfl _ _ rfl (w.heap.size+2) _ _ rfl (b5.alloc _) wr.heap.size (k:Int) rfl ?_ ?_ ?_ ?_;(exact bS _ _ _);(rw[mL];omega);(simp;omega);intro v' w1 e7 hB g1;(have b6:=(a2.alloc (.cells #[.int .i64 (k:Int)] 3)).below hB (by omega));(have a0:=(E.alloc (.cells #[.int .i64 (k:Int)] 3)).below hB (by omega)));have I:w1.cell? ⟨w.heap.size+1,1,none⟩=some (.slice (some ⟨w.heap.size,0,none⟩) s.size s.size):=a0.cell rfl
   have L:=b6.cell (iS s.size (fun d=>if d<k then(bX s d:Int) else 0) k Y);have f1:=b6.free k;have e8:=hB.size;rw[fV] at e8
   go_region
   all_goals go_wp2
   have J:=HG.out
   go_roundg (s.size-(k+1))
   case measure=>omega
   case rel=>
    refine⟨k+1,by omega,rfl,by go_num,fun h=>by omega,?_,?_,?_,?_,?_⟩
    ·rw[aGp];exact Ow.drewN (ownsRow_setCell_below e7 (by show w.heap.size<_;omega) _) 1
    ·have e:=qD s.size (fun d=>if d<k then(bX s d:Int) else 0) (fun d=>if d<k+1 then(bX s d:Int) else 0) k (s[k].toNat:Int) (fun d _=>by
      by_cases h1:d=k
      ·rw[if_pos h1,h1];show(if k<k+1 then(bX s k:Int) else 0)=_;rw[if_pos (by omega),HB.out]
      ·rw[if_neg h1]
       by_cases h2:d<k
       ·show(if d<k+1 then(bX s d:Int) else 0)=(if d<k then(bX s d:Int) else 0);rw[if_pos (by omega),if_pos h2]
       ·show(if d<k+1 then(bX s d:Int) else 0)=(if d<k then(bX s d:Int) else 0);rw[if_neg (by omega),if_neg h2])
     rw[<-e];exact(b6.set k _).drewN 1
    ·exact(a0.other ⟨w.heap.size,k,none⟩ (by simp) _).drewN 1
    ·exact(((F.alloc (by omega) _).trans (hB.mono (by omega))).setCell (aA _) _).drew
    ·show w.heap.size+2<=(w1.setCell _ _).heap.size;exact aW (by omega) (eM w1 _ _ _).size
  ·have e9:k=s.size:=by omega
   subst e9;have d7:Arr wr w.heap.size 3 (tab s.size (fun d=>(bX s d:Int))):=by
    rw[aG0 (f':=fun d=>if d<s.size then(bX s d:Int) else 0) (fun d A=>(if_pos A).symm)];exact a2
   clear a2 Y;rcases fJ s.size with h0|h0
   ·omega
   ·obtain⟨g,cap,hv,g2,A,d8⟩:=aGr b5 (by intro e;have:=congrArg List.length e;rw[mL,cX] at this;omega);subst hv;rw[mL] at A ⊢;have Z:Dat wr g cap s.size (fun d=>(d:Int)):=A.congr (fun d A=>by simp[fF,wC _ _ _ A]);clear A b5 hk;obtain⟨wo,rfl⟩:∃wo:World,wo=wr:=⟨_,rfl⟩;go_wp2_with fail
    go_loopg [2,5,6] s.size (fun gh s2 _s5 _s6 wr=>∃(M b:Nat) (r o:Nat->Int),M<s.size/\gh=s.size-M/\s2=.slice (some ⟨g,0,none⟩) s.size cap/\Dat wr g cap s.size o/\
     Hid ((∀k,k<s.size->0<=o k/\o k<(s.size:Int))/\∀i j,i<j->j<s.size->o i≠o j)/\Arr wr b 3 (tab s.size r)/\
     Arr wr (w.heap.size+1) 228 [.string s,.slice (some ⟨b,0,none⟩) s.size s.size,.int .i64 (M:Int)]/\Hid (sW (bX s) s.size (max M 1) r)/\b≠g/\w.heap.size<=b/\b≠w.heap.size+1/\
     Below w.heap.size w wr)
    case atStart=>exact⟨0,w.heap.size,_,_,h0,rfl,rfl,Z,hid ⟨fun k hk=>by show 0<=(k:Int)/\(k:Int)<(s.size:Int);omega,fun i j h1 h2=>by show(i:Int)≠(j:Int);omega⟩,d7,E,hid (aGx s),by omega,aA _,by omega,F⟩
    case round=>
     clear Z E F d7 e6;obtain⟨M,b,r,o,g3,J,rfl,A,HO,hr,E,HK,b7,g4,g5,F⟩:=hrel;have f0:=hid J;clear J;obtain⟨wp,rfl⟩:∃wp:World,wp=wr:=⟨_,rfl⟩;go_wp2_with fail;refine(aGu g cap s.size o _ A hn HO.out.1 HO.out.2).mono ?_;rintro e w1 ⟨rfl,d9,a8⟩;have b8:=hr.grown a8 (fun e=>b7 (bW e));have a0:=E.grown a8 (fun e=>by have:=bW e;omega);have b9:=F.trans (QC a8 (B:=w.heap.size) (by omega) F.size);clear A hr E F a8;have c0:=a0.cell (i:=0) rfl;have I:=a0.cell (i:=1) rfl;have L:=a0.cell (i:=2) rfl
     have c5:=aGo s b g cap s.size M r w1 (bX s) rfl hn (by omega) b8 b7 d9 d8 (sX s) HK.out;unfold qJ pP at c5;have HS:=hid c5;clear c5;go_wp2_with fail;refine HS.out.mono ?_;rintro e G ⟨rfl,⟨h,hO,a9⟩,b0⟩;have c6:=b8.grown b0 (fun e=>b7 (bW e));have c7:=a0.grown b0 (fun e=>by have:=bW e;omega);have b1:=b9.trans (QC b0 (B:=w.heap.size) (by omega) b9.size);have O:=hid hO;clear HS HO hO d9 b8 a0 b9 b0 c0 I L;go_wp2_with (at_make;refine mkA gL rfl _ _ rfl s.size rfl rfl ?_ ?_;omega)
     go_loopg [6] (s.size-1) (fun gh s6 wr=>∃(p:Nat) (f:Nat->Int),1<=p/\p<=s.size/\gh=s.size-p/\s6=.int .i64 p/\Dat wr g cap s.size h/\Arr wr b 3 (tab s.size r)/\
      Arr wr (w.heap.size+1) 228 [.string s,.slice (some ⟨b,0,none⟩) s.size s.size,.int .i64 (M:Int)]/\Arr wr G.heap.size 3 (tab s.size f)/\
      Hid (∀j,j<p->f (h j).toNat=vr (bX s) (max (2*M) 1) h j)/\Below w.heap.size w wr)
     case atStart=>
      refine⟨1,fun _=>0,aA _,h0,?_,rfl,a9.below (uM _ _) a9.lt,c6.alloc _,c7.alloc _,?_,hid (fun j hj=>?_),b1.alloc b1.size _⟩
      ·rfl
      ·have:=Arr.made G 3 (.int .i64 0) s.size;rwa[BF] at this
      ·have:j=0:=by omega
       subst this;rfl
     case round=>
      have g6:=b1.size;have g7:=a9.lt;have g8:=c6.lt;have g9:=c7.lt;clear a9 c6 c7 b1;obtain⟨p,f,f3,i0,J,rfl,A,hr,E,T,HV,F⟩:=hrel;have e0:=hid J;clear J
      by_cases Y:p<s.size
      ·obtain⟨x,hx⟩:∃x,x=(h p).toNat:=⟨_,rfl⟩;obtain⟨y,hy⟩:∃y,y=(h (p-1)).toNat:=⟨_,rfl⟩;have bx:=O.out.rng p Y;have f4:=O.out.rng (p-1) (by omega);have ex:h p=(x:Int):=by omega
       have ey:h (p-1)=(y:Int):=by omega
       have b2:x<s.size:=by omega
       have c8:y<s.size:=by omega
       have I:=A.cell (k:=p) Y;have L:=A.cell (k:=p-1) (by omega);rw[ex] at I;rw[ey] at L;have c3:=T.cell (iS s.size f y c8);have c4:=T.cell (iS s.size f x b2);have f1:=T.free x;have hz:=HV.out (p-1) (by omega);rw[<-hy] at hz;have vb:=aGv (bX s) (max (2*M) 1) h (p-1);rw[<-hz] at vb;obtain⟨z,e2⟩:∃z,z=f y:=⟨_,rfl⟩;rw[<-e2] at c3 vb hz;have HX:=hid hx;have HY:=hid hy;have EX:=hid ex;have EY:=hid ey;have HZ:=hid hz;clear hx hy ex ey hz e2 bx f4;have s1:aI.wrap ((p:Int)-1)=(p:Int)-1:=tS _ (by omega);have s2:((p:Int)-1).toNat=p-1:=by omega
       have s3:(0:Int)<=(p:Int)-1:=by omega
       have s4:(p:Int)-1<(s.size:Int):=by omega
       have s6:(1:Int)<=(p:Int):=by omega
       have i1:(p:Int)<(s.size:Int):=by omega
       have i2:(0:Int)<=(p:Int):=by omega
       have s7:1<=p:=f3;have s8:0<p:=by omega
       have s9:(p:Int)<=(s.size:Int):=by omega
       go_wp2_with fail
       go_cut [] (fun U=>Dat U g cap s.size h/\Arr U b 3 (tab s.size r)/\Arr U (w.heap.size+1) 228 [.string s,.slice (some ⟨b,0,none⟩) s.size s.size,.int .i64 (M:Int)]/\
        Arr U G.heap.size 3 (tab s.size (gH f x z))/\Below w.heap.size w U)
       case first=>as_aux_lemma=>
        go_region
        all_goals go_wp2_with fail
        all_goals go_meet
        exact⟨(A.other _ (by show G.heap.size≠g;omega) _).drew,(hr.other _ (by show G.heap.size≠b;omega) _).drewN 1,(E.other _ (by show G.heap.size≠w.heap.size+1;omega) _).drewN 1,
         (by have e:=qD s.size f (gH f x z) x z (fun d _=>rfl);rw[<-e];exact(T.set x _).drewN 1),(F.setCell (by show w.heap.size<=G.heap.size;omega) _).drew⟩
       case rest=>
        obtain⟨Z,a3,a1,b3,b4⟩:=hcut;clear A hr E T F I L c3 c4 f1;have I:=Z.cell (k:=p) Y;have L:=Z.cell (k:=p-1) (by omega);rw[EX.out] at I;rw[EY.out] at L;have d0:=a1.cell (i:=0) rfl;have d1:=a1.cell (i:=1) rfl;have d2:=a1.cell (i:=2) rfl;obtain⟨V,c9⟩:∃V:World,V=wc:=⟨_,rfl⟩;rw[<-c9] at Z a3 a1 b3 b4 I L d0 d1 d2;rw[<-c9];clear c9;go_wp2_with fail
        go_cut [71] (fun f5 U=>f5=.bool (rM r s.size M y x != 0)/\Dat U g cap s.size h/\Arr U b 3 (tab s.size r)/\Arr U (w.heap.size+1) 228 [.string s,.slice (some ⟨b,0,none⟩) s.size s.size,.int .i64 (M:Int)]/\
         Arr U G.heap.size 3 (tab s.size (gH f x z))/\Below w.heap.size w U)
        case first=>as_aux_lemma=>
         have d3:∀W,Arr W b 3 (tab s.size r)->Calls Tryz.prog 186 #[pP s b s.size M,.int .i64 (y:Int),.int .i64 (x:Int)] W fun e w'=>e=.returned (.int .i64 (rM r s.size M y x))/\Below W.heap.size W w':=
          fun W hW=>RB s b s.size M y x r W rfl hn (by omega) c8 b2 hW
         unfold pP at d3;have HC:=hid d3;clear d3;have f6:=a3.lt;have i3:=yL ⟨d0,d1,d2,L,I,aB V.heap.size V,aA _⟩ (aB V.heap.size V).drew;clear I L d0 d1 d2
         go_region_held3 (fun w'=>w'.cell? ⟨w.heap.size+1,0,none⟩=some (.string s)/\w'.cell? ⟨w.heap.size+1,1,none⟩=some (.slice (some ⟨b,0,none⟩) s.size s.size)/\w'.cell? ⟨w.heap.size+1,2,none⟩=some (.int .i64 (M:Int))/\
           w'.cell? ⟨g,p-1,none⟩=some (.int .i64 (y:Int))/\w'.cell? ⟨g,p,none⟩=some (.int .i64 (x:Int))/\Below V.heap.size V w'/\V.heap.size<=w'.heap.size)
          (first
           |with_reducible assumption
           |with_reducible exact yL (by assumption) (by assumption))
          (first
           |(go_at_call 186;refine(HC.out _ (JH a3 f6 (by assumption))).mono ?_;rintro e w' ⟨rfl,hb⟩))
         all_goals go_wp2_with fail
         all_goals go_meet
         all_goals(have hb:=RA (aB V.heap.size V) (by assumption) (aA _);exact⟨rfl,Z.below hb Z.lt,a3.below hb a3.lt,a1.below hb a1.lt,b3.below hb b3.lt,b4.trans (hb.mono b4.size)⟩)
        case rest=>
         obtain⟨rfl,A,hr,E,T,F⟩:=hcut;clear Z a3 a1 b3 b4 I L d0 d1 d2;have a5:=(QX (x:=y) (y:=x) (sX s) HK.out c8 b2).2;rw[<-QZ] at a5;have a6:=JP (bX s) (max (2*M) 1) h (p-1);rw[show p-1+1=p by omega,<-HX.out,<-HY.out,<-HZ.out] at a6
         by_cases a4:rM r s.size M y x=0
         ·have t1:(rM r s.size M y x != 0)=false:=by simp[a4]
          have a7:vr (bX s) (max (2*M) 1) h p=z:=(a6.resolve_right (fun q=>q.1 (a5.1 a4))).2;have d4:=hid a7;clear a7 a6 a5 a4;rw[t1];clear t1;go_wp2_with fail;have J:=e0.out
          go_roundg (s.size-(p+1))
          case measure=>omega
          case rel=>
           refine⟨p+1,gH f x z,by omega,by omega,rfl,by go_num,A,hr,E,T,hid (fun j hj=>?_),F⟩;unfold gH;rcases bT j p with q|q
           ·have f7:=O.out.ne (i:=j) (j:=p) (by omega) Y (by omega);have bj:=O.out.rng j (by omega);have ep:=EX.out;rw[if_neg (by omega)];exact HV.out j q
           ·have:j=p:=by omega
            subst this;rw[if_pos HX.out.symm,d4.out]
         ·have t1:(rM r s.size M y x != 0)=true:=by simp[a4]
          have a7:vr (bX s) (max (2*M) 1) h p=z+1:=(a6.resolve_left (fun q=>a4 (a5.2 q.1))).2;have d4:=hid a7;have I:=A.cell (k:=p) Y;rw[EX.out] at I;have c4:=T.cell (iS s.size (gH f x z) x b2);have f1:=T.free x;have ez:gH f x z x=z:=by unfold gH;rw[if_pos rfl]
          rw[ez] at c4;have i4:aI.wrap (z+1)=z+1:=tS _ (by omega);clear a7 a6 a5 a4 ez;rw[t1];clear t1;go_wp2_with fail;have J:=e0.out
          go_roundg (s.size-(p+1))
          case measure=>omega
          case rel=>
           refine⟨p+1,gH (gH f x z) x (z+1),by omega,by omega,rfl,by go_num,A.other _ (by show G.heap.size≠g;omega) _,hr.other _ (by show G.heap.size≠b;omega) _,E.other _ (by show G.heap.size≠w.heap.size+1;omega) _,?_,hid (fun j hj=>?_),F.setCell (by show w.heap.size<=G.heap.size;omega) _⟩
           ·have e:=qD s.size (gH f x z) (gH (gH f x z) x (z+1)) x (z+1) (fun d _=>rfl);rw[<-e];exact T.set x _
           ·unfold gH;rcases bT j p with q|q
            ·have f7:=O.out.ne (i:=j) (j:=p) (by omega) Y (by omega);have bj:=O.out.rng j (by omega);have ep:=EX.out;rw[if_neg (by omega),if_neg (by omega)];exact HV.out j q
            ·have:j=p:=by omega
             subst this;rw[if_pos HX.out.symm,d4.out]
      ·have f8:p=s.size:=by omega
       subst f8;have c0:=E.cell (i:=0) rfl;have I:=E.cell (i:=1) rfl;have L:=E.cell (i:=2) rfl;have f1:=E.free 1;have f2:=E.free 2;have a2:=aF0 O.out (v:=vr (bX s) (max (2*M) 1) h) (r:=f) (fun i _=>JP _ _ _ i) (fun i hi=>HV.out i hi);have e3:=hid a2;clear a2;obtain⟨H,e4⟩:∃H,H=max (2*M) 1:=⟨_,rfl⟩;rw[<-e4] at e3 O;have e1:max (2*(M:Int)) 1=((H:Nat):Int):=by omega
       have i5:M<H:=by omega
       have i6:H<=2*s.size:=by omega
       have i7:1<=H:=by omega
       clear e4
       by_cases d5:s.size<=H
       ·have t1:decide ((s.size:Int)<=(H:Int))=true:=by simp;omega
        have t2:decide (s.size<=H)=true:=by simpa using d5
        go_wp2_with fail;go_ret;exact⟨_,h,rfl,O.out.full (sX s) h0 d5,aGs ((A.other _ (by show w.heap.size+1≠g;omega) _).other _ (by show w.heap.size+1≠g;omega) _) (by omega) d8,
         (F.setCell (by show w.heap.size<=w.heap.size+1;omega) _).setCell (by show w.heap.size<=w.heap.size+1;omega) _⟩
       ·have t1:decide ((s.size:Int)<=(H:Int))=false:=by simp;omega
        have t2:decide (s.size<=H)=false:=by simpa using d5
        go_wp2_with fail;have J:=f0.out
        go_roundg (s.size-H)
        case measure=>omega
        case rel=>
         exact⟨H,G.heap.size,f,h,by omega,rfl,rfl,(A.other _ (by show w.heap.size+1≠g;omega) _).other _ (by show w.heap.size+1≠g;omega) _,hid ⟨O.out.rng,fun i j h1 h2=>O.out.ne (by omega) h2 (by omega)⟩,
          (T.other _ (by show w.heap.size+1≠G.heap.size;omega) _).other _ (by show w.heap.size+1≠G.heap.size;omega) _,(E.set 1 _).set 2 _,hid (by rw[show max H 1=H by omega];exact e3.out),by omega,by omega,by omega,
          (F.setCell (by show w.heap.size<=w.heap.size+1;omega) _).setCell (by show w.heap.size<=w.heap.size+1;omega) _⟩
theorem aG3 (s:ByteArray) (w:World) (z:s.size<=1000000):
  Calls Tryz.prog 132 #[.string s] w fun e w'=>∃v o,e=.returned v/\Ord (bX s) s.size s.size o/\OwI w' w.heap.size v (gI s.size o)/\Below w.heap.size w w':=by
 rcases fJ s.size with d|d
 ·have e:=aGy d;subst e;refine(aGz w).mono ?_;rintro e w' ⟨rfl,A⟩;exact⟨_,fun _=>0,rfl,⟨fun k E=>by simp at E,fun i j _ _ h=>by simp at h⟩,OwI.nil _ _,A⟩
 ·exact aG2 s w z d
def rot (s:ByteArray) (k:Nat):List UInt8:=s.data.toList.drop k++s.data.toList.take k
theorem yO (s:ByteArray) (k:Nat) (h:k<=s.size):(rot s k).length=s.size:=by
 simp[rot];omega
theorem JQ (s:ByteArray) (k i:Nat) (z:k<s.size) (hi:i<s.size):(rot s k)[i]? =some (s.data.toList.getD ((k+i)%s.size) 0):=by
 have d:s.data.toList.length=s.size:=by simp
 unfold rot;rcases bT i (s.size-k) with h|h
 ·rw[gS (by rw[cI];omega),gR,kU (by omega),fF,aN (by omega)];rfl
 ·rw[List.getElem?_append_right (by rw[cI];omega),cI,mB (by omega),d];have e:(k+i)%s.size=i-(s.size-k):=by
   rw[Nat.mod_eq_sub_mod (by omega),kU (by omega)];omega
  rw[e,fF,aN (by omega)];rfl
theorem JR (s:ByteArray) (k:Nat):s.extract k s.size++s.extract 0 k=mkS (rot s k):=by
 rw[nT,nT,pM];unfold rot;rw[List.drop_zero,Nat.sub_zero,cS (by simp)]
theorem aG4 (s:ByteArray) (k:Nat) (w:World) (z:s.size<=1000000) (A:k<=s.size):
  Calls Tryz.prog 133 #[.agg #[.string s],.int .i64 (k:Int)] w fun e w'=>e=.returned (.string (mkS (rot s k)))/\Below w.heap.size w w':=by
 have e:=JR s k;have d:=hid e;clear e;go_enter Tryz.func133,Tryz.ntmps133;go_wp2
 go_quiet (fail)
 go_wp2;go_ret;exact⟨tY d.out,iI (uM _ _) _⟩
theorem aG6 (s:ByteArray) (k:Nat) (w:World) (z:s.size<=1000000) (A:k<=s.size):
  Calls Tryz.prog 154 #[.string s,.int .i64 (k:Int)] w fun e w'=>e=.returned (.string (mkS (rot s k)))/\Below w.heap.size w w':=by
 have e:=JR s k;have d:=hid e;clear e;go_enter Tryz.func154,Tryz.ntmps154;go_wp2
 go_quiet (fail)
 go_wp2;go_ret;exact⟨tY d.out,iI (aB _ _) _⟩
def dM (s:ByteArray) (o:Nat->Int) (k:Nat):List UInt8:=(dG k).map (fun i=>s.data.toList.getD (((o i).toNat+(s.size-1))%s.size) 0)
theorem sY (s:ByteArray) (o:Nat->Int) (k:Nat):(dM s o k).length=k:=by simp[dM]
theorem JS (s:ByteArray) (o:Nat->Int) (k:Nat):dM s o (k+1)=dM s o k++[s.data.toList.getD (((o k).toNat+(s.size-1))%s.size) 0]:=by simp[dM,List.range_succ]
def fD (o:Nat->Int):Nat->Nat
 |0=>0
 |k+1=>if o k=0 then k else fD o k
theorem RQ (o:Nat->Int):∀k,fD o k<=k:=by
 intro k
 induction k with
 |zero=>exact aA _
 |succ k d=>
   unfold fD;by_cases h:o k=0
   ·rw[if_pos h];omega
   ·rw[if_neg h];omega
theorem RR {z:Array Oper} {rest:List Oper} {o:Oper} {a:Act} {Q:Exit->Act->World->Prop} {w:World} (A:o.guard=none) (s x:iM)
  (E:o.op=.call {callee:=.builtin .append,args:=#[s,x],argTypes:=#[45,45]}) (base:Nat) (v:Value) (l:List UInt8) (hs:a.eval s=v) (hown:OwB w base v l)
  (g:Nat) (b:UInt8) (hx:a.eval x=.slice (some ⟨g,0,none⟩) 1 1) (hc:w.cell? ⟨g,0,none⟩=some (.int .u8 (b.toNat:Int))) (hroom:(l.length+1)*1<=140737488355328) (hbase:base<=w.heap.size)
  (h:∀d w',OwB w' base d (l++[b])->Below base w w'->w.grownBy w' v.ownBlock->wpList Tryz.prog z Q rest (a.put o.dst d) w'):wpList Tryz.prog z Q (o::rest) a w:=
 rD vQ A s x E base v _ hs hown g _ hx hc rfl (by simpa using hroom) hbase (fun d w' F G H=>h d w' (by unfold OwB;rw[IC];exact F) G H)
theorem aG5 (s:ByteArray) (w:World) (T:s.size<=1000000):
  Calls Tryz.prog 65 #[.string s] w fun e w'=>
   ∃o,Ord (bX s) s.size s.size o/\e=.returned (.tuple #[.string (mkS (dM s o s.size)),.int .i64 ((fD o s.size:Nat):Int)])/\Below w.heap.size w w':=by
 go_enter Tryz.func65,Tryz.ntmps65;go_wp2_with fail;refine(aG3 s _ T).mono ?_;rintro e F ⟨v,o,rfl,U,A,V⟩;obtain⟨a,cap,rfl,a7,a8,J⟩:=A.rd.open;rw[mL] at a7 J ⊢;unfold maxLen at a8;have Y:=hid U;have HA:=hid J;clear U J A;go_wp2_with fail
 go_loopg [3,4,5,6,7,11] s.size (fun gh s3 s4 _s5 _s6 _s7 a9 wr=>∃k:Nat,k<=s.size/\gh=s.size-k/\a9=.int .i64 k/\s3=.int .i64 ((fD o k:Nat):Int)/\OwB wr F.heap.size s4 (dM s o k)/\Below F.heap.size F wr)
 case atStart=>exact⟨0,aU _,rfl,rfl,rfl,Ow.nil _ _ _,aB _ _⟩
 case round=>
  obtain⟨k,hk,H,rfl,rfl,A,G⟩:=hrel;have Z:=hid H;clear H
  by_cases a0:k<s.size
  ·obtain⟨b,off,rfl,b0,hc⟩:=HA.out (by omega);have b1:=Y.out.rng k a0;obtain⟨z,a1⟩:∃z,z=(o k).toNat:=⟨_,rfl⟩;have L:o k=(z:Int):=by omega
   have b2:z<s.size:=by omega
   have c1:=(G.cell (p:=⟨b,off+k,none⟩) b0).trans (hc k _ (wC _ _ _ a0));rw[L] at c1;have EK:=hid L;have a2:=hid a1;clear L a1 b1 hc;go_wp2_with fail;refine(aG4 s z _ T (by omega)).mono ?_;rintro e w2 ⟨rfl,a3⟩;obtain⟨t,I⟩:∃t,t=mkS (rot s z):=⟨_,rfl⟩;rw[<-I];have b7:t.size=s.size:=by rw[I,cP,yO _ _ (by omega)]
   obtain⟨d,hd⟩:∃d,d=s.size-1:=⟨_,rfl⟩;have b3:d<s.size:=by omega
   have b4:d<t.size:=by omega
   have ed:(s.size:Int)-1=(d:Int):=by omega
   have a4:t[d]=s.data.toList.getD ((z+d)%s.size) 0:=by
    have h1:=eW t d b4;rw[show t.data.toList=rot s z by rw[I];rfl,JQ s z d b2 b3] at h1;exact(bW h1).symm
   have a5:=hid a4;have HD:=hid hd;have hb:=t[d].toNat_lt;have a6:=A.below a3 (aA _);have E:=G.trans (a3.mono G.size);clear A G a4 I hd
   by_cases h0:z=0
   ·have t1:((z:Int)==0)=true:=by rw[beq_iff_eq];omega
    go_wp2_with (at_builtin;refine RR rfl _ _ rfl F.heap.size _ _ rfl (a6.alloc _) w2.heap.size t[d] rfl ?_ ?_ ?_ ?_;(exact bS _ _ _);(rw[sY];omega);(have:=E.size;simp;omega);intro v' w3 M O b5);have H:=Z.out
    go_roundg (s.size-(k+1))
    case measure=>omega
    case rel=>
     refine⟨k+1,by omega,rfl,by go_num,?_,?_,(E.alloc E.size _).trans O⟩
     ·unfold fD;rw[if_pos (by rw[EK.out];omega)]
     ·rw[JS,<-a2.out,<-HD.out,<-a5.out];exact M
   ·have t1:((z:Int)==0)=false:=by rw[beq_eq_false_iff_ne];omega
    go_wp2_with (at_builtin;refine RR rfl _ _ rfl F.heap.size _ _ rfl (a6.alloc _) w2.heap.size t[d] rfl ?_ ?_ ?_ ?_;(exact bS _ _ _);(rw[sY];omega);(have:=E.size;simp;omega);intro v' w3 M O b5);have H:=Z.out
    go_roundg (s.size-(k+1))
    case measure=>omega
    case rel=>
     refine⟨k+1,by omega,rfl,by go_num,?_,?_,(E.alloc E.size _).trans O⟩
     ·show _=bO .i64 (((if o k=0 then k else fD o k:Nat)):Int);rw[if_neg (by rw[EK.out];omega)]
     ·rw[JS,<-a2.out,<-HD.out,<-a5.out];exact M
  ·have b6:k=s.size:=by omega
   subst b6;have b8:=lQ A.rd;go_wp2_with fail
   go_ret2
   exact⟨o,Y.out,rfl,V.trans (G.mono V.size)⟩
theorem RS (s:ByteArray) (k:Nat) (w:World) (z:s.size<=1000000) (A:k<=s.size):
  Calls Tryz.prog 154 #[.string s,.int .i64 (k:Int)] w fun e w'=>e=.returned (.string (mkS (rot s k)))/\∃m,w'=w.drewN m:=by
 have e:=JR s k;have d:=hid e;clear e;go_enter Tryz.func154,Tryz.ntmps154;go_wp2
 go_quiet (fail)
 go_wp2;go_ret;exact⟨tY d.out,_,rfl⟩
theorem aG7 (s:ByteArray) (w:World) (hn:s.size<=1000000)
  (O:∀w,Calls Tryz.prog 153 #[.string s] w fun e w'=>∃v o,e=.returned v/\Ord (bX s) s.size s.size o/\OwI w' w.heap.size v (gI s.size o)/\Below w.heap.size w w'):
  Calls Tryz.prog 98 #[.string s] w fun e w'=>
   ∃o,Ord (bX s) s.size s.size o/\e=.returned (.tuple #[.string (mkS (dM s o s.size)),.int .i64 ((fD o s.size:Nat):Int)])/\Below w.heap.size w w':=by
 have a5:=hid O;clear O;go_enter Tryz.func98,Tryz.ntmps98;go_wp2_with fail;refine(a5.out _).mono ?_;rintro e T ⟨v,o,rfl,U,V,Y⟩;obtain⟨a,cap,rfl,a6,a7,J⟩:=V.rd.open;rw[mL] at a6 J ⊢;unfold maxLen at a7;have Z:=hid U;have HA:=hid J;clear U J V;go_wp2_with fail
 go_loopg [5,6,7,8] s.size (fun gh s5 s6 s7 _s8 wr=>∃k:Nat,k<=s.size/\gh=s.size-k/\s7=.int .i64 k/\s6=.int .i64 ((fD o k:Nat):Int)/\s5=.string (mkS (dM s o k))/\Below T.heap.size T wr)
 case atStart=>exact⟨0,aU _,rfl,rfl,rfl,rfl,aB _ _⟩
 case round=>
  obtain⟨k,hk,E,rfl,rfl,rfl,A⟩:=hrel;have HG:=hid E;clear E
  by_cases a0:k<s.size
  ·obtain⟨b,off,rfl,a8,hc⟩:=HA.out (by omega);have a9:=Z.out.rng k a0;obtain⟨z,a1⟩:∃z,z=(o k).toNat:=⟨_,rfl⟩;have L:o k=(z:Int):=by omega
   have b0:z<s.size:=by omega
   have F:=(A.cell (p:=⟨b,off+k,none⟩) a8).trans (hc k _ (wC _ _ _ a0));rw[L] at F;have EK:=hid L;have b1:=hid a1;clear L a1 a9 hc;go_wp2_with fail;refine(aG6 s z _ hn (by omega)).mono ?_;rintro e w2 ⟨rfl,a2⟩;obtain⟨t,G⟩:∃t,t=mkS (rot s z):=⟨_,rfl⟩;rw[<-G];have b5:t.size=s.size:=by rw[G,cP,yO _ _ (by omega)]
   obtain⟨d,M⟩:∃d,d=s.size-1:=⟨_,rfl⟩;have b2:d<s.size:=by omega
   have b3:d<t.size:=by omega
   have ed:(s.size:Int)-1=(d:Int):=by omega
   obtain⟨C,H⟩:∃C,C=mkS [s.data.toList.getD ((z+d)%s.size) 0]:=⟨_,rfl⟩;have b6:t.extract d s.size=C:=by
    have h1:=JQ s z d b0 b2;have h2:=BI t d b3;rw[show d+1=s.size by omega] at h2;rw[h2,H,show t.data.toList=rot s z by rw[G];rfl,fF,h1];rfl
   have b7:C.size=1:=by rw[H];rfl
   obtain⟨S,I⟩:∃S,S=mkS (dM s o k):=⟨_,rfl⟩;rw[<-I];have b8:S.size<=1000000:=by rw[I,cP,sY];omega
   have a3:mkS (dM s o (k+1))=S++C:=by
    rw[I,H,pM,JS,<-b1.out,<-M]
   have HN:=hid a3;have HD:=hid M;have a4:=A.trans (a2.mono A.size);have b9:=(a2.cell (p:=⟨b,off+k,none⟩) (iO wr _ F)).trans F;have c0:d<=s.size:=by omega
   clear A G M H I a3 F
   by_cases h0:z=0
   ·have t1:((z:Int)==0)=true:=by rw[beq_iff_eq];omega
    go_wp2_with fail;have E:=HG.out
    go_roundg (s.size-(k+1))
    case measure=>omega
    case rel=>
     refine⟨k+1,by omega,rfl,by go_num,?_,by rw[HN.out],a4⟩;unfold fD;rw[if_pos (by rw[EK.out];omega)]
   ·have t1:((z:Int)==0)=false:=by rw[beq_eq_false_iff_ne];omega
    go_wp2_with fail;have E:=HG.out
    go_roundg (s.size-(k+1))
    case measure=>omega
    case rel=>
     refine⟨k+1,by omega,rfl,by go_num,?_,by rw[HN.out],a4⟩;show _=bO .i64 (((if o k=0 then k else fD o k:Nat)):Int);rw[if_neg (by rw[EK.out];omega)]
  ·have b4:k=s.size:=by omega
   subst b4;go_wp2_with fail
   go_ret2
   exact⟨o,Z.out,rfl,Y.trans (A.mono Y.size)⟩
theorem aHa:∀(t:Nat) (x y:List UInt8) (p q:UInt8),(∀u,u<t->x[u]? =y[u]?)->x[t]? =some p->y[t]? =some q->p.toNat<q.toNat->oL x y=true:=by
 intro t
 induction t with
 |zero=>
  intro x y p q _ d z A
  cases x with
  |nil=>simp at d
  |cons a x=>
   cases y with
   |nil=>simp at z
   |cons b y=>
    simp at d z;subst d;subst z;simp[oL,NZ,A]
 |succ t F=>
  intro x y p q h d z A
  cases x with
  |nil=>simp at d
  |cons a x=>
   cases y with
   |nil=>simp at z
   |cons b y=>
    have E:=h 0 (by omega);simp at E d z;subst E;have:=F x y p q (fun u G=>by have:=h (u+1) (by omega);simpa using this) d z A;simp[oL,this]
theorem aHb (x:List UInt8):oL x x=false:=by
 induction x with
 |nil=>rfl
 |cons a x d=>simp[oL,d]
theorem yP (s:ByteArray) {k i:Nat} (d:k<s.size) (hi:i<s.size):∃b,(rot s k)[i]? =some b/\b.toNat=bX s (k+i):=⟨_,JQ s k i d hi,rfl⟩
theorem RT (s:ByteArray) {a b i:Nat} (d:a<s.size) (z:b<s.size) (hi:i<s.size) (h:bX s (a+i)=bX s (b+i)):(rot s a)[i]? =(rot s b)[i]? :=by
 obtain⟨x,A,F⟩:=yP s d hi;obtain⟨y,E,G⟩:=yP s z hi;rw[A,E];have:x=y:=qV.1 (by omega);rw[this]
theorem aHc (s:ByteArray) {a b:Nat} (d:a<s.size) (z:b<s.size) (h:eqm (bX s) s.size a b):rot s a=rot s b:=by
 apply jA;intro i
 by_cases hi:i<s.size
 ·exact RT s d z hi (h i hi)
 ·rw[dL (by rw[yO _ _ (by omega)];omega),dL (by rw[yO _ _ (by omega)];omega)]
theorem RU (s:ByteArray) {a b:Nat} (d:a<s.size) (z:b<s.size) (h:ltm (bX s) s.size a b):oL (rot s a) (rot s b)=true:=by
 obtain⟨t,t1,A,H⟩:=h;obtain⟨x,E,I⟩:=yP s d t1;obtain⟨y,F,J⟩:=yP s z t1;exact aHa t _ _ x y (fun u G=>RT s d z (by omega) (A u G)) E F (by omega)
theorem aG8 {s:ByteArray} {o d:Nat->Int} {n:Nat} (h:∀k,k<n->o k=d k):dM s o n=dM s d n:=by
 unfold dM;exact qW (fun k z=>by rw[h k (by simpa using z)])
theorem aG9 {o d:Nat->Int}:∀{n:Nat},(∀k,k<n->o k=d k)->fD o n=fD d n:=by
 intro n
 induction n with
 |zero=>intro _;rfl
 |succ n z=>intro h;unfold fD;rw[h n (by omega),z (fun k A=>h k (by omega))]
end
section
theorem aHd:∀(x y:List UInt8),oL x y=true->oL y x=false:=by
 intro x
 induction x with
 |nil=>
  intro y h
  cases y with
  |nil=>rfl
  |cons b y=>rfl
 |cons a x z=>
  intro y h
  cases y with
  |nil=>simp[oL] at h
  |cons b y=>
   simp only[oL,Bool.or_eq_true,Bool.and_eq_true,decide_eq_true_eq,beq_iff_eq,Bool.or_eq_false_iff,Bool.and_eq_false_iff,decide_eq_false_iff_not] at h ⊢;rcases h with h|⟨A,E⟩
   ·exact⟨fun d=>by rw[NZ] at h d;omega,.inl (by rw[beq_eq_false_iff_ne];intro e;rw[e,NZ] at h;omega)⟩
   ·exact⟨fun d=>by rw[A,NZ] at d;omega,.inr (z y E)⟩
theorem aHe (s:ByteArray) {a b:Nat} (d:a<s.size) (z:b<s.size):oL (rot s a) (rot s b)=true↔ltm (bX s) s.size a b:=by
 constructor
 ·intro h;rcases uL (bX s) a b s.size with p|p|p
  ·exact p
  ·rw[aHc s d z p,aHb] at h;exact tQ h
  ·have:=aHd _ _ (RU s z d p);rw[this] at h;exact tQ h
 ·exact RU s d z
def mM (L:List Int) (j:Nat) (k:Int):List Int:=L.take j++k::L.drop j
theorem JT (L:List Int) (j:Nat) (k:Int):(mM L j k).length=L.length+1:=by
 unfold mM;rw[aL,cR,aX,cI];omega
theorem JU {R:Int->Int->Prop} {L:List Int} {j:Nat} {k:Int} (h:L.Pairwise R) (A:∀x∈L.take j,R x k) (E:∀x∈L.drop j,R k x):(mM L j k).Pairwise R:=by
 unfold mM;rw[aCg];refine⟨h.sublist (List.take_sublist _ _),?_,?_⟩
 ·rw[List.pairwise_cons];exact⟨E,h.sublist (List.drop_sublist _ _)⟩
 ·intro a z b d;rcases kD.1 d with rfl|d
  ·exact A a z
  ·rw[<-List.take_append_drop j L,aCg] at h;exact h.2.2 a z b d
theorem JV {L:List Int} {j:Nat} {k:Nat} (h:∀x∈L,0<=x/\x<(k:Int)):∀x∈mM L j k,0<=x/\x<((k+1:Nat):Int):=by
 intro x d;unfold mM at d;rcases List.mem_append.1 d with d|d
 ·have:=h x (nO d);omega
 ·rcases kD.1 d with rfl|d
  ·omega
  ·have:=h x (xU d);omega
theorem aHf {c:Nat->Nat} {n:Nat} {L:List Int} (h:L.Pairwise (bef c n)) {j:Nat} {y k:Int} (G:0<j) (A:L[j-1]? =some y) (d:bef c n y k):∀x∈L.take j,bef c n x k:=by
 intro x E;obtain⟨i,hi,rfl⟩:=List.mem_iff_getElem.1 E;rw[aX] at hi;rw[List.getElem_take];obtain⟨F,z⟩:=eU.1 A;rcases bT i (j-1) with p|p
 ·have:=xO.1 h i (j-1) (by omega) F p;rw[z] at this;exact(vW c n).tr _ _ _ this d
 ·have:i=j-1:=by omega
  subst this;rw[z];exact d
theorem aHg {c:Nat->Nat} {n:Nat} {L:List Int} (z:L.length=n) (A:∀x∈L,0<=x/\x<(n:Int)) (E:L.Pairwise (bef c n)):Ord c n n (fun k=>L.getD k 0):=by
 subst z;refine⟨fun k F=>A _ (by simp[fF,aN F]),fun i j _ G d=>?_⟩;have:=xO.1 E i j (by omega) d G
 simpa [fF,aN d,aN (show i<L.length by omega)] using this
end
section
open Go.RowKit
theorem qN {F:Array Oper} {o:Oper} {a:Act} {K:Act->World->Prop} {Q:Exit->Act->World->Prop} {E:Prop} {w:World} (I:o.guard=none) (s x:iM)
  (J:o.op=.call {callee:=.builtin .append,args:=#[s,x],argTypes:=#[27,27]}) (base:Nat) (v:Value) (l:List Int) (hs:a.eval s=v) (hown:OwI w base v l)
  (ad:Addr) (m c:Nat) (new:List Int) (hx:a.eval x=.slice (some ad) m c) (hl:new.length=m) (hnews:∀j y,new[j]? =some y->w.cell? (ad.add j)=some (.int .i64 y)) (hroom:(l.length+m)*8<=140737488355328) (hbase:base<=w.heap.size)
  (h:∀z w',OwI w' base z (l++new)->Below base w w'->w.grownBy w' v.ownBlock->K (a.put o.dst z) w'):if nR o (yielded F a.tmps)=true then lX Tryz.prog o a w K Q else E:=by
 have L:nR o (yielded F a.tmps)=true:=by simp[nR,I]
 rw[if_pos L];obtain⟨i,hi,M,O,T⟩:=gL.info;have U:(bO .i64 0).cells.size=1:=by rw[gL.cells];rfl
 have G:w.ownsRow base 3 1 v l.length (l.map (bO .i64)):=by have:=hown;unfold OwI Ow at this;rwa[bJ] at this
 refine wp_append_own w s x _ J base 3 i _ 1 8 gL.under hi M O T U (by decide) v l.length _ hs G ad m c (new.map (bO .i64)) hx (by simp[hl]) ?_ ?_ (by simp only[maxLen];omega) hroom hbase (fun z w' V H _=>h z w' ?_ (rC G H hbase) H)
 ·intro j u d;rw[dY] at d
  cases A:new[j]? with
  |none=>rw[A] at d;simp at d
  |some y=>rw[A] at d;simp at d;subst d;exact hnews j y A
 ·intro u d;obtain⟨y,_,rfl⟩:=dU.1 d;rfl
 ·unfold OwI Ow;rw[fI];rw[aL,bJ,bJ,hl];exact V
theorem RV {d:Array Oper} {o:Oper} {a:Act} {K:Act->World->Prop} {Q:Exit->Act->World->Prop} {E:Prop} {w:World} (z:o.guard=none) (s x:iM)
  (A:o.op=.call {callee:=.builtin .append,args:=#[s,x],argTypes:=#[27,27]}) (base:Nat) (v:Value) (l:List Int) (hs:a.eval s=v) (hown:OwI w base v l)
  (hx:a.eval x=.slice none 0 0)
  (h:K (a.put o.dst v) w):if nR o (yielded d a.tmps)=true then lX Tryz.prog o a w K Q else E:=by
 have F:nR o (yielded d a.tmps)=true:=by simp[nR,z]
 rw[if_pos F];obtain⟨i,hi,_,_,_⟩:=gL.info;have G:w.ownsRow base 3 1 v l.length (l.map (bO .i64)):=by have:=hown;unfold OwI Ow at this;rwa[bJ] at this
 have H:=run_append_owned_none (P:=Tryz.prog) (w:=w) base _ o.type 3 i 1 gL.under hi v l.length _ G;unfold lX;simp[execOp,A,resolve,invoke,builtin,hs,hx,H,Result.andThen];exact h
theorem RW (b off j:Nat):(⟨b,off,none⟩:Addr).add j=⟨b,off+j,none⟩:=by unfold iN;split<;>simp_all
theorem yQ {wr w:World} {b off:Nat} {L:List Int} (z:b<wr.heap.size) (A:∀j x,L[j]? =some x->wr.cell? ⟨b,off+j,none⟩=some (.int .i64 x)) (h:Below wr.heap.size wr w/\wr.heap.size<=w.heap.size) (n:Nat):
  (∀j y,(L.take n)[j]? =some y->w.cell? ((⟨b,off,none⟩:Addr).add j)=some (.int .i64 y))/\(∀j y,(L.drop n)[j]? =some y->w.cell? ((⟨b,off+n,none⟩:Addr).add j)=some (.int .i64 y)):=by
 refine⟨fun j y d=>?_,fun j y d=>?_⟩
 ·rw[RW,h.1.cell (p:=⟨b,off+j,none⟩) z]
  by_cases E:j<n
  ·rw[mB E] at d;exact A j y d
  ·rw[List.getElem?_take_eq_none (by omega)] at d;simp at d
 ·rw[RW,h.1.cell (p:=⟨b,off+n+j,none⟩) z];rw[gR] at d;rw[dZ];exact A _ y d
theorem wD {B:Nat} {w0 d z:World} (h:Below B w0 d/\B<=d.heap.size) (A:Below B d z):Below B w0 z/\B<=z.heap.size:=⟨h.1.trans A,aW h.2 A.size⟩
theorem uQ {B:Nat} {w0 d:World} (h:Below B w0 d/\B<=d.heap.size) (o:Obj):Below B w0 (d.alloc o)/\B<=(d.alloc o).heap.size:=⟨h.1.alloc h.2 o,aW h.2 (by simp)⟩
theorem CU {B:Nat} {w0 d:World} (h:Below B w0 d) (z:B<=d.heap.size) (n:Nat):Below B w0 (d.drewN n).drew/\B<=(d.drewN n).drew.heap.size:=⟨(iI h n).drew,z⟩
theorem CV {B:Nat} {w0 d:World} (h:Below B w0 d) (z:B<=d.heap.size) (n:Nat) (o:Obj):Below B w0 ((d.drewN n).alloc o)/\B<=((d.drewN n).alloc o).heap.size:=uQ ⟨iI h n,z⟩ o
theorem CW {W w':World} {p:Addr} {v:Value} (z:W.grownBy w' none) (d:W.cell? p=some v):w'.cell? p=some v:=by
 rw[<-d];exact oK (w:=W) (z.block p.block (iO W p d) (by simp))
theorem sZ {w:World} {g:Nat} {x:Int} (h:w.cell? ⟨g,0,none⟩=some (.int .i64 x)):∀j y,[x][j]? =some y->w.cell? ((⟨g,0,none⟩:Addr).add j)=some (.int .i64 y):=by
 intro j y d
 cases j with
 |zero=>simp at d;subst d;simpa [iN] using h
 |succ j=>simp at d
theorem aHh (s:ByteArray) (w:World) (hn:s.size<=1000000):
  Calls Tryz.prog 153 #[.string s] w fun e w'=>∃v o,e=.returned v/\Ord (bX s) s.size s.size o/\OwI w' w.heap.size v (gI s.size o)/\Below w.heap.size w w':=by
 go_enter Tryz.func153,Tryz.ntmps153;go_wp2_with fail
 go_loopg [3,4,5] s.size (fun gh s3 s4 _s5 wr=>∃(k:Nat) (L:List Int),k<=s.size/\gh=s.size-k/\s4=.int .i64 k/\OwI wr w.heap.size s3 L/\Hid (L.length=k/\(∀x∈L,0<=x/\x<(k:Int))/\L.Pairwise (bef (bX s) s.size))/\(k=0->s3=.slice none 0 0)/\Below w.heap.size w wr)
 case atStart=>exact⟨0,[],aU _,rfl,rfl,OwI.nil _ _,hid ⟨rfl,fun x E=>by simp at E,List.Pairwise.nil⟩,fun _=>rfl,aB _ _⟩
 case round=>
  obtain⟨k,L,hk,H,rfl,a2,G,a9,F⟩:=hrel;have HG:=hid H;have c3:=hid a9;clear H a9
  by_cases c4:k<s.size
  ·obtain⟨va,cap,rfl,c5,c6,M⟩:=a2.rd.open;rw[G.out.1] at c5 M ⊢;unfold maxLen at c6;have HA:=hid M;have d4:=hid a2;clear M a2;obtain⟨d,rfl⟩:∃d:World,d=wr:=⟨_,rfl⟩;go_wp2_with fail
   go_loopg [5] k (fun gh s5 wr=>∃j:Nat,j<=k/\gh=j/\s5=.int .i64 j/\Hid (∀x∈L.drop j,bef (bX s) s.size (k:Int) x)/\Below d.heap.size d wr)
   case atStart=>exact⟨k,aA _,rfl,rfl,hid (fun x E=>by rw[qY (by rw[G.out.1];exact aA _)] at E;simp at E),aB _ _⟩
   case round=>
    obtain⟨j,hj,H,rfl,HD,z⟩:=hrel;have c7:=hid H;clear H;rcases fJ j with U|U
    ·have t1:decide (0<j)=false:=decide_eq_false (by omega);have HT:=hid (show ∀x∈L.take j,bef (bX s) s.size x (k:Int) from fun x E=>by rw[U] at E;simp at E);have b0:=hid U;clear U;go_wp2_with fail
     go_quiet (fail)
     go_wp2_with fail;rcases fJ k with a0|a0
     ·have b1:=c3.out a0;rw[aCd] at b1;obtain⟨rfl,_,rfl⟩:=b1;have d5:L=[]:=vK (by rw[G.out.1];exact a0);subst a0;have c8:j=0:=b0.out;subst c8
      go_region_held3 (fun w'=>Below d.heap.size d w'/\d.heap.size<=w'.heap.size)
       (first
        |with_reducible assumption
        |with_reducible exact uQ (by assumption) _
        |with_reducible exact wD (by assumption) (by assumption)
        |with_reducible exact CU z z.size _
        |with_reducible exact CV z z.size _ _)
       (first
        |(refine RV rfl _ _ rfl d.heap.size (.slice none 0 0) [] rfl (OwI.nil _ _) rfl ?_)
        |(refine qN rfl _ _ rfl d.heap.size _ [] rfl (OwI.nil _ _) ⟨_,0,none⟩ 1 1 [((0:Nat):Int)] rfl rfl ?_ ?_ ?_ ?_;(first|exact sZ (bS _ _ _)|exact sZ (CW (by assumption) (by exact bS _ _ _)));(simp only[cX];omega);(exact(show Below d.heap.size d _/\d.heap.size<=_ by assumption).2);intro v2 w2 a3 a7 a4)
        |(refine RV rfl _ _ rfl d.heap.size _ ([]++[((0:Nat):Int)]) rfl (by assumption) rfl ?_))
      all_goals go_wp2_with fail
      all_goals
       have H:=HG.out
       go_roundg (s.size-(0+1))
       case measure=>omega
       case rel=>
        have O:Below d.heap.size d _/\d.heap.size<=_:=(show Below d.heap.size d w2/\d.heap.size<=w2.heap.size by assumption);refine⟨0+1,[((0:Nat):Int)],by omega,rfl,by go_num,?_,hid ⟨rfl,fun x E=>by simp at E;omega,List.pairwise_singleton _ _⟩,fun e=>by omega,F.trans (O.1.mono F.size)⟩;exact Ow.base a3 F.size
     ·obtain⟨b,off,rfl,T,V⟩:=HA.out a0;have Y:=hid V;have I:=hid G.out.1;clear V;have d6:(j:Int)<=(k:Int):=by omega
      have c9:j<=cap:=by omega
      have b2:¬cap=j:=by have:=b0.out;omega
      go_region_held3 (fun w'=>Below d.heap.size d w'/\d.heap.size<=w'.heap.size)
       (first
        |with_reducible assumption
        |with_reducible exact uQ (by assumption) _
        |with_reducible exact wD (by assumption) (by assumption)
        |with_reducible exact CU z z.size _
        |with_reducible exact CV z z.size _ _)
       (first
        |(refine qN rfl _ _ rfl d.heap.size (.slice none 0 0) [] rfl (OwI.nil _ _) ⟨b,off,none⟩ j cap (L.take j) rfl ?_ ?_ ?_ ?_ ?_;(rw[aX,I.out];omega);(exact(yQ T Y.out (by assumption) j).1);(simp only[cX];omega);(exact(show Below d.heap.size d _/\d.heap.size<=_ by assumption).2);intro v1 w1 b3 b4 b5)
        |(refine qN rfl _ _ rfl d.heap.size _ ([]++L.take j) rfl (by first|assumption|exact OwI.alloc (by assumption) _) ⟨_,0,none⟩ 1 1 [(k:Int)] rfl rfl ?_ ?_ ?_ ?_;(first|exact sZ (bS _ _ _)|exact sZ (CW (by assumption) (by exact bS _ _ _)));(simp only[aL,cX,aX];omega);(exact(show Below d.heap.size d _/\d.heap.size<=_ by assumption).2);intro v2 w2 a3 a7 a4)
        |(refine qN rfl _ _ rfl d.heap.size _ (([]++L.take j)++[(k:Int)]) rfl (by assumption) ⟨b,off+j,none⟩ (k-j) (cap-j) (L.drop j) rfl ?_ ?_ ?_ ?_ ?_;(rw[cI,I.out]);(exact(yQ T Y.out (by assumption) j).2);(simp only[aL,cX,aX,cR];omega);(exact(show Below d.heap.size d _/\d.heap.size<=_ by assumption).2);intro v3 J a1 b6 b7))
      all_goals go_wp2_with fail
      all_goals
       have H:=HG.out
       go_roundg (s.size-(k+1))
       case measure=>omega
       case rel=>
        obtain⟨q1,q2,q3⟩:=G.out;have O:Below d.heap.size d _/\d.heap.size<=_:=(show Below d.heap.size d J/\d.heap.size<=J.heap.size by assumption);refine⟨k+1,mM L j k,by omega,rfl,by go_num,?_,hid ⟨by rw[JT,q1],JV q2,JU q3 HT.out HD.out⟩,fun e=>by omega,F.trans (O.1.mono F.size)⟩;have e:([]++L.take j++[(k:Int)])++L.drop j=mM L j k:=by simp[mM]
        rw[<-e];exact Ow.base a1 F.size
    ·have t1:decide (0<j)=true:=decide_eq_true U;obtain⟨b,off,rfl,T,V⟩:=HA.out (by omega);obtain⟨h1,h2,h3⟩:=G.out;have a5:j-1<L.length:=by omega
     have a8:L[j-1]? =some (L.getD (j-1) 0):=by simp[fF,aN a5]
     have d0:=h2 _ (cH a8);obtain⟨y,Z⟩:∃y:Nat,L.getD (j-1) 0=(y:Int):=⟨(L.getD (j-1) 0).toNat,by omega⟩;have d1:y<k:=by omega
     have c1:=(z.cell (p:=⟨b,off+(j-1),none⟩) T).trans (V (j-1) _ a8);rw[Z] at c1;have HY:=hid Z;have s1:aI.wrap ((j:Int)-1)=(j:Int)-1:=tS _ (by omega);have s2:((j:Int)-1).toNat=j-1:=by omega
     have s3:(0:Int)<=(j:Int)-1:=by omega
     have s4:(j:Int)-1<(k:Int):=by omega
     have s6:(1:Int)<=(j:Int):=by omega
     have s9:(j:Int)<=(k:Int):=by omega
     obtain⟨A,M⟩:∃A,A=mkS (rot s k):=⟨_,rfl⟩;obtain⟨B,hB⟩:∃B,B=mkS (rot s y):=⟨_,rfl⟩;have qa:∀W,Calls Tryz.prog 154 #[.string s,.int .i64 (k:Int)] W fun e w'=>e=.returned (.string A)/\∃m,w'=W.drewN m:=fun W=>by rw[M];exact RS s k W hn (by omega)
     have qb:∀W,Calls Tryz.prog 154 #[.string s,.int .i64 (y:Int)] W fun e w'=>e=.returned (.string B)/\∃m,w'=W.drewN m:=fun W=>by rw[hB];exact RS s y W hn (by omega)
     have QA:=hid qa;have QB:=hid qb;have b8:A.toList=rot s k:=by rw[ByteArray.toList_eq,M];rfl
     have b9:B.toList=rot s y:=by rw[ByteArray.toList_eq,hB];rfl
     have c0:oL A.toList B.toList=true↔ltm (bX s) s.size k y:=by rw[b8,b9];exact aHe s c4 (by omega)
     have c2:=hid c0;have Y:=hid V;clear qa qb b8 b9 c0 M hB Z d0 a8 h1 h2 h3 V
     by_cases a6:oL A.toList B.toList=true
     ·go_wp2_with fail
      go_quiet (first|(go_at_call_of 154 (bO .i64 (k:Int));refine OB (QA.out _))|(go_at_call_of 154 (bO .i64 (y:Int));refine OB (QB.out _)))
      go_wp2_with fail;have a4:=c7.out
      go_roundg (j-1)
      case measure=>omega
      case rel=>
       refine⟨j-1,by omega,rfl,congrArg _ (by omega),hid (fun x E=>?_),iI z _⟩;rw[List.drop_eq_getElem_cons a5,kD] at E;rcases E with rfl|E
       ·have e:L[j-1]=(y:Int):=by rw[<-HY.out];simp[fF,aN a5]
        rw[e];exact .inl (by simpa using c2.out.1 a6)
       ·rw[show j-1+1=j by omega] at E;exact HD.out x E
     ·have d2:oL A.toList B.toList=false:=by simpa using a6
      have I:=hid G.out.1;have c9:j<=cap:=by omega
      have HT:=hid (show ∀x∈L.take j,bef (bX s) s.size x (k:Int) from aHf (y:=(y:Int)) G.out.2.2 U (by simp[<-HY.out,fF,aN a5]) (by
       rcases uL (bX s) y k s.size with p|p|p
       ·exact .inl (by simpa using p)
       ·exact .inr ⟨by simpa using p,by omega⟩
       ·exact absurd (c2.out.2 p) a6))
      go_wp2_with fail
      go_quiet (first|(go_at_call_of 154 (bO .i64 (k:Int));refine OB (QA.out _))|(go_at_call_of 154 (bO .i64 (y:Int));refine OB (QB.out _)))
      clear a6 d2 c1 s1 s2 s3 s4 s6 d1;go_wp2_with fail;obtain⟨wq,d7⟩:∃wq:World,wq=wr:=⟨_,rfl⟩
      by_cases b2:cap=j
      ·obtain rfl:cap=j:=b2;obtain rfl:k=cap:=by omega
       go_region_held3 (fun w'=>Below d.heap.size d w'/\d.heap.size<=w'.heap.size)
        (first
         |with_reducible assumption
         |with_reducible exact uQ (by assumption) _
         |with_reducible exact wD (by assumption) (by assumption)
         |with_reducible exact CU z z.size _
         |with_reducible exact CV z z.size _ _)
        (first
         |(refine qN rfl _ _ rfl d.heap.size (.slice none 0 0) [] rfl (OwI.nil _ _) ⟨b,off,none⟩ k k (L.take k) rfl ?_ ?_ ?_ ?_ ?_;(rw[aX,I.out];omega);(exact(yQ T Y.out (by assumption) k).1);(simp only[cX];omega);(exact(show Below d.heap.size d _/\d.heap.size<=_ by assumption).2);intro v1 w1 b3 b4 b5)
         |(refine qN rfl _ _ rfl d.heap.size _ ([]++L.take k) rfl (by first|assumption|exact OwI.alloc (by assumption) _) ⟨_,0,none⟩ 1 1 [(k:Int)] rfl rfl ?_ ?_ ?_ ?_;(first|exact sZ (bS _ _ _)|exact sZ (CW (by assumption) (by exact bS _ _ _)));(simp only[aL,cX,aX];omega);(exact(show Below d.heap.size d _/\d.heap.size<=_ by assumption).2);intro v2 w2 a3 a7 a4)
         |(refine qN rfl _ _ rfl d.heap.size _ (([]++L.take k)++[(k:Int)]) rfl (by assumption) ⟨b,off,none⟩ 0 0 (L.drop k) rfl ?_ ?_ ?_ ?_ ?_;(rw[cI,I.out];omega);(intro j y Z;rw[qY (by rw[I.out];exact aA _)] at Z;simp at Z);(simp only[aL,cX,aX,cR];omega);(exact(show Below d.heap.size d _/\d.heap.size<=_ by assumption).2);intro v3 J a1 b6 b7))
       all_goals go_wp2_with fail
       all_goals
        have H:=HG.out
        go_roundg (s.size-(k+1))
        case measure=>omega
        case rel=>
         obtain⟨q1,q2,q3⟩:=G.out;have O:Below d.heap.size d _/\d.heap.size<=_:=(show Below d.heap.size d J/\d.heap.size<=J.heap.size by assumption);refine⟨k+1,mM L k k,by omega,rfl,by go_num,?_,hid ⟨by rw[JT,q1],JV q2,JU q3 HT.out HD.out⟩,fun e=>by omega,F.trans (O.1.mono F.size)⟩;have e:([]++L.take k++[(k:Int)])++L.drop k=mM L k k:=by simp[mM]
         rw[<-e];exact Ow.base a1 F.size
      ·go_region_held3 (fun w'=>Below d.heap.size d w'/\d.heap.size<=w'.heap.size)
        (first
         |with_reducible assumption
         |with_reducible exact uQ (by assumption) _
         |with_reducible exact wD (by assumption) (by assumption)
         |with_reducible exact CU z z.size _
         |with_reducible exact CV z z.size _ _)
        (first
         |(refine qN rfl _ _ rfl d.heap.size (.slice none 0 0) [] rfl (OwI.nil _ _) ⟨b,off,none⟩ j cap (L.take j) rfl ?_ ?_ ?_ ?_ ?_;(rw[aX,I.out];omega);(exact(yQ T Y.out (by assumption) j).1);(simp only[cX];omega);(exact(show Below d.heap.size d _/\d.heap.size<=_ by assumption).2);intro v1 w1 b3 b4 b5)
         |(refine qN rfl _ _ rfl d.heap.size _ ([]++L.take j) rfl (by first|assumption|exact OwI.alloc (by assumption) _) ⟨_,0,none⟩ 1 1 [(k:Int)] rfl rfl ?_ ?_ ?_ ?_;(first|exact sZ (bS _ _ _)|exact sZ (CW (by assumption) (by exact bS _ _ _)));(simp only[aL,cX,aX];omega);(exact(show Below d.heap.size d _/\d.heap.size<=_ by assumption).2);intro v2 w2 a3 a7 a4)
         |(refine qN rfl _ _ rfl d.heap.size _ (([]++L.take j)++[(k:Int)]) rfl (by assumption) ⟨b,off+j,none⟩ (k-j) (cap-j) (L.drop j) rfl ?_ ?_ ?_ ?_ ?_;(rw[cI,I.out]);(exact(yQ T Y.out (by assumption) j).2);(simp only[aL,cX,aX,cR];omega);(exact(show Below d.heap.size d _/\d.heap.size<=_ by assumption).2);intro v3 J a1 b6 b7))
       all_goals go_wp2_with fail
       all_goals
        have H:=HG.out
        go_roundg (s.size-(k+1))
        case measure=>omega
        case rel=>
         obtain⟨q1,q2,q3⟩:=G.out;have O:Below d.heap.size d _/\d.heap.size<=_:=(show Below d.heap.size d J/\d.heap.size<=J.heap.size by assumption);refine⟨k+1,mM L j k,by omega,rfl,by go_num,?_,hid ⟨by rw[JT,q1],JV q2,JU q3 HT.out HD.out⟩,fun e=>by omega,F.trans (O.1.mono F.size)⟩;have e:([]++L.take j++[(k:Int)])++L.drop j=mM L j k:=by simp[mM]
         rw[<-e];exact Ow.base a1 F.size
  ·have d3:k=s.size:=by omega
   subst d3;go_wp2_with fail;go_ret;obtain⟨h1,h2,h3⟩:=G.out;refine⟨_,_,rfl,aHg h1 h2 h3,?_,F⟩;have e:=RO L;rw[h1] at e;rw[e];exact a2
end
section
open Go.RowKit Go Go.Shelf
theorem wE:El2 Tryz.prog 247 249 32 (.agg #[.int .i64 0,.slice none 0 0]):=El2.mk' (by kernel_rfl) Tryz.underlying247 rfl (by decide)
theorem RX {B:Nat} {w0 d:World} (h:Below B w0 d) (z:B<=d.heap.size):Below B w0 d.drew/\B<=d.drew.heap.size:=⟨h.drew,z⟩
theorem RY (v:Value) (l:List VV) (f:Nat->Int) (w:World) (H:kK w v l) (F:0<l.length) (_hl2:l.length<=1000) (I:∀(j:Nat) (q:VV),l[j]? =some q->q.1=bO .i64 (f j)):
  Calls Tryz.prog 200 #[v] w fun e w'=>e=.returned (.int .i64 (iV f l.length:Int))/\Below w.heap.size w w':=by
 obtain⟨a,ca,rfl,a2,a0,J⟩:=H.open;unfold maxLen at a0;obtain⟨b,off,rfl,L,M⟩:=J F;have O:=hid (show ∀j,j<l.length->w.cell? ⟨b,off+j*2,none⟩=some (.int .i64 (f j)) from fun j hj=>by
  have e:=aN hj;rw[(M j _ e).1,I j _ e])
 clear J M I H;go_enter Tryz.func200,Tryz.ntmps200;go_wp2_with fail
 go_loopg [3,4] (l.length-1) (fun g s3 s4 wr=>∃k m:Nat,1<=k/\k<=l.length/\g=l.length-k/\s4=.int .i64 (k:Int)/\s3=.int .i64 (m:Int)/\Hid (m=iV f k)/\m<l.length/\Below w.heap.size w wr)
 case atStart=>exact⟨1,0,aA _,F,by omega,rfl,rfl,hid (by unfold iV;split<;>rfl),F,aB _ _⟩
 case round=>
  obtain⟨k,m,a3,hk,E,rfl,rfl,T,U,A⟩:=hrel;have V:=hid E;clear E
  by_cases Y:k<l.length
  ·have u1:decide ((k:Int)<(l.length:Int))=true:=decide_eq_true (by omega);have c1:=(A.cell (p:=⟨b,off+k*2,none⟩) L).trans (O.out k Y);have c2:=(A.cell (p:=⟨b,off+m*2,none⟩) L).trans (O.out m U);have d:iV f (k+1)=if f k<f m then k else m:=by rw[T.out];rfl
   obtain⟨x,Z⟩:∃x,x=f k:=⟨_,rfl⟩;obtain⟨y,hy⟩:∃y,y=f m:=⟨_,rfl⟩;rw[<-Z] at c1 d;rw[<-hy] at c2 d;clear Z hy
   by_cases z:x<y
   ·have u2:decide (x<y)=true:=decide_eq_true z;rw[if_pos z] at d;have G:=hid d.symm;clear d z;go_wp2_with fail
    go_quiet (fail)
    go_wp2_with fail;have E:=V.out
    go_roundg (l.length-(k+1))
    case measure=>omega
    case rel=>exact⟨k+1,k,by omega,by omega,rfl,by go_num,rfl,G,Y,iI A _⟩
   ·have u2:decide (x<y)=false:=decide_eq_false z;rw[if_neg z] at d;have G:=hid d.symm;clear d z;go_wp2_with fail
    go_quiet (fail)
    go_wp2_with fail;have E:=V.out
    go_roundg (l.length-(k+1))
    case measure=>omega
    case rel=>exact⟨k+1,m,by omega,by omega,rfl,by go_num,rfl,G,U,iI A _⟩
  ·have u1:decide ((k:Int)<(l.length:Int))=false:=decide_eq_false (by omega);have a1:k=l.length:=by omega
   subst a1;go_wp2_with fail;go_ret;exact⟨by rw[<-T.out];rfl,A⟩
theorem RZ {wr w:World} {b off cap:Nat} {l:List VV} (z:b<wr.heap.size) (A:∀j q,l[j]? =some q->wr.cell? ⟨b,off+j*2,none⟩=some q.1/\wr.cell? ⟨b,off+j*2+1,none⟩=some q.2) (h:Below wr.heap.size wr w/\wr.heap.size<=w.heap.size)
  (k:Nat) (G:k<=l.length) (H:k<=cap) (E:cap<=maxLen):kK w (.slice (some ⟨b,off,none⟩) k cap) (l.take k):=by
 have F:(l.take k).length=k:=by rw[aX];omega
 refine .inr ⟨b,off,cap,by rw[F],by omega,E,by omega,fun j q d=>?_⟩;have I:=(eU.1 d).1;rw[mB (by omega)] at d;rw[h.1.cell (p:=⟨b,off+j*2,none⟩) z,h.1.cell (p:=⟨b,off+j*2+1,none⟩) z];exact A j q d
theorem aHi {wr w:World} {b off cap:Nat} {l:List VV} (d:b<wr.heap.size) (A:∀j q,l[j]? =some q->wr.cell? ⟨b,off+j*2,none⟩=some q.1/\wr.cell? ⟨b,off+j*2+1,none⟩=some q.2) (h:Below wr.heap.size wr w/\wr.heap.size<=w.heap.size)
  (k:Nat) (E:l.length<=cap) (F:cap<=maxLen):kK w (.slice (some ⟨b,off+k*2,none⟩) (l.length-k) (cap-k)) (l.drop k):=by
 refine .inr ⟨b,off+k*2,cap-k,by rw[cI],by rw[cI];omega,by omega,by omega,fun j q z=>?_⟩;rw[gR] at z;rw[h.1.cell (p:=⟨b,off+k*2+j*2,none⟩) d,h.1.cell (p:=⟨b,off+k*2+j*2+1,none⟩) d,show off+k*2+j*2=off+(k+j)*2 by omega];exact A _ q z
theorem aHj {wr w:World} {b off:Nat} (z:b<wr.heap.size) (h:Below wr.heap.size wr w/\wr.heap.size<=w.heap.size):kK w (.slice (some ⟨b,off,none⟩) 0 0) []:=
 .inr ⟨b,off,0,rfl,aA _,by simp[maxLen],by omega,fun j q d=>by simp at d⟩
theorem SA (v:Value) (l:List VV) (i:Nat) (w:World) (T:kK w v l) (hi:i<l.length) (b2:l.length<=1000) (G:nG l):
  Calls Tryz.prog 201 #[v,.int .i64 (i:Int)] w fun e w'=>∃U,e=.returned U/\OwP w' w.heap.size 249 U (l.eraseIdx i)/\Below w.heap.size w w':=by
 obtain⟨a,z,rfl,a4,V,Y⟩:=T.open;have H:=hid V;unfold maxLen at V;obtain⟨b,off,rfl,hb,Z⟩:=Y (by omega);have I:=hid Z;have F:=hid hb;have a0:=hid (G.sub (m:=l.take i) (fun q A=>nO A));have a1:=hid (G.sub (m:=l.drop (i+1)) (fun q A=>xU A));have hi1:i<=z:=by omega
 obtain⟨d,J⟩:∃d,d=i+1:=⟨_,rfl⟩;rw[<-J] at a1;have m1:aI.wrap ((i:Int)+1)=(d:Int):=by rw[aM];omega
 have m2:(i:Int)+1=(d:Int):=by omega
 have m3:aI.wrap (d:Int)=(d:Int):=by rw[aM];omega
 have hi2:d<=l.length:=by omega
 have hi3:(d:Int)<=(l.length:Int):=by omega
 have hi4:(0:Int)<=(d:Int):=by omega
 have hi7:¬d*2=0:=by omega
 have HE:=hid (show l.take i++l.drop d=l.eraseIdx i by rw[J,List.eraseIdx_eq_take_drop_succ]);clear J;have b3:(i:Int)<=(z:Int):=by omega
 have b4:(0:Int)<=(i:Int):=by omega
 have a2:i<=l.length:=by omega
 clear Y Z T G hi
 by_cases L:z=d
 ·have a3:l.length=d:=by omega
  have a5:=hid (show l.drop d=[] from qY (by omega));have a6:∀w,(GN 247 (.slice (some ⟨b,off,none⟩) l.length z) (some (.int .i64 (d:Int))) none none).run Tryz.prog w=.ok (.slice (some ⟨b,off,none⟩) 0 0) w:=fun W=>by
   simp[go_sem,L,a3]
  clear L a3;go_enter Tryz.func201,Tryz.ntmps201;go_wp2_with fail
  go_region_held3 (fun w'=>Below w.heap.size w w'/\w.heap.size<=w'.heap.size)
   (first
    |with_reducible assumption
    |with_reducible exact uQ (by assumption) _
    |with_reducible exact wD (by assumption) (by assumption)
    |with_reducible exact RX (aB _ _) (aA _))
   (first
    |(refine CR wE rfl _ _ rfl w.heap.size (.slice none 0 0) [] rfl (OwP.nil _ _ _) (.slice (some ⟨b,off,none⟩) i z) (l.take i) rfl ?_ ?_ ?_ ?_ ?_;(exact RZ F.out I.out (by assumption) i a2 hi1 H.out);(exact a0.out);(simp only[cX,aX];omega);(exact(show Below w.heap.size w _/\w.heap.size<=_ by assumption).2);intro v1 w1 a7 a8 a9)
    |(refine CR wE rfl _ _ rfl w.heap.size _ ([]++l.take i) rfl (by assumption) (.slice (some ⟨b,off,none⟩) 0 0) [] rfl ?_ ?_ ?_ ?_ ?_;(exact aHj F.out (by assumption));(exact fun q A=>by simp at A);(simp only[aL,cX,aX];omega);(exact(show Below w.heap.size w _/\w.heap.size<=_ by assumption).2);intro v2 E M b0 b1))
  all_goals
   go_wp2_with fail;go_ret;have O:Below w.heap.size w E/\w.heap.size<=E.heap.size:=by assumption
   refine⟨_,rfl,?_,O.1⟩;rw[<-HE.out,a5.out];exact M
 ·have a6:∀w,(GN 247 (.slice (some ⟨b,off,none⟩) l.length z) (some (.int .i64 (d:Int))) none none).run Tryz.prog w=.ok (.slice (some ⟨b,off+d*2,none⟩) (l.length-d) (z-d)) w:=fun W=>by
   simp[go_sem,hi3,L,iN,hi7]
  go_enter Tryz.func201,Tryz.ntmps201;go_wp2_with fail
  go_region_held3 (fun w'=>Below w.heap.size w w'/\w.heap.size<=w'.heap.size)
   (first
    |with_reducible assumption
    |with_reducible exact uQ (by assumption) _
    |with_reducible exact wD (by assumption) (by assumption)
    |with_reducible exact RX (aB _ _) (aA _))
   (first
    |(refine CR wE rfl _ _ rfl w.heap.size (.slice none 0 0) [] rfl (OwP.nil _ _ _) (.slice (some ⟨b,off,none⟩) i z) (l.take i) rfl ?_ ?_ ?_ ?_ ?_;(exact RZ F.out I.out (by assumption) i a2 hi1 H.out);(exact a0.out);(simp only[cX,aX];omega);(exact(show Below w.heap.size w _/\w.heap.size<=_ by assumption).2);intro v1 w1 a7 a8 a9)
    |(refine CR wE rfl _ _ rfl w.heap.size _ ([]++l.take i) rfl (by assumption) (.slice (some ⟨b,off+d*2,none⟩) (l.length-d) (z-d)) (l.drop d) rfl ?_ ?_ ?_ ?_ ?_;(exact aHi F.out I.out (by assumption) d a4 H.out);(exact a1.out);(simp only[aL,cX,aX,cI];omega);(exact(show Below w.heap.size w _/\w.heap.size<=_ by assumption).2);intro v2 E M b0 b1))
  all_goals
   go_wp2_with fail;go_ret;have O:Below w.heap.size w E/\w.heap.size<=E.heap.size:=by assumption
   refine⟨_,rfl,?_,O.1⟩;rw[<-HE.out];exact M
theorem qO {w:World} {B B' e A z F n G:Nat} {v E:Value} {xs H:List Value} (h:w.ownsRow B e z v n xs) (I:w.ownsRow B' A F E G H) (J:e≠A):v.ownBlock=none\/v.ownBlock≠E.ownBlock:=by
 rcases h.2 with⟨rfl,_⟩|⟨g,cap,O,rfl,_,L,_⟩
 ·exact .inl rfl
 ·right
  rcases I.2 with⟨rfl,_⟩|⟨M,T,U,rfl,_,d,_⟩
  ·intro e;cases e
  ·intro e;have e:some g=some M:=e
   cases e
   rw[L] at d
   injection d with d
   injection d with _ q _
   exact J q
theorem DF {w:World} {B e z E F b:Nat} {A:Value} {l G:List Value} (h:Arr w b e l) (H:w.ownsRow B z E A F G) (I:e≠z):some b≠A.ownBlock:=by
 rcases H.2 with⟨rfl,_⟩|⟨J,L,M,rfl,_,d,_⟩
 ·intro e;cases e
 ·intro e;have e:some b=some J:=e
  cases e
  unfold Arr at h;rw[h] at d
  injection d with d
  injection d with _ q _
  exact I q
theorem iL {w:World} {B e z n b:Nat} {v:Value} {xs:List Value} (h:w.ownsRow B e z v n xs) (d:b<B):v.ownBlock=none\/v.ownBlock≠some b:=by
 rcases hob:v.ownBlock with _|k
 ·exact .inl rfl
 ·have:=(h.lt k hob).1;exact .inr (fun e=>by have:=bW e;omega)
def lvI (t:HT):List Int:=t.leaves.map (fun n:Nat=>((n:Nat):Int))
def TOK (w:World) (B d:Nat) (l:List VV) (r:bQ):Prop:=
 l.length=r.length/\∀(j:Nat) (q:VV) (p:Int×HT),l[j]? =some q->r[j]? =some p->q.1=.int .i64 p.1/\OwI w B q.2 (lvI p.2)/\(q.2.ownBlock=none\/q.2.ownBlock≠some d)/\q.2.oneCell'=true
theorem TOK.nil (w:World) (B d:Nat):TOK w B d [] []:=⟨rfl,fun j q p h=>by simp at h⟩
theorem TOK.map {w w':World} {B d z:Nat} {l:List VV} {r:bQ} (h:TOK w B d l r) (k:∀(v:Value) (m:List Int),OwI w B v m->(v.ownBlock=none\/v.ownBlock≠some d)->OwI w' B v m/\(v.ownBlock=none\/v.ownBlock≠some z)):TOK w' B z l r:=
 ⟨h.1,fun j q p A E=>by
  obtain⟨F,G,H,I⟩:=h.2 j q p A E;obtain⟨J,L⟩:=k _ _ G H;exact⟨F,J,L,I⟩⟩
theorem TOK.below {w w':World} {B d:Nat} {l:List VV} {r:bQ} (h:TOK w B d l r) (z:Below w.heap.size w w'):TOK w' B d l r:=h.map (fun _ _ A E=>⟨OwI.below A z (aA _),E⟩)
theorem TOK.alloc {w:World} {B d:Nat} {l:List VV} {r:bQ} (h:TOK w B d l r) (o:Obj):TOK (w.alloc o) B d l r:=h.map (fun _ _ z A=>⟨OwI.alloc z o,A⟩)
theorem TOK.set {w:World} {B d:Nat} {l:List VV} {r:bQ} (h:TOK w B d l r) (i:Nat) (x:Value):TOK (w.setCell ⟨d,i,none⟩ x) B d l r:=h.map (fun _ _ A z=>⟨Ow.kept A (eM w d i x) z,z⟩)
theorem TOK.snoc {w:World} {B A:Nat} {l:List VV} {r:bQ} (h:TOK w B A l r) {q:VV} {p:Int×HT} (F:q.1=.int .i64 p.1) (G:OwI w B q.2 (lvI p.2)) (H:q.2.ownBlock=none\/q.2.ownBlock≠some A) (I:q.2.oneCell'=true):TOK w B A (l++[q]) (r++[p]):=by
 refine⟨by rw[aL,aL,h.1];rfl,fun j J L d z=>?_⟩
 by_cases E:j<l.length
 ·rw[gS E] at d;rw[gS (by rw[<-h.1];exact E)] at z;exact h.2 j J L d z
 ·have M:=(eU.1 d).1;rw[aL,List.length_singleton] at M;obtain rfl:j=l.length:=by omega
  rw[AQ] at d;rw[h.1,AQ] at z;obtain rfl:=bW d;obtain rfl:=bW z;exact⟨F,G,H,I⟩
theorem TOK.erase {w:World} {B A:Nat} {l:List VV} {r:bQ} (h:TOK w B A l r) (i:Nat):TOK w B A (l.eraseIdx i) (r.eraseIdx i):=by
 refine⟨by rw[GJ,GJ,h.1],fun j q p z d=>?_⟩;rw[List.getElem?_eraseIdx] at z d;split at z
 ·next k=>rw[if_pos k] at d;exact h.2 _ _ _ z d
 ·next k=>rw[if_neg k] at d;exact h.2 _ _ _ z d
theorem TOK.one {w:World} {B z:Nat} {l:List VV} {r:bQ} (h:TOK w B z l r):nG l:=fun q A=>by
 obtain⟨j,d⟩:=List.mem_iff_getElem?.1 A;have E:=(eU.1 d).1;obtain⟨F,_,_,G⟩:=h.2 j q _ d (aN (by rw[<-h.1];exact E));exact⟨by rw[F];rfl,G⟩
theorem TOK.fst {w:World} {B A:Nat} {l:List VV} {r:bQ} (h:TOK w B A l r):∀(j:Nat) (q:VV),l[j]? =some q->q.1=bO .i64 ((fun i=>(r.getD i (0,.leaf 0)).1) j):=fun j q d=>by
 have E:=(eU.1 d).1;have F:j<r.length:=by rw[<-h.1];exact E
 have z:r[j]? =some r[j]:=aN F;rw[(h.2 j q _ d z).1];show _=bO .i64 (r.getD j (0,.leaf 0)).1;rw[aV,z];rfl
theorem SJ:∀{l:List Int},(∀x∈l,0<=x)->0<=l.sum/\∀x∈l,x<=l.sum
 |[],_=>⟨by simp,fun x d=>by simp at d⟩
 |y::l,h=>by
  obtain⟨A,z⟩:=SJ (l:=l) (fun x d=>h x (List.mem_cons_of_mem _ d));have E:=h y (List.mem_cons_self ..);rw[List.sum_cons];refine⟨by omega,fun x d=>?_⟩;rcases kD.1 d with rfl|d
  ·omega
  ·have:=z x d;omega
theorem SK (ws:List Int) (E:∀x∈ws,1<=x) (t:Nat) (F:t<ws.length):∀p∈bP ws t,1<=p.1/\p.1<=ws.sum:=fun p d=>by
 obtain⟨z,G⟩:=rO.all ws E t F;have A:∀p∈bP ws t,1<=p.1:=fun p d=>by rw[z.wt p d];exact HT.wt_pos p.2 (z.even p d)
 refine⟨A p d,?_⟩;rw[<-G];refine(SJ (fun x H=>?_)).2 _ (dU.2 ⟨p,d,rfl⟩);obtain⟨q,I,rfl⟩:=dU.1 H;have:=A q I;omega
theorem SM {ws:List Int} {k:Nat} {x:Int} (h:ws[k]? =some x):bP (ws.take (k+1)) 0=bP (ws.take k) 0++[(x,.leaf k)]:=by
 have z:=(eU.1 h).1;have d:(ws.take k).length=k:=by rw[aX];omega
 show((ws.take (k+1)).zipIdx.map _)=_;rw[List.take_add_one,h,Option.toList_some,List.zipIdx_append,fI,d];simp[bP]
theorem TOK.app {W A:World} {B B' E d:Nat} {v3:Value} {l G:List VV} {r:bQ} (h:TOK W B E l r) (H:OwP W B' 249 v3 G) (I:W.grownBy A v3.ownBlock) (F:d=E\/W.heap.size<=d):TOK A B d l r:=
 h.map (fun v m z J=>⟨Ow.kept z I (qO z H (by decide)),by
  rcases F with rfl|F
  ·exact J
  ·rcases hob:v.ownBlock with _|k
   ·exact .inl rfl
   ·have:=(Ow.lt z k hob).2;exact .inr (fun e=>by have:=bW e;omega)⟩)
theorem aHp {d z:World} {E F:Addr} {v1 v2:Value} {B:Nat} {w0:World} (h:d.cell? E=some v1/\d.cell? F=some v2/\Below B w0 d/\B<=d.heap.size) (A:Below d.heap.size d z):
  z.cell? E=some v1/\z.cell? F=some v2/\Below B w0 z/\B<=z.heap.size:=by
 obtain⟨I,J,L,G⟩:=h;have k:∀{p:Addr} {v:Value},d.cell? p=some v->z.cell? p=some v:=fun{p} {v} H=>(A.cell (iO d p H)).trans H
 exact⟨k I,k J,L.trans (A.mono G),aW G A.size⟩
theorem aHq {d z:World} {A G E H:Nat} {v1 v2:Value} {B:Nat} {w0:World} (h:d.cell? ⟨A,G,none⟩=some v1/\d.cell? ⟨E,H,none⟩=some v2/\Below B w0 d/\B<=d.heap.size) (F:Below B d z) (I:A<B) (J:E<B):
  z.cell? ⟨A,G,none⟩=some v1/\z.cell? ⟨E,H,none⟩=some v2/\Below B w0 z/\B<=z.heap.size:=by
 obtain⟨L,M,O,T⟩:=h;exact⟨(F.cell (p:=⟨A,G,none⟩) I).trans L,(F.cell (p:=⟨E,H,none⟩) J).trans M,O.trans F,aW T F.size⟩
theorem SR {d z:Prop} {B A:Nat} {w0 w':World} {v:Value} {m:List Int} (e:OwI w0 A v m) (E:w0.heap.size<=B) (h:d/\z/\Below B w0 w'/\B<=w'.heap.size):pQ w' v m:=OwI.src (OwI.below e h.2.2.1 E)
theorem SS {d z:Prop} {B:Nat} {w0 w':World} (h:d/\z/\Below B w0 w'/\B<=w'.heap.size):B<=w'.heap.size:=h.2.2.2
theorem aHr (v:Value) (ws:List Int) (w:World) (hr:RdI w v ws) (h2:2<=ws.length) (q2:ws.length<=258) (h1:∀x∈ws,1<=x) (hs:ws.sum<28657):
  Calls Tryz.prog 159 #[v] w fun e w'=>∃v',e=.returned v'/\OwI w' w.heap.size v' (kL ws)/\Below w.heap.size w w':=by
 have f6:=hid (SK ws h1);have l4:=hid hs;obtain⟨a,ca,rfl,q3,l5,hA⟩:=hr.open;unfold maxLen at l5;obtain⟨b,off,rfl,hb,hc⟩:=hA (by omega);have HC:=hid hc;clear hA hc hr h1 hs;go_enter Tryz.func159,Tryz.ntmps159;go_wp2_with fail
 go_loopg [3,4] ws.length (fun g s3 s4 wr=>∃(k:Nat) (v3:Value) (l:List VV),k<=ws.length/\g=ws.length-k/\v3=s3/\s4=.int .i64 (k:Int)/\OwP wr w.heap.size 249 v3 l/\TOK wr w.heap.size wr.heap.size l (bP (ws.take k) 0)/\Below w.heap.size w wr)
 case atStart=>exact⟨0,_,[],aU _,rfl,rfl,rfl,OwP.nil _ _ _,TOK.nil _ _ _,aB _ _⟩
 case round=>
  obtain⟨k,v3,l,hk,hg,rfl,rfl,ho,ht,G⟩:=hrel;have HG:=hid hg;clear hg;have b6:=G.size;have l6:l.length=k:=by rw[ht.1];show((ws.take k).zipIdx.map _).length=k;rw[bJ,List.length_zipIdx,aX];omega
  by_cases c6:k<ws.length
  ·have u1:decide ((k:Int)<(ws.length:Int))=true:=decide_eq_true (by omega);obtain⟨x,hx⟩:=dH c6;have c1:=(G.cell (p:=⟨b,off+k,none⟩) hb).trans (HC.out k x hx);have HT:=hid (SM hx);have hO:OwI (wr.alloc (.cells #[.int .i64 (k:Int)] 3)) w.heap.size (.slice (some ⟨wr.heap.size,0,none⟩) 1 1) (lvI (.leaf k)):=(Arr.new wr 3 [.int .i64 (k:Int)]).own b6 (by simp[maxLen]);have F:=ho.alloc (.cells #[.int .i64 (k:Int)] 3);have E:=(ht.alloc (.cells #[.int .i64 (k:Int)] 3));have b7:=G.alloc (o:=.cells #[.int .i64 (k:Int)] 3) b6
   have d4:(wr.alloc (.cells #[.int .i64 (k:Int)] 3)).heap.size=wr.heap.size+1:=by simp
   clear hx;have d5:=kK.new (wr.alloc (.cells #[.int .i64 (k:Int)] 3)) 249 (.int .i64 x,.slice (some ⟨wr.heap.size,0,none⟩) 1 1);rw[d4] at d5;have hO:=OwI.alloc hO (.cells #[.int .i64 x,.slice (some ⟨wr.heap.size,0,none⟩) 1 1] 249);have F:=F.alloc (.cells #[.int .i64 x,.slice (some ⟨wr.heap.size,0,none⟩) 1 1] 249);have E:=E.alloc (.cells #[.int .i64 x,.slice (some ⟨wr.heap.size,0,none⟩) 1 1] 249);have b7:=b7.alloc (o:=.cells #[.int .i64 x,.slice (some ⟨wr.heap.size,0,none⟩) 1 1] 249) (by omega)
   have q4:((wr.alloc (.cells #[.int .i64 (k:Int)] 3)).alloc (.cells #[.int .i64 x,.slice (some ⟨wr.heap.size,0,none⟩) 1 1] 249)).heap.size=wr.heap.size+1+1:=by simp
   clear ho ht;go_wp2_with (at_builtin;refine RL wE rfl _ _ rfl w.heap.size _ l rfl F _ [(.int .i64 x,.slice (some ⟨wr.heap.size,0,none⟩) 1 1)] rfl d5 (fun q hq=>by obtain rfl:=dC.1 hq;exact⟨rfl,rfl⟩) ?_ ?_ ?_;(simp only[cR,cX];omega);(simp;omega);intro v4 w4 O r2 r3);have hg:=HG.out;have l7:=r3.size
   go_roundg (ws.length-(k+1))
   case measure=>omega
   case rel=>
    refine⟨k+1,_,_,by omega,rfl,rfl,by go_num,O,?_,b7.trans r2⟩;rw[HT.out];refine TOK.snoc (E.app F r3 (.inr l7)) rfl (Ow.kept hO r3 (qO hO F (by decide))) ?_ rfl;exact .inr (fun e=>by have e:wr.heap.size=w4.heap.size:=bW e;omega)
  ·have u1:decide ((k:Int)<(ws.length:Int))=false:=decide_eq_false (by omega);have l8:k=ws.length:=by omega
   subst l8;rw[kE] at ht;have hB:=hid (show w.heap.size<=wr.heap.size from b6);go_wp2_with (at_make;refine mkA gL rfl _ _ rfl ws.length rfl rfl ?_ ?_;omega);have I:=Arr.made wr 3 (.int .i64 0) ws.length;have F:=ho.alloc (.cells (fB (.int .i64 0) ws.length) 3);have E:=ht.alloc (.cells (fB (.int .i64 0) ws.length) 3);have b7:=G.alloc (o:=.cells (fB (.int .i64 0) ws.length) 3) b6;have d4:(wr.alloc (.cells (fB (.int .i64 0) ws.length) 3)).heap.size=wr.heap.size+1:=by simp
   have f7:bB ws.length (bO .i64 0)=(gO ws 0).map (bO .i64):=by show _=(bB ws.length (0:Int)).map _;rw[List.map_replicate]
   rw[f7] at I;change Arr (wr.alloc (.cells (fB (.int .i64 0) ws.length) 3)) _ _ _ at I;generalize wr.alloc (.cells (fB (.int .i64 0) ws.length) 3)=w1 at*
   obtain⟨bd,b1⟩:∃bd,bd=wr.heap.size:=⟨_,rfl⟩;rw[<-b1] at I d4 E b6 ⊢;clear ho ht G b1 f7 HG
   go_loopg [3,6,7,8,9,10,11] (ws.length-1) (fun g s3 _s6 _s7 _s8 _s9 _s10 _s11 wr=>∃(t:Nat) (v3:Value) (l:List VV),t<ws.length/\g=ws.length-1-t/\v3=s3/\OwP wr w.heap.size 249 v3 l/\TOK wr w.heap.size bd l (bP ws t)/\Arr wr bd 3 ((gO ws t).map (bO .i64))/\Below w.heap.size w wr/\bd<wr.heap.size)
   case atStart=>exact⟨0,_,l,by omega,rfl,rfl,F,E,I,b7,by omega⟩
   case round=>
    clear F E I b7 d4;obtain⟨t,v3,l,e5,hg,rfl,F,E,I,G,b1⟩:=hrel;have HG:=hid hg;clear hg;have l9:=pR ws t e5;have c0:=hid E.1;have l6:l.length+t=ws.length:=by have:=c0.out;omega
    have b6:=G.size;clear l9
    by_cases c6:t+1<ws.length
    ·obtain⟨a3,c3,rfl,m0,m2,d6⟩:=F.src.open;obtain⟨b3,o3,rfl,f8,f9⟩:=d6 (by omega);have u1:decide ((l.length:Int)>1)=true:=decide_eq_true (by omega);have u2:decide (1<(l.length:Int))=true:=decide_eq_true (by omega);have u3:1<l.length:=by omega
     have b2:=RY (.slice (some ⟨b3,o3,none⟩) l.length c3) l _ wr F.src (by omega) (by omega) E.fst;obtain⟨T,hi0⟩:∃T,T=bQ.least (bP ws t):=⟨_,rfl⟩;rw[c0.out,show iV (fun i=>((bP ws t).getD i (0,.leaf 0)).1) (bP ws t).length=T from hi0.symm,<-c0.out] at b2;have d7:T<l.length:=by rw[hi0,c0.out];exact(yN _ _ (by rw[<-c0.out];omega)).1
     have q5:=hid hi0;obtain⟨q0,hq0⟩:∃q0,l[T]? =some q0:=⟨_,aN d7⟩;obtain⟨z,d8⟩:∃z,(bP ws t)[T]? =some z:=⟨_,aN (by rw[<-c0.out];exact d7)⟩;have g0:bM (bP ws t)=(z,(bP ws t).eraseIdx T):=by
      unfold bM;rw[<-hi0,aV,d8];rfl
     obtain⟨g1,J,g2,g3⟩:=E.2 T q0 z hq0 d8;obtain⟨x0,e6⟩:∃x0:Value,q0.2=x0:=⟨_,rfl⟩;rw[e6] at J g2 g3;have q6:=f6.out t e5 z (cH d8);obtain⟨c7,c8⟩:=f9 T q0 hq0;rw[g1] at c7;rw[e6] at c8;have e7:=hid g0;clear d6 f9 hi0 hq0 d8 g0 g1 e6;go_wp2_with fail;refine b2.mono ?_;rintro e w2 ⟨rfl,a7⟩;have c7:=(a7.cell (p:=⟨b3,o3+T*2,none⟩) f8).trans c7;have c8:=(a7.cell (p:=⟨b3,o3+T*2+1,none⟩) f8).trans c8;have F:=F.below a7 (aA _);have E:=E.below a7;have I:=I.below a7 b1;have G:=bV G a7;have b1:=Nat.lt_of_lt_of_le b1 a7.size;have J:=OwI.below J a7 (aA _)
     obtain⟨a0,a2,rfl,_,_,_⟩:=(OwI.rd J).open;obtain⟨V,g4⟩:∃V,(lvI z.2).length=V:=⟨_,rfl⟩;rw[g4] at J g2 g3 c8;clear b2 a7 g4;have g5:=G.size;go_wp2_with fail;have L:=Arr.new w2 249 [.int .i64 z.1,.slice a0 V a2];have F:=F.alloc (.cells #[.int .i64 z.1,.slice a0 V a2] 249);have E:=E.alloc (.cells #[.int .i64 z.1,.slice a0 V a2] 249);have I:=I.alloc (.cells #[.int .i64 z.1,.slice a0 V a2] 249);have J:=OwI.alloc J (.cells #[.int .i64 z.1,.slice a0 V a2] 249);have G:=G.alloc (o:=.cells #[.int .i64 z.1,.slice a0 V a2] 249) g5
     have m3:(w2.alloc (.cells #[.int .i64 z.1,.slice a0 V a2] 249)).heap.size=w2.heap.size+1:=by simp
     change Arr (w2.alloc (.cells #[.int .i64 z.1,.slice a0 V a2] 249)) _ _ _ at L;generalize w2.alloc (.cells #[.int .i64 z.1,.slice a0 V a2] 249)=w3 at*
     obtain⟨y0,hy0⟩:∃y0,y0=w2.heap.size:=⟨_,rfl⟩;rw[<-hy0] at L m3 b1 g5 ⊢;clear hy0;refine(SA (.slice (some ⟨b3,o3,none⟩) l.length c3) l T w3 F.src d7 (by omega) E.one).mono ?_;rintro e w4 ⟨v4,rfl,g6,b5⟩;have q7:=b5.size;have E:=(E.below b5).erase T;have I:=I.below b5 (by omega);have L:=L.below b5 (by omega);have J:=OwI.below J b5 (aA _);have G:=G.trans (b5.mono (by omega));have F:=OwP.base g6 (show w.heap.size<=w3.heap.size by omega);have m4:(l.eraseIdx T).length+1=l.length:=by rw[GJ,if_pos d7];omega
     obtain⟨l1,g7⟩:∃l1,l1=l.eraseIdx T:=⟨_,rfl⟩;obtain⟨O,e8⟩:∃O,O=(bP ws t).eraseIdx T:=⟨_,rfl⟩;have i2:∀p∈O,p∈bP ws t:=fun p hp=>by rw[e8] at hp;exact(List.eraseIdx_sublist ..).subset hp
     rw[<-g7] at E F m4;rw[<-e8] at E e7;clear g6 b5 g7 e8 c7 c8;have d0:=hid E.1;obtain⟨q8,i3,rfl,q9,r0,i4⟩:=F.src.open;obtain⟨b4,o4,rfl,i5,i6⟩:=i4 (by omega);have b2:=RY (.slice (some ⟨b4,o4,none⟩) l1.length i3) l1 _ w4 F.src (by omega) (by omega) E.fst;obtain⟨U,hi1⟩:∃U,U=bQ.least O:=⟨_,rfl⟩;rw[d0.out,show iV (fun i=>(O.getD i (0,.leaf 0)).1) O.length=U from hi1.symm,<-d0.out] at b2;have d9:U<l1.length:=by rw[hi1,d0.out];exact(yN _ _ (by rw[<-d0.out];omega)).1
     obtain⟨q1,hq1⟩:∃q1,l1[U]? =some q1:=⟨_,aN d9⟩;obtain⟨A,e0⟩:∃A,O[U]? =some A:=⟨_,aN (by rw[<-d0.out];exact d9)⟩;have i7:bM O=(A,O.eraseIdx U):=by
      unfold bM;rw[<-hi1,aV,e0];rfl
     obtain⟨i8,a4,i9,j0⟩:=E.2 U q1 A hq1 e0;obtain⟨x1,e9⟩:∃x1:Value,q1.2=x1:=⟨_,rfl⟩;rw[e9] at a4 i9 j0;have r4:=f6.out t e5 A (i2 A (cH e0));obtain⟨d1,d2⟩:=i6 U q1 hq1;rw[i8] at d1;rw[e9] at d2;have j1:=hid i7;clear i4 i6 hi1 hq1 e0 i7 i8 e9 i2;go_wp2_with fail;refine b2.mono ?_;rintro e w5 ⟨rfl,a5⟩;have m5:=a5.size;have d1:=(a5.cell (p:=⟨b4,o4+U*2,none⟩) i5).trans d1;have d2:=(a5.cell (p:=⟨b4,o4+U*2+1,none⟩) i5).trans d2;have F:=F.below a5 (aA _);have E:=E.below a5;have I:=I.below a5 (by omega);have L:=L.below a5 (by omega);have G:=G.trans (a5.mono (by omega))
     have J:=OwI.below J a5 (aA _);have a4:=OwI.below a4 a5 (aA _);obtain⟨Y,Z,rfl,_,_,_⟩:=(OwI.rd a4).open;obtain⟨M,j2⟩:∃M,(lvI A.2).length=M:=⟨_,rfl⟩;rw[j2] at a4 i9 j0 d2;clear b2 a5 j2;go_wp2_with fail;have a6:=Arr.new w5 249 [.int .i64 A.1,.slice Y M Z];have F:=F.alloc (.cells #[.int .i64 A.1,.slice Y M Z] 249);have E:=E.alloc (.cells #[.int .i64 A.1,.slice Y M Z] 249);have I:=I.alloc (.cells #[.int .i64 A.1,.slice Y M Z] 249);have L:=L.alloc (.cells #[.int .i64 A.1,.slice Y M Z] 249);have J:=OwI.alloc J (.cells #[.int .i64 A.1,.slice Y M Z] 249)
     have a4:=OwI.alloc a4 (.cells #[.int .i64 A.1,.slice Y M Z] 249);have G:=G.alloc (o:=.cells #[.int .i64 A.1,.slice Y M Z] 249) (by omega);have m6:(w5.alloc (.cells #[.int .i64 A.1,.slice Y M Z] 249)).heap.size=w5.heap.size+1:=by simp
     change Arr (w5.alloc (.cells #[.int .i64 A.1,.slice Y M Z] 249)) _ _ _ at a6;generalize w5.alloc (.cells #[.int .i64 A.1,.slice Y M Z] 249)=w6 at*
     obtain⟨y1,hy1⟩:∃y1,y1=w5.heap.size:=⟨_,rfl⟩;rw[<-hy1] at a6 m6 m5 ⊢;clear hy1;refine(SA (.slice (some ⟨b4,o4,none⟩) l1.length i3) l1 U w6 F.src d9 (by omega) E.one).mono ?_;rintro e w7 ⟨v5,rfl,j3,a8⟩;have m7:=a8.size;have E:=(E.below a8).erase U;have I:=I.below a8 (by omega);have L:=L.below a8 (by omega);have a6:=a6.below a8 (by omega);have J:=OwI.below J a8 (aA _);have a4:=OwI.below a4 a8 (aA _);have G:=G.trans (a8.mono (by omega));have F:=OwP.base j3 (show w.heap.size<=w6.heap.size by omega)
     have m8:(l1.eraseIdx U).length+1=l1.length:=by rw[GJ,if_pos d9];omega
     obtain⟨l2,j4⟩:∃l2,l2=l1.eraseIdx U:=⟨_,rfl⟩;rw[<-j4] at E F m8;have j5:=hid (show lG ws t=z.2.leaves++A.2.leaves by unfold lG;rw[e7.out];show _++(bM O).1.2.leaves=_;rw[j1.out]);have bQ:=hid (show bP ws (t+1)=O.eraseIdx U++[(z.1+A.1,.node (ws.length+t) z.2 A.2)] by
      show nH (ws.length+t) (bP ws t)=_;unfold nH;rw[e7.out];show(bM O).2++[(z.1+(bM O).1.1,.node _ z.2 (bM O).1.2)]=_;rw[j1.out])
     have j6:=(KF ws t c6).2.2;have r5:(lvI z.2).length+(lvI A.2).length<=258:=by
      rw[j5.out,aL] at j6;unfold lvI;rw[bJ,bJ];omega
     have j7:=L.cell (i:=1) rfl;have j8:=a6.cell (i:=1) rfl;obtain⟨B,m9⟩:∃B,B=w7.heap.size:=⟨_,rfl⟩;rw[<-m9] at m7;have e1:w7.heap.size<=B:=by omega
     have j9:y0<B:=by omega
     have k0:y1<B:=by omega
     have o0:w7.drew.cell? ⟨y0,1,none⟩=some (.slice a0 V a2)/\w7.drew.cell? ⟨y1,1,none⟩=some (.slice Y M Z)/\Below B w7 w7.drew/\B<=w7.drew.heap.size:=⟨j7,j8,(aB B w7).drew,by show B<=w7.heap.size;omega⟩;clear j3 a8 j4 d1 d2 j7 j8;go_wp2_with fail
     go_region_held3 (fun w'=>w'.cell? ⟨y0,1,none⟩=some (.slice a0 V a2)/\w'.cell? ⟨y1,1,none⟩=some (.slice Y M Z)/\Below B w7 w'/\B<=w'.heap.size)
      (first
       |with_reducible assumption
       |with_reducible exact aHp (by assumption) (by assumption)
       |with_reducible exact aHq (by assumption) (by assumption) j9 k0)
      (first
       |(refine JW rfl _ _ rfl B (.slice none 0 0) [] rfl (OwI.nil _ _) (.slice a0 V a2) (lvI z.2) rfl (SR J e1 (by assumption)) ?_ ?_ ?_;(simp only[cX];omega);(exact SS (by assumption));intro v8 w8 o8 b8 g8)
       |(refine JW rfl _ _ rfl B _ ([]++lvI z.2) rfl (by assumption) (.slice Y M Z) (lvI A.2) rfl (SR a4 e1 (by assumption)) ?_ ?_ ?_;(simp only[aL,cX];omega);(exact SS (by assumption));intro v9 w9 o9 b9 g9))
     have f0:=(show w9.cell? ⟨y0,1,none⟩=some (.slice a0 V a2)/\w9.cell? ⟨y1,1,none⟩=some (.slice Y M Z)/\Below B w7 w9/\B<=w9.heap.size by assumption);have c4:=f0.2.2.1;have r6:=f0.2.2.2;have E:=(E.below (c4.mono e1));have I:=I.below c4 (by omega);have L:=L.below c4 j9;have a6:=a6.below c4 k0;have G:=G.trans (c4.mono (by omega));have F:=F.below c4 e1;have f1:=hid (show lvI (.node (ws.length+t) z.2 A.2)=(lG ws t).map (fun n:Nat=>((n:Nat):Int)) by rw[j5.out];rfl);have o9:OwI w9 B v9 (lvI (.node (ws.length+t) z.2 A.2)):=by
      have e:lvI (.node (ws.length+t) z.2 A.2)=([]++lvI z.2)++lvI A.2:=by
       show(z.2.leaves++A.2.leaves).map _=_;rw[fI];rfl
      rw[e];exact o9
     rw[f1.out] at o9;obtain⟨H,d3⟩:∃H,H=lG ws t:=⟨_,rfl⟩;rw[<-d3] at o9 j6 f1;have o1:=hid d3;have f3:=fun(j y:Nat) (h:H[j]? =some y)=>aHo ws t c6 (j:=j) (y:=y) (by rw[<-d3];exact h)
     rw[<-d3] at f3;have k3:=hid f3;obtain⟨a9,c9,rfl,o2,r7,f4⟩:=(OwI.rd o9).open;have f5:(H.map (fun n:Nat=>((n:Nat):Int))).length=H.length:=bJ ..;rw[f5] at o2 f4 o9;rw[f5];clear J a4 f0 o0 f5 f3 d3 o8 b8 g8 b9 g9;go_wp2_with fail
     go_loopg [11] H.length (fun g o5 wy=>∃j:Nat,j<=H.length/\g=H.length-j/\o5=.int .i64 (j:Int)/\Arr wy bd 3 ((jJ (gO ws t) (H.take j)).map (bO .i64))/\w9.grownBy wy (some bd))
     case atStart=>exact⟨0,aU _,rfl,rfl,I,⟨rfl,rfl,rfl,aA _,fun _ _ _=>rfl⟩⟩
     case round=>
      obtain⟨j,hj,hg,rfl,c5,b0⟩:=hrel;have o6:=hid hg;clear hg
      by_cases e2:j<H.length
      ·have v1:decide ((j:Int)<(H.length:Int))=true:=decide_eq_true (by omega);obtain⟨y,hy⟩:∃y,H[j]? =some y:=⟨_,aN e2⟩;obtain⟨r8,d,hd,r9,s0,k4⟩:=k3.out j y hy;obtain⟨b9,k5,rfl,o7,k6⟩:=f4 (by omega);have s1:=(Ow.lt o9 b9 rfl).1;have c1:=(show wr.cell? ⟨b9,k5+j,none⟩=w9.cell? ⟨b9,k5+j,none⟩ from oK (w:=w9) (b0.block b9 o7 (by simp only[ne_eq,iP];omega))).trans (k6 j (y:Int) (by rw[dY,hy];rfl));have c2:=c5.cell (i:=y) (v:=.int .i64 d) (by rw[dY,hd];rfl);have f2:=c5.free y
       have v2:((y:Nat):Int)<(ws.length:Int):=by omega
       have v3:aI.wrap (d+1)=d+1:=by rw[aM];omega
       have HN:=hid k4;clear hy hd k6 k4;go_wp2_with fail
       go_region
       all_goals go_wp2_with fail
       have s2:=o6.out
       go_roundg (H.length-(j+1))
       case measure=>omega
       case rel=>
        refine⟨j+1,by omega,rfl,by go_num,?_,nC (dS b0 (eM _ _ _ _))⟩;have:=c5.set y (.int .i64 (d+1));rw[<-List.map_set,<-HN.out] at this;exact this
      ·have v1:decide ((j:Int)<(H.length:Int))=false:=decide_eq_false (by omega);have p2:j=H.length:=by omega
       subst p2;rw[kE,o1.out,<-SP] at c5;have p3:some y0≠some bd:=by simp only[ne_eq,iP];omega
       have p4:some y1≠some bd:=by simp only[ne_eq,iP];omega
       have L:=L.grown b0 p3;have a6:=a6.grown b0 p4;have F:=F.kept b0 (.inr (DF I F (by decide)).symm);have E:=E.map (fun v m k1 k2=>⟨Ow.kept k1 b0 k2,k2⟩);have o9:OwI wr B (.slice a9 H.length c9) (H.map (fun n:Nat=>((n:Nat):Int))):=Ow.kept o9 b0 (iL o9 (by omega));have G:=G.grown b0 (by omega) (fun k hk=>by obtain rfl:=bW hk;omega);have s5:=b0.size;have c7:=L.cell (i:=0) rfl;have d1:=a6.cell (i:=0) rfl;have m1:aI.wrap (z.1+A.1)=z.1+A.1:=by have:=l4.out;rw[aM];omega
       have d5:=kK.new wr 249 (.int .i64 (z.1+A.1),.slice a9 H.length c9);have e3:=F.alloc (.cells #[.int .i64 (z.1+A.1),.slice a9 H.length c9] 249);have p5:=E.alloc (.cells #[.int .i64 (z.1+A.1),.slice a9 H.length c9] 249);have k7:=c5.alloc (.cells #[.int .i64 (z.1+A.1),.slice a9 H.length c9] 249);have k8:=OwI.alloc o9 (.cells #[.int .i64 (z.1+A.1),.slice a9 H.length c9] 249);have p6:=G.alloc (o:=.cells #[.int .i64 (z.1+A.1),.slice a9 H.length c9] 249) (by omega);have s6:(wr.alloc (.cells #[.int .i64 (z.1+A.1),.slice a9 H.length c9] 249)).heap.size=wr.heap.size+1:=by simp
       have p7:(l2.length+1)*32<=140737488355328:=by omega
       clear F E c5 I L a6 G f4 k3;go_wp2_with (at_builtin;refine RL wE rfl _ _ rfl w.heap.size _ l2 rfl e3 _ [(.int .i64 (z.1+A.1),.slice a9 H.length c9)] rfl d5 (fun q hq=>by obtain rfl:=dC.1 hq;exact⟨rfl,rfl⟩) ?_ ?_ ?_;(exact p7);(omega);intro v10 p8 p9 r2 r3);have e4:(wr.alloc (.cells #[.int .i64 (z.1+A.1),.slice a9 H.length c9] 249)).grownBy p8 v5.ownBlock:=r3;have s7:=e4.size;have hg:=HG.out
       go_roundg (ws.length-1-(t+1))
       case measure=>omega
       case rel=>
        refine⟨t+1,_,_,c6,rfl,rfl,p9,?_,k7.grown e4 (DF k7 e3 (by decide)),p6.trans r2,by omega⟩;rw[bQ.out];refine TOK.snoc (p5.app e3 e4 (.inl rfl)) rfl ?_ ?_ rfl
        ·rw[f1.out];exact Ow.base (Ow.kept k8 e4 (qO k8 e3 (by decide))) (by omega)
        ·exact iL o9 (by omega)
    ·have u1:decide ((l.length:Int)>1)=false:=decide_eq_false (by omega);have u2:decide (1<(l.length:Int))=false:=decide_eq_false (by omega);have u3:¬1<l.length:=by omega
     have k9:t=ws.length-1:=by omega
     have e2:kL ws=gO ws t:=by rw[k9];rfl
     have l3:((gO ws t).map (bO .i64)).length=ws.length:=by rw[bJ,rN]
     have ho:=I.own (B:=w.heap.size) (by omega) (by rw[l3];simp only[maxLen];omega);rw[l3,<-e2] at ho;obtain⟨a3,c3,rfl,m0,m2,d6⟩:=F.src.open;clear d6 k9 e2;go_wp2_with fail;go_ret;exact⟨_,rfl,ho,G⟩
end
section
theorem aLq {n x:Nat} (d:0<n):(x+(n-1))%n<n:=jQ _ d
theorem aLr {n x y:Nat} (A:x<n) (E:y<n) (h:(x+(n-1))%n=(y+(n-1))%n):x=y:=by
 have e:∀z,z<n->(z+(n-1))%n=if z=0 then n-1 else z-1:=by
  intro z F
  by_cases d:z=0
  ·rw[if_pos d,d,Nat.zero_add];exact kU (by omega)
  ·rw[if_neg d,show z+(n-1)=(z-1)+n by omega,aCi];exact kU (by omega)
 rw[e x A,e y E] at h;split at h<;>split at h<;>omega
theorem aLs {n y:Nat} (d:y<n):((y+1)%n+(n-1))%n=y:=by
 rw[AO,show y+1+(n-1)=y+n by omega,aCi];exact kU d
theorem aLt {c:Nat->Nat} {n m:Nat} {o:Nat->Int} (h:Ord c n m o):((dG n).map (fun i=>((o i).toNat+(n-1))%n)).Perm (dG n):=by
 rw[List.perm_ext_iff_of_nodup ?_ List.nodup_range]
 ·intro y;rw[dU,jF];constructor
  ·rintro⟨i,hi,rfl⟩;exact aLq (by have:=jF.1 hi;omega)
  ·intro A;obtain⟨k,E,e⟩:=h.onto (y:=(y+1)%n) (jQ _ (by omega));exact⟨k,jF.2 E,by rw[e,eG];exact aLs A⟩
 ·unfold List.Nodup;rw[List.pairwise_map];refine aB5 ?_ List.pairwise_lt_range;intro a b F G H e;have d:=jF.1 F;have z:=jF.1 G;have I:=h.rng a d;have J:=h.rng b z;have:=aLr (by omega) (by omega) e;exact h.ne d z (by omega) (by omega)
theorem aLu (l:List UInt8):(dG l.length).map (fun i=>l.getD i 0)=l:=by
 apply jA;intro i
 by_cases h:i<l.length
 ·simp[h]
 ·rw[dL (by simp;omega),dL (by omega)]
theorem LN (s:ByteArray) {c:Nat->Nat} {m:Nat} {o:Nat->Int} (h:Ord c s.size m o):(dM s o s.size).Perm s.data.toList:=by
 have d:=(aLt h).map (fun i=>s.data.toList.getD i 0);rw[List.map_map] at d;have z:=aLu s.data.toList;rw[show s.data.toList.length=s.size by simp] at z;rw[z] at d;exact d
theorem aLv (o:Nat->Int):∀k,(∃j,j<k/\o j=0)->fD o k<k/\o (fD o k)=0:=by
 intro k
 induction k with
 |zero=>rintro⟨j,d,_⟩;omega
 |succ k z=>
  rintro⟨j,d,e⟩;unfold fD
  by_cases h:o k=0
  ·rw[if_pos h];exact⟨by omega,h⟩
  ·rw[if_neg h];have A:j<k:=by
    rcases bT j k with q|q
    ·exact q
    ·have:j=k:=by omega
     subst this;exact absurd e h
   have:=z ⟨j,A,e⟩;exact⟨by omega,this.2⟩
theorem aLw {c:Nat->Nat} {n m:Nat} {o:Nat->Int} (h:Ord c n m o) (d:0<n):fD o n<n/\o (fD o n)=0:=
 aLv o n (by obtain⟨k,z,e⟩:=h.onto (y:=0) d;exact⟨k,z,by simpa using e⟩)
theorem XO {N:Nat} {lt:Nat->Nat->Prop} (F:∀x,¬lt x x) (I:∀x y z,lt x z->lt x y\/lt y z) {a b:Nat->Nat}
  (J:∀i j,i<N->j<N->a i=a j->i=j) (L:∀i,i<N->∃j,j<N/\b j=a i)
  (M:∀i j,i<j->j<N->¬lt (a j) (a i)) (O:∀i j,i<j->j<N->¬lt (b j) (b i)):∀i,i<N->¬lt (a i) (b i):=by
 intro i hi h;have G:∀k,k<=i->∃j,j<i/\b j=a k:=by
  intro k d;obtain⟨j,T,e⟩:=L k (by omega);refine⟨j,?_,e⟩;have A:lt (a k) (b i):=by
   rcases I (a i) (a k) (b i) h with p|p
   ·exfalso;rcases bT k i with q|q
    ·exact M k i q hi p
    ·have:k=i:=by omega
     subst this;exact F _ p
   ·exact p
  rw[<-e] at A;rcases Nat.lt_trichotomy j i with p|p|p
  ·exact p
  ·subst p;exact absurd A (F _)
  ·exact absurd A (O i j p T)
 obtain⟨f,E⟩:∃f:Nat->Nat,∀k,k<=i->f k<i/\b (f k)=a k:=by
  refine⟨fun k=>if h:k<=i then Classical.choose (G k h) else 0,fun k d=>?_⟩;have:=Classical.choose_spec (G k d);simp only[dif_pos d];exact this
 obtain⟨x,y,A,U,V⟩:=php i f (fun k d=>(E k d).1);have H:=(E x (by omega)).2;have Y:=(E y U).2;rw[V,Y] at H;have:=J y x (by omega) (by omega) H;omega
theorem XP {c:Nat->Nat} {m:Nat} (x y z:Nat) (h:ltm c m x z):ltm c m x y\/ltm c m y z:=by
 rcases uL c x y m with p|p|p
 ·exact .inl p
 ·exact .inr (p.symm.ltm h)
 ·exact .inr (p.trans h)
theorem aNv {c:Nat->Nat} {m N:Nat} {a b:Nat->Nat} (A:∀i j,i<N->j<N->a i=a j->i=j) (E:∀i j,i<N->j<N->b i=b j->i=j)
  (F:∀i,i<N->∃j,j<N/\a j=b i) (G:∀i,i<N->∃j,j<N/\b j=a i)
  (d:∀i j,i<j->j<N->¬ltm c m (a j) (a i)) (z:∀i j,i<j->j<N->¬ltm c m (b j) (b i)):∀i,i<N->eqm c m (a i) (b i):=by
 intro i hi;have H:=XO (lt:=ltm c m) (fun _=>ltm.irrefl) XP A G d z i hi;have I:=XO (lt:=ltm c m) (fun _=>ltm.irrefl) XP E F z d i hi;rcases uL c (a i) (b i) m with p|p|p
 ·exact absurd p H
 ·exact p
 ·exact absurd p I
theorem Ord.weak {c:Nat->Nat} {n m:Nat} {o:Nat->Int} (h:Ord c n m o) {i j:Nat} (d:i<j) (z:j<n):¬ltm c m (o j).toNat (o i).toNat:=by
 intro k;rcases h.srt i j (aU _) d z with p|⟨p,_⟩
 ·exact p.asymm k
 ·exact k.not_eqm p.symm
theorem Ord.nat {c:Nat->Nat} {n m:Nat} {o:Nat->Int} (h:Ord c n m o) {i:Nat} (hi:i<n):o i=(((o i).toNat:Nat):Int)/\(o i).toNat<n:=by
 have:=h.rng i hi;omega
theorem Ord.inj {c:Nat->Nat} {n m:Nat} {o:Nat->Int} (h:Ord c n m o) {i j:Nat} (hi:i<n) (d:j<n) (e:(o i).toNat=(o j).toNat):i=j:=by
 apply aCc;intro z;have A:=(h.nat hi).1;have E:=(h.nat d).1;exact h.ne hi d z (by rw[A,E,e])
theorem aNw {n k x y:Nat} (d:x<n) (A:y<n) (h:(x+k)%n=(y+k)%n):x=y:=by
 have e:∀z,z<n->((z+k)%n+(n-k%n))%n=z:=by
  intro z E;have G:=jQ k (show 0<n by omega);rw[AO,<-AO];have F:z+k+(n-k%n)=z+n*(k/n+1):=by
   have:=NU k n;rw[Nat.mul_add,sE];omega
  rw[AO,F,aTo,kU E]
 rw[<-e x d,<-e y A,h]
theorem aNx {n k y:Nat} (d:y<n):∃x,x<n/\(x+k)%n=y:=by
 refine⟨(y+(n-k%n))%n,jQ _ (by omega),?_⟩;have A:=jQ k (show 0<n by omega);have z:y+(n-k%n)+k=y+n*(k/n+1):=by
  have:=NU k n;rw[Nat.mul_add,sE];omega
 rw[AO,z,aTo,kU d]
theorem aNy (s:ByteArray) (o:Nat->Int) (n:Nat) {i:Nat} (hi:i<n):∃b,(dM s o n)[i]? =some b/\b.toNat=bX s ((o i).toNat+(s.size-1)):=by
 refine⟨s.data.toList.getD (((o i).toNat+(s.size-1))%s.size) 0,?_,rfl⟩;unfold dM;rw[dY,List.getElem?_range hi];rfl
theorem aNz {x y:List UInt8} (E:x.length=y.length) (h:∀i,i<x.length->∃a b,x[i]? =some a/\y[i]? =some b/\a.toNat=b.toNat):x=y:=by
 apply jA;intro i
 by_cases hi:i<x.length
 ·obtain⟨a,b,d,z,A⟩:=h i hi;rw[d,z,qV.1 A]
 ·rw[dL (by omega),dL (by omega)]
theorem aN5 (s:List UInt8):∀j,j<s.length->∀i,i<j->(s.getD (nxt s i) 0).toNat<(s.getD (nxt s j) 0).toNat\/((s.getD (nxt s i) 0).toNat=(s.getD (nxt s j) 0).toNat/\nxt s i<nxt s j):=by
 intro j
 induction j with
 |zero=>intro _ i hi;omega
 |succ j z=>
  intro A i hi;obtain⟨E,d⟩:=aFx s j A;rcases bT i j with p|p
  ·rcases z (by omega) i p with q|⟨q,F⟩
   ·exact .inl (by omega)
   ·rcases bT (s.getD (nxt s j) 0).toNat (s.getD (nxt s (j+1)) 0).toNat with t|t
    ·exact .inl (by omega)
    ·have:=d (by omega);exact .inr ⟨by omega,by omega⟩
  ·have:i=j:=by omega
   subst this;rcases bT (s.getD (nxt s i) 0).toNat (s.getD (nxt s (i+1)) 0).toNat with t|t
   ·exact .inl t
   ·exact .inr ⟨by omega,d (by omega)⟩
theorem XW {c:Nat->Nat} {n:Nat} (d:Cyc c n) (z:0<n) {x y:Nat} (h:eqm c n x y) (t:Nat):c (x+t)=c (y+t):=
 (d.all z (m:=n+t+1) (by omega)).1.2 h t (by omega)
theorem XX {c:Nat->Nat} {n:Nat} (d:Cyc c n) (z:0<n) {x y:Nat} (h:eqm c n x y) (k:Nat):eqm c n (x+k) (y+k):=fun t _=>by
 rw[dZ,dZ];exact XW d z h _
theorem LY {c:Nat->Nat} {n:Nat} (d:Cyc c n) (x:Nat):eqm c n (x+n) x:=fun t _=>by
 rw[show x+n+t=x+t+n by omega,d]
section
variable {s:ByteArray} {o:Nat->Int}
theorem LZ (_h:Ord (bX s) s.size s.size o) {i:Nat} (hi:i<s.size):((dM s o s.size).getD i 0).toNat=bX s ((o i).toNat+(s.size-1)):=by
 obtain⟨b,d,z⟩:=aNy s o s.size hi;rw[fF,d];exact z
theorem aN6 (h:Ord (bX s) s.size s.size o):∀i,i<s.size->eqm (bX s) s.size ((o (nxt (dM s o s.size) i)).toNat+(s.size-1)) (o i).toNat:=by
 have A:=sX s;have O:=sY s o s.size;have z:∀{i},i<s.size->nxt (dM s o s.size) i<s.size:=fun{i} hi=>by have:=CK (dM s o s.size) i (by omega);omega
 intro i hi;rw[<-A.eqm,kU (h.nat hi).2];refine aNv (a:=fun i=>((o (nxt (dM s o s.size) i)).toNat+(s.size-1))%s.size) (b:=fun i=>(o i).toNat) (N:=s.size) ?_ (fun i j hi d e=>h.inj hi d e) ?_ ?_ ?_ (fun i j E d=>h.weak E d) i hi
 ·intro i j hi d e;have F:=aNw (h.nat (z hi)).2 (h.nat (z d)).2 e;exact aFl _ i j (by omega) (by omega) (h.inj (z hi) (z d) F)
 ·intro i hi;obtain⟨x,H,e⟩:=aNx (k:=s.size-1) (h.nat hi).2;obtain⟨j,d,I⟩:=h.onto H;have T:=QO (dM s o s.size) j (by omega);refine⟨jI (dM s o s.size) j,by omega,?_⟩;rw[aFk _ j (by omega),I,eG,e]
 ·intro i hi;obtain⟨j,d,e⟩:=h.onto (y:=((o (nxt (dM s o s.size) i)).toNat+(s.size-1))%s.size) (jQ _ (by omega));exact⟨j,d,by rw[e,eG]⟩
 ·intro i j E d;have J:0<s.size:=by omega
  have hi:i<s.size:=by omega
  have v:=aN5 (dM s o s.size) j (by omega) i E;rw[LZ h (z hi),LZ h (z d)] at v;have U:=h.nat (z hi);have V:=h.nat (z d);rw[A.ltm,<-(A.all J (m:=1+s.size) (by omega)).2,QW];rintro(⟨t,t1,_,L⟩|⟨t,G⟩)
  ·have:t=0:=by omega
   subst this;simp only[pH] at L;omega
  ·have F:=t 0 (by omega);simp only[pH] at F;rcases v with v|⟨_,v⟩
   ·omega
   ·rw[show(o (nxt (dM s o s.size) j)).toNat+(s.size-1)+1=(o (nxt (dM s o s.size) j)).toNat+s.size by omega,
     show(o (nxt (dM s o s.size) i)).toNat+(s.size-1)+1=(o (nxt (dM s o s.size) i)).toNat+s.size by omega] at G
    have M:=((LY A _).symm.ltm G).eqm (LY A _);exact h.weak v (z d) M
theorem aN7 (h:Ord (bX s) s.size s.size o) {i:Nat} (hi:i<s.size):eqm (bX s) s.size (o (nxt (dM s o s.size) i)).toNat ((o i).toNat+1):=by
 have d:=sX s;have z:0<s.size:=by omega
 have:=XX d z (aN6 h i hi) 1;rw[show(o (nxt (dM s o s.size) i)).toNat+(s.size-1)+1=(o (nxt (dM s o s.size) i)).toNat+s.size by omega] at this;exact(LY d _).symm.trans this
theorem aN8 (h:Ord (bX s) s.size s.size o) {k:Nat} (E:k<s.size):∀j,eqm (bX s) s.size (o (kJ (dM s o s.size) j k)).toNat ((o k).toNat+j):=by
 have d:=sX s;have z:0<s.size:=by omega
 have F:=sY s o s.size;intro j
 induction j with
 |zero=>exact eqm.refl _ _
 |succ j A=>
  have G:=sU (dM s o s.size) k (by omega) j;exact(aN7 h (by omega)).trans (XX d z A 1)
theorem aN9 (h:Ord (bX s) s.size s.size o) {k:Nat} (d:k<s.size):nF (dM s o s.size) k=rot s (o k).toNat:=by
 have z:=sY s o s.size;have A:=(h.nat d).2;have E:0<s.size:=by omega
 refine aNz (by rw[CN,yO _ _ (by omega),z]) (fun i hi=>?_);rw[CN,z] at hi;obtain⟨b,F,G⟩:=yP s A hi;refine⟨_,b,aFv _ _ _ (by omega),F,?_⟩;have H:=sU (dM s o s.size) k (by omega) (i+1);rw[LZ h (by omega),G,XW (sX s) E (aN8 h d (i+1)) (s.size-1),show(o k).toNat+(i+1)+(s.size-1)=(o k).toNat+i+s.size by omega,sX s]
end
end
section
open Go.RowKit Go Go.Shelf
theorem aQy (k:Nat) (x:BitVec 32):jL (k+1) x=if(jL k x).msb then(jL k x)<<<1^^^79764919#32 else(jL k x)<<<1:=rfl
theorem aAr (a:BitVec 32):bits .xor .u32 rA.max (a.toNat:Int)=((~~~ a).toNat:Int):=by
 have h:=DW (0xffffffff#32) a;have e:(((0xffffffff#32:BitVec 32).toNat:Nat):Int)=rA.max:=by decide
 rw[e] at h;rw[h];have:(0xffffffff#32)^^^a= ~~~ a:=by
  have:=BitVec.allOnes_xor (x:=a);exact this
 rw[this]
theorem aQz (i:Nat) (hi:i<256) (w:World):
  Calls Tryz.prog 131 #[.int .i64 (i:Int)] w fun e w'=>e=.returned (.int .u32 ((kN i).toNat:Int))/\w'=w:=by
 have T:=aKo i hi;have m0:rA.wrap (i:Int)=(i:Int):=by rw[vP];omega
 have a0:(i:Int)%4294967296=(i:Int):=by omega
 obtain⟨A,U⟩:∃A,A=BitVec.ofNat 32 i<<<24:=⟨_,rfl⟩;obtain⟨H,V⟩:∃H,H=A.toNat:=⟨_,rfl⟩;rw[<-U,<-V] at T;have a1:(i:Int)*16777216%4294967296=(H:Int):=by rw[<-T,vP]
 have HT:=hid (show kN i=jL 8 A by rw[U];rfl);have a2:=hid V;clear V U;go_enter Tryz.func131,Tryz.ntmps131;go_wp2_with fail
 go_loopg [3,7] 8 (fun g s3 s7 wr=>∃j X:Nat,j<=8/\g=8-j/\s7=.int .i64 (j:Int)/\s3=.int .u32 (X:Int)/\Hid (X=(jL j A).toNat)/\wr=w)
 case atStart=>exact⟨0,H,by omega,rfl,rfl,rfl,a2,rfl⟩
 case round=>
  obtain⟨j,X,hj,I,rfl,rfl,HX,rfl⟩:=hrel;have HG:=hid I;clear I T a1 m0 a0
  by_cases a3:j<8
  ·have t1:decide ((j:Int)<8)=true:=decide_eq_true (by omega);obtain⟨x,J⟩:∃x,x=jL j A:=⟨_,rfl⟩;have F:=HX.out;rw[<-J] at F;have d:=aQy j A;rw[<-J] at d;have e1:=aKq x;have e2:=WC x;obtain⟨y,L⟩:∃y,y=x<<<1:=⟨_,rfl⟩;obtain⟨Y,G⟩:∃Y,Y=y.toNat:=⟨_,rfl⟩;have e3:=WE y;obtain⟨z,M⟩:∃z,z=y^^^79764919#32:=⟨_,rfl⟩;obtain⟨Z,O⟩:∃Z,Z=z.toNat:=⟨_,rfl⟩;rw[<-F] at e1;rw[<-F,<-L,<-G] at e2;rw[<-G,<-M,<-O] at e3;rw[<-L,<-M] at d;have a4:(X:Int)*2%4294967296=(Y:Int):=by rw[<-e2,vP]
   have HY:=hid G;have HZ:=hid O
   by_cases E:x.msb=true
   ·rw[if_pos E] at e1;rw[if_pos E] at d;have HS:=hid d;clear J F L G M O d E;go_wp2_with fail;have I:=HG.out
    go_roundg (8-(j+1))
    case measure=>omega
    case rel=>exact⟨j+1,Z,by omega,rfl,by go_num,rfl,hid (by rw[HS.out];exact HZ.out),rfl⟩
   ·rw[if_neg E] at e1;rw[if_neg E] at d;have HS:=hid d;clear J F L G M O d E e3;go_wp2_with fail;have I:=HG.out
    go_roundg (8-(j+1))
    case measure=>omega
    case rel=>exact⟨j+1,Y,by omega,rfl,by go_num,rfl,hid (by rw[HS.out];exact HY.out),rfl⟩
  ·have t1:decide ((j:Int)<8)=false:=decide_eq_false (by omega);have ej:j=8:=by omega
   subst ej;go_wp2_with fail;go_ret;exact⟨fX (by rw[HT.out,<-HX.out]),rfl⟩
def fT (f:Nat->Nat):List Value:=(dG 256).map fun c=>.int .u32 (f c:Int)
theorem EZ (f:Nat->Nat) (c:Nat) (h:c<256):(fT f)[c]? =some (.int .u32 (f c:Int)):=by simp[fT,h]
theorem aQ0 (f f':Nat->Nat) (c:Nat) (v:Nat) (h:∀d,f' d=if d=c then v else f d):(fT f).set c (.int .u32 (v:Int))=fT f':=by
 apply jA;intro j
 by_cases z:j<256
 ·by_cases e:c=j
  ·subst e;simp[fT,z,h]
  ·rw[List.getElem?_set_ne e,EZ f j z,EZ f' j z,h,if_neg (fun h=>e h.symm)]
 ·rw[dL (by simp[fT];omega),dL (by simp[fT];omega)]
theorem aAs:Tryz.zeroCells177=(fT (fun _=>0)).toArray:=by kernel_rfl
theorem aQ1 (f:Nat->Nat):(fT f).toArray.size=256:=by simp[fT]
theorem aAt (f:Nat->Nat):(Tryz.prog.info? 177).map (·.size)=some (fT f).toArray.size:=by rw[aQ1];kernel_rfl
theorem aAu:Tryz.prog.underlying 177=some (.array 256 34):=by kernel_rfl
theorem aAv {w:World} {b:Nat} {e:TypeId} {l:List Value} (h:Arr w b e l) (d:l.length=256) (f:Nat->Nat):
  (storeCells ⟨b,0,none⟩ (fT f)).run Tryz.prog w=.ok () (w.setRow b (fT f).toArray):=by
 have z:(fT f).length=256:=by simp[fT]
 have A:=run_storeCells_from (P:=Tryz.prog) b e (fT f) 0 l.toArray w h (by simp[d,z]) (fun v E=>by obtain⟨c,_,rfl⟩:=dU.1 E;rfl);rw[A]
 congr 2
def qS (k c:Nat):Nat:=if c<k then(kN c).toNat else 0
theorem aQ2 (k c:Nat):qS (k+1) c=if c=k then(kN k).toNat else qS k c:=by
 unfold qS
 by_cases h:c=k
 ·subst h;simp
 ·rw[if_neg h]
  by_cases d:c<k
  ·rw[if_pos d,if_pos (by omega)]
  ·rw[if_neg d,if_neg (by omega)]
theorem aQ3 (w:World):
  Calls Tryz.prog 130 #[.func (.func 131) #[] #[]] w fun e w'=>e=.returned (.agg (fT (fun c=>(kN c).toNat)).toArray)/\Below w.heap.size w w':=by
 go_enter Tryz.func130,Tryz.ntmps130;go_wp2_with fail
 go_loopg [3,4] 256 (fun H _s3 I wr=>∃k:Nat,k<=256/\H=256-k/\I=.int .i64 k/\Arr wr w.heap.size 177 (fT (qS k))/\Below w.heap.size w wr)
 case atStart=>
  refine⟨0,aU _,rfl,rfl,?_,(aB _ _).alloc (aA _) _⟩;rw[aAs,show qS 0=fun _=>0 from by funext c;simp[qS]];exact Arr.new w _ _
 case round=>
 obtain⟨k,O,z,rfl,d,A⟩:=hrel;have J:=hid z;clear z
 by_cases E:k<256
 ·have t1:decide ((k:Int)<256)=true:=decide_eq_true (by omega);have T:=d.cell (EZ (qS k) k E);have U:=d.free k;go_wp2_with fail;refine(aQz k E _).mono ?_;rintro e V ⟨rfl,rfl⟩;have Y:(k:Int)<256:=by omega
  go_wp2_with fail;have z:=J.out
  go_roundg (256-(k+1))
  case measure=>omega
  case rel=>
   refine⟨k+1,by omega,rfl,by go_num,?_,A.setCell (p:=⟨w.heap.size,k,none⟩) (aA _) _⟩;have:=d.set k (.int .u32 ((kN k).toNat:Int));rwa[aQ0 _ (qS (k+1)) _ _ (aQ2 k)] at this
 ·have L:k=256:=by omega
  subst L;have t1:decide ((256:Int)<256)=false:=by decide
  have F:fT (qS 256)=fT (fun c=>(kN c).toNat):=by
   unfold fT;apply qW;intro c G;rw[jF] at G;unfold qS;rw[if_pos G]
  rw[F] at d;clear F;go_wp2_with fail;refine wp_load_row 177 (.tmp 2) rfl w.heap.size rfl _ _ (0,0) (.array 256 34) d aAu rfl (aAt _) ?_;have Z:=aAv d (by simp[fT]) (fun c=>(kN c).toNat);go_wp2_with fail;have M:Arr (wr.setRow w.heap.size (fT (fun c=>(kN c).toNat)).toArray) w.heap.size 177 (fT (fun c=>(kN c).toNat)):=setRow_heap wr w.heap.size _ _ 177 (0,0) d;refine bodyPost_ret (results_cell_row rfl _ _ w.heap.size _ _ (0,0) (.array 256 34) rfl M aAu rfl (aAt _)) rfl ?_;exact⟨rfl,zB A _ (aA _) _⟩
theorem aQ4 (c:BitVec 32) (s:ByteArray) (w:World) (hs:s.size<=140737488355328):
  Calls Tryz.prog 64 #[.int .u32 (c.toNat:Int),.string s] w fun e w'=>e=.returned (.int .u32 ((~~~ kQ (~~~ c) s.data.toList).toNat:Int))/\Below w.heap.size w w':=by
 have HL:=hid (show s.data.toList.length=s.size by simp);have H:=aAr c;obtain⟨C,hC⟩:∃C,C=c.toNat:=⟨_,rfl⟩;obtain⟨D,I⟩:∃D,D=(~~~ c).toNat:=⟨_,rfl⟩;rw[<-hC] at H ⊢;rw[<-I] at H;have HD:=hid I;obtain⟨A,a2⟩:∃A,A= ~~~ c:=⟨_,rfl⟩;rw[<-a2] at HD ⊢;clear hC I a2;go_enter Tryz.func64,Tryz.ntmps64;go_wp2_with fail;refine(aQ3 _).mono ?_;rintro e d ⟨rfl,J⟩;have L:Arr (d.alloc (.cells Tryz.zeroCells177 177)) d.heap.size 177 (fT (fun _=>0)):=by rw[aAs];exact Arr.new d _ _
 have a4:=aAv L (by simp[fT]) (fun c=>(kN c).toNat);have a3:Arr ((d.alloc (.cells Tryz.zeroCells177 177)).setRow d.heap.size (fT (fun c=>(kN c).toNat)).toArray) d.heap.size 177 (fT (fun c=>(kN c).toNat)):=setRow_heap (d.alloc (.cells Tryz.zeroCells177 177)) d.heap.size _ _ 177 (0,0) L;have a5:Below w.heap.size w ((d.alloc (.cells Tryz.zeroCells177 177)).setRow d.heap.size (fT (fun c=>(kN c).toNat)).toArray):=zB (J.alloc J.size _) _ J.size _;go_wp2_with fail
 generalize (d.alloc (.cells Tryz.zeroCells177 177)).setRow d.heap.size (fT (fun c=>(kN c).toNat)).toArray=w2 at*
 have a6:=hid (fun c (hc:c<256)=>a3.cell (EZ (fun c=>(kN c).toNat) c hc));clear a4 L a3;go_wp2_with fail
 go_loopg [0,6,12] s.size (fun g s0 _s6 a7 wr=>∃k X:Nat,k<=s.size/\g=s.size-k/\a7=.int .i64 (k:Int)/\s0=.int .u32 (X:Int)/\Hid (X=(kQ A (s.data.toList.take k)).toNat)/\wr=w2)
 case atStart=>exact⟨0,D,aU _,rfl,rfl,rfl,HD,rfl⟩
 case round=>
  obtain⟨k,X,hk,M,rfl,rfl,O,rfl⟩:=hrel;have HG:=hid M;clear M H
  by_cases a8:k<s.size
  ·have t1:decide ((k:Int)<(s.size:Int))=true:=decide_eq_true (by omega);have U:=s[k].toNat_lt;have V:=hid (WF A s.data.toList k s[k] (eW s k a8));obtain⟨x,F⟩:∃x,x=kQ A (s.data.toList.take k):=⟨_,rfl⟩;rw[<-F] at O V;have hX:=O.out;have G:=aIv x s[k].toNat U;have e1:=aKn x;have e2:=aKp x;have a0:(x>>>24).toNat<256:=by
    have:(x>>>24).toNat=x.toNat/16777216:=by simp[Nat.shiftRight_eq_div_pow]
    have:=x.isLt;omega
   obtain⟨y,hy⟩:∃y,y=x<<<8:=⟨_,rfl⟩;obtain⟨Y,hY⟩:∃Y,Y=y.toNat:=⟨_,rfl⟩;obtain⟨Q,hQ⟩:∃Q,Q=(x>>>24).toNat:=⟨_,rfl⟩;rw[<-hX] at e1 e2;rw[<-hy,<-hY] at e1;rw[<-hQ] at e2 a0;rw[<-hy,<-hQ] at G;have e3:(Q:Int)%256=(Q:Int):=by omega
   have e6:(X:Int)/16777216=(Q:Int):=by omega
   clear e2;have e4:=u8_xor_nat Q s[k].toNat a0 U;obtain⟨R,hR⟩:∃R,R=Q^^^s[k].toNat:=⟨_,rfl⟩;have a9:R<256:=by rw[hR];exact Nat.xor_lt_two_pow (n:=8) a0 U
   rw[<-hR] at e4 G;have c1:=a6.out R a9;have b0:(R:Int)<256:=by omega
   obtain⟨t,ht⟩:∃t,t=kN R:=⟨_,rfl⟩;have e5:=DW y t;rw[<-ht] at c1 G;obtain⟨T,hT⟩:∃T,T=t.toNat:=⟨_,rfl⟩;obtain⟨z,hz⟩:∃z,z=y^^^t:=⟨_,rfl⟩;obtain⟨Z,E⟩:∃Z,Z=z.toNat:=⟨_,rfl⟩;rw[<-hT] at c1;rw[<-hY,<-hT,<-hz,<-E] at e5;have HZ:=hid (show Z=(kQ A (s.data.toList.take (k+1))).toNat by rw[V.out,G,E,hz]);have b1:(X:Int)*256%4294967296=(Y:Int):=by rw[<-e1,vP]
   clear F hX G hy hY hQ hR ht hT hz E V;go_wp2_with fail;have M:=HG.out
   go_roundg (s.size-(k+1))
   case measure=>omega
   case rel=>exact⟨k+1,Z,by omega,rfl,by go_num,rfl,HZ,rfl⟩
  ·have t1:decide ((k:Int)<(s.size:Int))=false:=decide_eq_false (by omega);obtain⟨x,F⟩:∃x,x=kQ A (s.data.toList.take k):=⟨_,rfl⟩;have a1:=O.out;rw[<-F] at a1;have x2:=aAr x;rw[<-a1] at x2;obtain⟨Z,E⟩:∃Z,Z=(~~~ x).toNat:=⟨_,rfl⟩;rw[<-E] at x2;have HF:=hid (show((Z:Nat):Int)=((~~~ kQ A s.data.toList).toNat:Int) by rw[E,F,cS (by rw[HL.out];omega)]);clear F a1 E;go_wp2_with fail;go_ret;exact⟨fX HF.out,a5⟩
theorem FA (s:ByteArray) (w:World) (z:s.size<=140737488355328):
  Calls Tryz.prog 20 #[.string s] w fun e w'=>e=.returned (.int .u32 ((fG s.data.toList).toNat:Int))/\Below w.heap.size w w':=by
 have d:=aQ4 (0#32) s w z;have A:(((0#32:BitVec 32).toNat:Nat):Int)=0:=rfl;have E:(~~~ kQ (~~~ (0#32)) s.data.toList)=fG s.data.toList:=rfl;rw[A,E] at d;go_enter Tryz.func20,Tryz.ntmps20;go_wp2_with fail;refine d.mono ?_;rintro e G ⟨rfl,F⟩;go_wp2_with fail;go_ret;exact⟨rfl,F⟩
end
end Go.Proofs.YtiifmcicleljjaaGreatDoor
