/- The walks and the plain laws, part 10. -/
import Derived.Test.YtiifmcicleljjaaGreatDoorT9
set_option maxRecDepth 100000
set_option maxHeartbeats 12800000
set_option linter.unusedVariables false
open Array renaming replicate_succ->lL,replicate_zero->lM
open Bool renaming or_false->xK
open Go renaming CallsIn->mD,bodyPost_ret->gJ,callsD_of_wpS->FY,callsIn_of_wp->tW,results_cell_row->tR,run_underlying->sI,wpAnyH_ready->fL,wp_load_row->AR
open Go.Act renaming put->aJ
open Go.AllReadyH renaming cons->fA,nil->fM
open Go.Calls renaming quiet_of_same->OM
open Go.Exit renaming thenS->GA
open Go.Fence renaming wide->eA
open Go.Instr renaming index->tV,makeFunc->vJ,typeAssert->BA
open Go.IntKind renaming i64->aI,u64->fU,u8->pX,wrap_i64->aM,wrap_u64->gF,wrap_u8->xQ
open Go.Proofs renaming enters_of->fN
open Go.Result renaming andThen->jB
open Go.RowKit.Below renaming refl->aB
open Go.Value renaming int->bO,slice->lK
open Go.World renaming cell?_setCell_other->iQ,size_alloc->fV
open Int renaming toNat_natCast->eG
open List renaming append_assoc->cF,append_nil->eE,append_toArray->lO,cons_append->gE,countP_le_length->xR,filter_cons_of_neg->aTp,filter_nil->NP,getD_eq_getElem?_getD->aV,getElem?_cons_zero->aP,getElem?_toArray->aR,length_append->aL,length_cons->cR,length_map->bJ,length_nil->cX,length_take->aX,map_append->fI,mem_of_getElem?->cH,nil_append->iG,push_toArray->lN,range->dG,setIfInBounds_toArray->aK,set_cons_succ->aG,set_cons_zero->aH,size_toArray->mY,take_length->kE,take_of_length_le->cS
open Nat renaming add_zero->pH,le_refl->aA,le_succ->pI,le_trans->aW,lt_of_lt_of_le->dR,lt_or_ge->bT,pow_le_pow_right->jC,reduceAdd->lZ,reduceSub->mZ,zero_le->aU
open Option.some renaming inj->bW,injEq->iP
open UInt8 renaming ofNat->eK,toNat_ofNat'->nP
namespace Go.Proofs.YtiifmcicleljjaaGreatDoor
section
open Go.RowKit Go Go.Shelf
theorem KP {l:List Int} {s:List UInt8} {a i:Nat} (h:aO s.length (a:Int) (bG l i)=0):gZ l s a i↔aE s (a:Int) (bG l i)=fO l i:=by
 have d:=fQ h;unfold gZ aE;rw[if_pos h,eG];exact⟨fun q=>q.2,fun q=>⟨by omega,q⟩⟩
theorem aI9 {l:List Int} {s:List UInt8} {a i:Nat} (h:aO s.length (a:Int) (bG l i)≠0):¬gZ l s a i:=fun q=>h (by
 unfold aO;have:=q.1;rw[if_neg (by omega),if_neg (by omega)])
theorem aJa (v:Value) (l:List Int) (s:ByteArray) (a:Nat) (w:World) (hr:RdI w v l) (G:bL l=0) (hs:s.size<=1000000) (ha:a<=100000000):
  Calls Tryz.prog 179 #[v,.string s,.int .i64 (a:Int)] w fun e w'=>e=.returned (.tuple #[.int .i64 (bZ l s.data.toList (a:Int)).1,.int .i64 (bZ l s.data.toList (a:Int)).2.1,.int .i64 (bZ l s.data.toList (a:Int)).2.2])/\Below w.heap.size w w':=by
 have H:=eH G;have a8:=hid (fun i (h:i<l.length)=>(jG H.1 h));have a9:=hid (fun i (h:i<l.length)=>uB (s:=s.data.toList) (a:=a) (i:=i) G h);have b0:=hid (uD (s:=s.data.toList) (a:=a) G);have a3:=hid H.1.2.2;have b4:=aH5 H.1.2.2;have b5:=H.1.2.1;have hL:s.data.toList.length=s.size:=by simp
 have a4:=hid hL;clear H hL;have t0:decide ((a:Int)<0)=false:=decide_eq_false (by omega);go_enter Tryz.func179,Tryz.ntmps179;go_wp2_with fail;refine(SZ _ l _ hr).mono ?_;rintro e w1 ⟨uw,rfl,I,-,O⟩;obtain⟨bw,b6,rfl,a5⟩:=I G;rw[G];have a6:=hr.below O;clear hr I;go_wp2_with fail
 go_loopg [11,12,13] l.length (fun g b1 _s12 _s13 wr=>∃k:Nat,k<=l.length/\g=l.length-k/\b1=.int .i64 (k:Int)/\Hid (∀i,i<k->¬gZ l s.data.toList a i)/\wr=w1)
 case atStart=>exact⟨0,aU _,rfl,rfl,hid (fun i hi=>by omega),rfl⟩
 case round=>
  obtain⟨k,hk,T,rfl,a0,rfl⟩:=hrel;have HG:=hid T;clear T
  by_cases U:k<l.length
  ·have t1:decide ((k:Int)<(l.length:Int))=true:=decide_eq_true (by omega);have d0:=a5.cell (uR _ _ k U);have d1:=a5.cell (uS _ _ k U);obtain⟨hy1,hy2,_⟩:=a8.out k U;unfold qP at d0 d1;have d:=KP (l:=l) (s:=s.data.toList) (a:=a) (i:=k);have A:=aI9 (l:=l) (s:=s.data.toList) (a:=a) (i:=k);have J:=a9.out k U;rw[a4.out] at d A;obtain⟨n,hn⟩:∃n,n=bG l k:=⟨_,rfl⟩;obtain⟨W,I⟩:∃W,W=fO l k:=⟨_,rfl⟩;rw[<-hn] at d A J d0 hy1 hy2;rw[<-I] at d1 d;clear hn I;have L:=fun W=>oP s (a:Int) n W hs (by omega) (by omega) (by omega)
   obtain⟨E,a7⟩:∃E,E=aO s.size (a:Int) n:=⟨_,rfl⟩;obtain⟨V,hV⟩:∃V,V=aE s.data.toList (a:Int) n:=⟨_,rfl⟩;rw[<-a7] at d A L;rw[<-hV] at d L;clear a7 hV
   by_cases Y:E=0
   ·subst Y;have d:=d rfl;clear A
    by_cases a1:V=W
    ·subst a1;have b2:=hid (J (d.2 rfl));have m1:aI.wrap ((a:Int)+(n:Int))=(a:Int)+(n:Int):=by rw[aM];omega
     clear J d;go_wp2_with fail;refine(L _).mono ?_;rintro e Z ⟨rfl,rfl⟩;go_wp2_with fail
     go_quiet (fail)
     all_goals go_wp2_with fail
     go_ret3
     exact⟨by rw[b2.out];rfl,iI O _⟩
    ·have u1:decide ((V:Int)=(W:Int))=false:=decide_eq_false (by omega);have u2:((V:Int)==(W:Int))=false:=by rw[beq_eq_false_iff_ne];omega
     have u3:(V==W)=false:=by simpa using a1
     have a2:=hid (fun q=>a1 (d.1 q));clear J d;go_wp2_with fail;refine(L _).mono ?_;rintro e Z ⟨rfl,rfl⟩;go_wp2_with fail;have T:=HG.out
     go_roundg (l.length-(k+1))
     case measure=>omega
     case rel=>exact⟨k+1,by omega,rfl,by go_num,hid (fun i hi=>by
      rcases bT i k with h|h
      ·exact a0.out i h
      ·rw[show i=k by omega];exact a2.out),rfl⟩
   ·have u1:decide (E=0)=false:=decide_eq_false Y;have u2:(E==0)=false:=by simpa using Y
    have a2:=hid (A Y);clear J d A;go_wp2_with fail;refine(L _).mono ?_;rintro e Z ⟨rfl,rfl⟩;go_wp2_with fail;have T:=HG.out
    go_roundg (l.length-(k+1))
    case measure=>omega
    case rel=>exact⟨k+1,by omega,rfl,by go_num,hid (fun i hi=>by
      rcases bT i k with h|h
      ·exact a0.out i h
      ·rw[show i=k by omega];exact a2.out),rfl⟩
  ·have t1:decide ((k:Int)<(l.length:Int))=false:=decide_eq_false (by omega);have b3:k=l.length:=by omega
   subst b3;have z:=b0.out a0.out;rw[a4.out] at z;obtain⟨M,hM⟩:∃M,M=kF l:=⟨_,rfl⟩;obtain⟨D,hD⟩:∃D,D=8*(s.size:Int)-M:=⟨_,rfl⟩;have m1:aI.wrap (8*(s.size:Int))=8*(s.size:Int):=by rw[aM];omega
   have m2:aI.wrap D=D:=by rw[aM];omega
   have m3:8*(s.size:Int)-M=D:=by omega
   rw[<-hM,m3] at z;have HM:=hid hM
   by_cases F:(a:Int)>D
   ·rw[if_pos F] at z;have HF:=hid z;have u1:decide ((a:Int)>D)=true:=decide_eq_true F;have u2:decide (D<(a:Int))=true:=decide_eq_true F;clear z hM hD;go_wp2_with fail;refine(TA _ l _ a6 a3.out).mono ?_;rintro e Z ⟨rfl,rfl⟩;rw[<-HM.out];go_wp2_with fail
    go_ret3
    exact⟨by rw[HF.out];rfl,O⟩
   ·rw[if_neg F] at z;have HF:=hid z;have u1:decide ((a:Int)>D)=false:=decide_eq_false F;have u2:decide (D<(a:Int))=false:=decide_eq_false F;clear z hM hD;go_wp2_with fail;refine(TA _ l _ a6 a3.out).mono ?_;rintro e Z ⟨rfl,rfl⟩;rw[<-HM.out];go_wp2_with fail
    go_ret3
    exact⟨by rw[HF.out];rfl,O⟩
theorem LH {s:List UInt8} {at':Int} {k:Nat} {e:Int} (d:e≠0) (A:k<=16) (h:(cJ s at' k).2.2.2=e):cG s at'=([],0,e):=by
 have z:=uY (s:=s) (at':=at') (k:=k) (by rw[h];exact d) (16-k);rw[show k+(16-k)=16 by omega] at z;unfold cG;simp only
 rw[z,if_pos (by rw[h];exact d),h]
theorem VR (s:List UInt8) (at':Int):cJ s at' 0=([],at'+16,aE s at' 16==0,aO s.length at' 16):=rfl
theorem VS {s:List UInt8} {at':Int} {k:Nat} {o:List UInt8} {d:Int} {z:Bool} (h:cJ s at' k=(o,d,z,0)) (A:(aE s at' 16).testBit (15-k)=false):cJ s at' (k+1)=(o,d,z,0):=by
 unfold cJ;simp only
 rw[h,if_neg (by simp),A,if_neg (by decide)]
theorem VT {s:List UInt8} {at':Int} {k:Nat} {o:List UInt8} {d:Int} {z:Bool} (h:cJ s at' k=(o,d,z,0)) (A:(aE s at' 16).testBit (15-k)=true) (E:aO s.length d 16≠0):(cJ s at' (k+1)).2.2.2=aO s.length d 16:=by
 unfold cJ;simp only
 rw[h,if_neg (by simp),A,if_pos rfl,if_pos E]
theorem VU {s:List UInt8} {at':Int} {k:Nat} {o:List UInt8} {d:Int} {z:Bool} (h:cJ s at' k=(o,d,z,0)) (A:(aE s at' 16).testBit (15-k)=true) (E:aO s.length d 16=0):
  cJ s at' (k+1)=(o++jS (aE s d 16) k 16,d+16,z||aE s d 16==0,0):=by
 unfold cJ;simp only
 rw[h,if_neg (by simp),A,if_pos rfl,if_neg (by rw[E];simp)]
theorem VW {s:List UInt8} {at':Int} {o:List UInt8} {d:Int} {z:Bool} (h:cJ s at' 16=(o,d,z,0)):cG s at'=if z then([],0,3) else(o,d,0):=by
 unfold cG;simp only
 rw[h,if_neg (by simp)]
theorem VX (v k i:Nat):jS v k (i+1)=jS v k i++if v.testBit (15-i) then[eK (16*k+i)] else[]:=rfl
theorem aJ5 (s:ByteArray) (p:Int) (w:World) (hs:s.size<=1000000) (c1: -9223372036854775808<=p) (c2:p<=9223372036854775807):
  Calls Tryz.prog 54 #[.string s,.int .i64 p] w fun e w'=>e=.returned (.tuple #[.string (mkS (cG s.data.toList p).1),.int .i64 (cG s.data.toList p).2.1,.int .i64 (cG s.data.toList p).2.2])/\Below w.heap.size w w':=by
 have hL:s.data.toList.length=s.size:=by simp
 have J:=VR s.data.toList p;have a1:=fun W=>oP s p 16 W hs (by decide) c1 c2
 have b3:=iA s.data.toList p 16;rw[hL] at J
 by_cases L:aO s.size p 16=0
 rotate_left
 ·have hU:=LH (k:=0) L (by omega) (by rw[J]);rw[hU];have t1:(aO s.size p 16 != 0)=true:=by rw[bne_iff_ne];exact L
  have t2:(aO s.size p 16==0)=false:=by rw[beq_eq_false_iff_ne];exact L
  generalize aO s.size p 16=E at*
  generalize aE s.data.toList p 16=F at*
  clear hU J L hL b3;go_enter Tryz.func54,Tryz.ntmps54;go_wp2_with fail;refine(a1 _).mono ?_;rintro e G ⟨rfl,rfl⟩;go_wp2_with fail
  go_ret3
  exact⟨rfl,aB _ _⟩
 ·have c3:=fQ L;rw[L] at J a1;obtain⟨F,hF⟩:∃F,F=aE s.data.toList p 16:=⟨_,rfl⟩;rw[<-hF] at J a1 b3;have d9:F<18446744073709551616:=by omega
  have HF:=hid hF;have HZ:=hid J;have HL:=hid hL;obtain⟨b4,b5⟩:∃q:Int,q=p+16:=⟨_,rfl⟩;have m0:aI.wrap (p+16)=b4:=by rw[aM];omega
  have HP:=hid b5;have e0:0<=p/\p<=8000000:=by omega
  obtain⟨T0,a6⟩:∃T0:Bool,T0=(F==0):=⟨_,rfl⟩;have t0:((F:Int)==0)=T0:=by
   rw[a6]
   by_cases h:F=0
   ·rw[h];rfl
   ·rw[beq_eq_false_iff_ne.2 h,beq_eq_false_iff_ne];omega
  have c4:=hid a6;clear hF J hL c3 b5 a6 L;go_enter Tryz.func54,Tryz.ntmps54;go_wp2_with fail;refine(a1 _).mono ?_;rintro e G ⟨rfl,rfl⟩;go_wp2_with fail
  go_loopg [9,10,11,12,13,14,15] 16 (fun g s9 a7 c5 c6 _s13 _s14 _s15 wr=>∃(k:Nat) (o:List UInt8) (d:Int) (H:Bool),k<=16/\g=16-k/\c6=.int .i64 (k:Int)/\s9=.int .i64 d/\c5=.bool H/\Hid (cJ s.data.toList p k=(o,d,H,0))/\OwB wr G.heap.size a7 o/\Below G.heap.size G wr)
  case atStart=>exact⟨0,[],b4,T0,by omega,rfl,rfl,rfl,rfl,hid (by rw[HZ.out,HP.out,c4.out]),Ow.nil _ _ _,aB _ _⟩
  case round=>
   obtain⟨k,o,d,H,hk,z,rfl,rfl,rfl,HU,a2,O⟩:=hrel;have HG:=hid z;clear z;have e1:=O.size;have a3:=yE s.data.toList p k;rw[HU.out] at a3;have e2:o.length<=256:=by have:=a3.1;simp only at this;omega
   have c7:=a3.2 rfl;simp only at c7
   by_cases e3:k<16
   ·have t1:decide ((k:Int)<16)=true:=decide_eq_true (by omega);obtain⟨q,hq⟩:∃q,q=15-k:=⟨_,rfl⟩;have m1:aI.wrap (15-(k:Int))=(q:Int):=by rw[aM];omega
    have e7:(15:Int)-(k:Int)=(q:Int):=by omega
    have m2:min q 64=q:=by omega
    have e4:=yH F q;obtain⟨b,M⟩:∃b,b=F.testBit q:=⟨_,rfl⟩;rw[<-M] at e4;have HB:=hid (show(aE s.data.toList p 16).testBit (15-k)=b by rw[<-HF.out,<-hq,M]);clear hq M a3
    cases b with
    |false=>
     have T:=hid (VS HU.out HB.out);have e5:((false.toNat:Nat):Int)=0:=rfl;rw[e5] at e4;go_wp2_with fail;have z:=HG.out
     go_roundg (16-(k+1))
     case measure=>omega
     case rel=>exact⟨k+1,o,d,H,by omega,rfl,by go_num,rfl,rfl,T,a2,O⟩
    |true=>
     have e5:((true.toNat:Nat):Int)=1:=rfl;rw[e5] at e4;have a4:=fun W=>oP s d 16 W hs (by decide) (by omega) (by omega)
     by_cases A:aO s.size d 16=0
     ·have T:=hid (VU HU.out HB.out (by rw[HL.out];exact A));have c8:=fQ A;have hV:=iA s.data.toList d 16;have a8:=CE (aE s.data.toList d 16) k;rw[A] at a4;obtain⟨V,b6⟩:∃V,V=aE s.data.toList d 16:=⟨_,rfl⟩;rw[<-b6] at a4 T hV a8;have e8:V<18446744073709551616:=by omega
      obtain⟨b7,b8⟩:∃q:Int,q=d+16:=⟨_,rfl⟩;have m3:aI.wrap (d+16)=b7:=by rw[aM];omega
      rw[<-b8] at T;obtain⟨T1,a9⟩:∃T1:Bool,T1=(V==0):=⟨_,rfl⟩;have u1:((V:Int)==0)=T1:=by
       rw[a9]
       by_cases h:V=0
       ·rw[h];rfl
       ·rw[beq_eq_false_iff_ne.2 h,beq_eq_false_iff_ne];omega
      rw[<-a9] at T;obtain⟨I,b9⟩:∃I,I=16*k:=⟨_,rfl⟩;have m4:aI.wrap (16*(k:Int))=(I:Int):=by rw[aM];omega
      have m5:16*(k:Int)=(I:Int):=by omega
      have c9:=hid b9;have e9:I<=240:=by omega
      have d0:=hid a8;clear b9 a9 b8 b6 c8 A a8;go_wp2_with fail;refine(a4 _).mono ?_;rintro e w2 ⟨rfl,rfl⟩;go_upto_region 15 with fail
      go_cut [11] (fun d1 wx=>d1=.bool (H||T1)/\wx=w2)
      case first=>
       cases H with
       |true=>go_wp2_with fail;go_meet;exact⟨rfl,rfl⟩
       |false=>go_wp2_with fail;go_meet;exact⟨rfl,rfl⟩
      case rest=>
       obtain⟨rfl,rfl⟩:=hcut;go_wp2_with fail
       go_loopg [10,15] 16 (fun g a7 d2 wx=>∃i:Nat,i<=16/\g=16-i/\d2=.int .i64 (i:Int)/\OwB wx G.heap.size a7 (o++jS V k i)/\Below G.heap.size G wx)
       case atStart=>exact⟨0,by omega,rfl,rfl,by rw[show jS V k 0=[] from rfl,eE];exact a2,O⟩
       case round=>
        obtain⟨i,hi,z,rfl,b0,a5⟩:=hrel;have c0:=hid z;clear z e4
        by_cases f0:i<16
        ·have u2:decide ((i:Int)<16)=true:=decide_eq_true (by omega);obtain⟨U,hq2⟩:∃q,q=15-i:=⟨_,rfl⟩;have m6:aI.wrap (15-(i:Int))=(U:Int):=by rw[aM];omega
         have f1:(15:Int)-(i:Int)=(U:Int):=by omega
         have m7:min U 64=U:=by omega
         have e6:=yH V U;have a0:=hid (VX V k i);rw[<-hq2] at a0;have f2:=d0.out i
         cases Y:V.testBit U with
         |false=>
          rw[Y,show((false.toNat:Nat):Int)=0 from rfl] at e6;rw[Y] at a0;clear Y hq2;go_wp2_with fail;have z:=c0.out
          go_roundg (16-(i+1))
          case measure=>omega
          case rel=>exact⟨i+1,by omega,rfl,by go_num,by rw[a0.out,if_neg (by decide),eE];exact b0,a5⟩
         |true=>
          rw[Y,show((true.toNat:Nat):Int)=1 from rfl] at e6;rw[Y] at a0;obtain⟨c,hc⟩:∃c:Nat,c=I+i:=⟨_,rfl⟩;have m8:aI.wrap ((I:Int)+(i:Int))=(c:Int):=by rw[aM];omega
          have f3:(I:Int)+(i:Int)=(c:Int):=by omega
          obtain⟨b,M⟩:∃b:UInt8,b=eK c:=⟨_,rfl⟩;have b1:b.toNat=c:=by rw[M,nP];omega
          have m9:pX.wrap (c:Int)=(b.toNat:Int):=by rw[b1,xQ];omega
          have f4:(c:Int)%256=(b.toNat:Int):=by rw[b1];omega
          have d3:=hid (show eK (16*k+i)=b by rw[M,hc,c9.out]);have d4:=a5.size;clear Y hq2 hc M b1;go_wp2_with (at_builtin;refine yZ rfl _ _ rfl G.heap.size _ _ rfl (Ow.alloc b0 _) wr.heap.size b rfl ?_ ?_ ?_ ?_;(exact bS _ _ _);(rw[aL];omega);(simp;omega);intro v' w3 d5 hB f5);have z:=c0.out
          go_roundg (16-(i+1))
          case measure=>omega
          case rel=>exact⟨i+1,by omega,rfl,by go_num,by rw[a0.out,if_pos trivial,d3.out,<-cF];exact d5,(a5.alloc d4 _).trans hB⟩
        ·have u2:decide ((i:Int)<16)=false:=decide_eq_false (by omega);have d6:i=16:=by omega
         subst d6;go_wp2_with fail;have z:=HG.out
         go_roundg (16-(k+1))
         case measure=>omega
         case rel=>exact⟨k+1,_,b7,H||T1,by omega,rfl,by go_num,rfl,rfl,T,b0,a5⟩
     ·have hU:=LH (k:=k+1) A (by omega) (by rw[VT HU.out HB.out (by rw[HL.out];exact A),HL.out]);have d7:=hid hU;have t3:(aO s.size d 16 != 0)=true:=by rw[bne_iff_ne];exact A
      have t4:(aO s.size d 16==0)=false:=by rw[beq_eq_false_iff_ne];exact A
      generalize aO s.size d 16=E at*
      generalize aE s.data.toList d 16=V at*
      clear hU A;go_wp2_with fail;refine(a4 _).mono ?_;rintro e w2 ⟨rfl,rfl⟩;go_wp2_with fail
      go_ret3
      exact⟨by rw[d7.out];rfl,O⟩
   ·have t1:decide ((k:Int)<16)=false:=decide_eq_false (by omega);have d8:k=16:=by omega
    subst d8;have Z:=VW HU.out
    cases H with
    |true=>
     rw[if_pos rfl] at Z;have b2:=hid Z;clear Z;go_wp2_with fail
     go_ret3
     exact⟨by rw[b2.out];rfl,O⟩
    |false=>
     rw[if_neg (by decide)] at Z;have b2:=hid Z;clear Z;obtain⟨a,n,c,rfl,HN,f6,f7⟩:=a2.openN;have f8:(convert 45 9 (.slice a n c)).run Tryz.prog wr=.ok (.string (mkS o)) wr:=lQ a2.rd;go_wp2_with fail
     go_ret3
     exact⟨by rw[b2.out];rfl,O⟩
theorem EQ {l:List Int} {k:Nat} {x y:Int} (h:l[k]? =some x) (d:y∈l.take (k+1)):y∈l.take k\/y=x:=by
 rw[List.take_add_one,h] at d;rcases List.mem_append.1 d with d|d
 ·exact .inl d
 ·simp at d;exact .inr d
theorem aPa (v:Value) (l:List Int) (w:World) (H:RdI w v l) (I:1<=l.length):
  Calls Tryz.prog 196 #[v] w fun e w'=>∃m,e=.returned (.int .i64 m)/\m∈l/\(∀x∈l,m<=x)/\w'=w:=by
 obtain⟨a,ca,rfl,a1,U,J⟩:=H.open;unfold maxLen at U;clear H;obtain⟨b1,o1,rfl,a2,A⟩:=J (by omega);obtain⟨L,E⟩:=dH I;have V:=A 0 L E;rw[pH] at V;have O:=hid E;have t0:decide ((l.length:Int)<1)=false:=decide_eq_false (by omega);have a3:(0:Int)<(l.length:Int):=by omega
 have a4:0<l.length:=by omega
 clear E J;go_enter Tryz.func196,Tryz.ntmps196;go_wp2_with fail
 go_loopg [3,4] (l.length-1) (fun g Y Z wr=>∃(k:Nat) (M:Int),1<=k/\k<=l.length/\g=l.length-k/\Z=.int .i64 (k:Int)/\Y=.int .i64 M/\Hid (M∈l/\∀x∈l.take k,M<=x)/\wr=w)
 case atStart=>exact⟨1,L,by omega,I,rfl,rfl,rfl,hid ⟨cH O.out,fun y F=>by
  rcases EQ (k:=0) O.out F with q|q
  ·simp at q
  ·omega⟩,rfl⟩
 case round=>
  obtain⟨k,M,a5,hk,G,rfl,rfl,z,rfl⟩:=hrel;have HG:=hid G;clear G
  by_cases a0:k<l.length
  ·have t1:decide ((k:Int)<(l.length:Int))=true:=decide_eq_true (by omega);obtain⟨x,d⟩:=dH a0;have c1:=A k x d;have T:=hid d;clear A d;go_wp2_with fail;have G:=HG.out
   go_roundg (l.length-(k+1))
   case measure=>omega
   case rel=>exact⟨k+1,min M x,by omega,by omega,rfl,by go_num,rfl,hid ⟨by
    rcases Int.min_def M x▸(by split<;>simp:(if M<=x then M else x)=M\/(if M<=x then M else x)=x) with q|q
    ·rw[q];exact z.out.1
    ·rw[q];exact cH T.out,fun y F=>by
    rcases EQ T.out F with q|q
    ·have:=z.out.2 y q;omega
    ·omega⟩,rfl⟩
  ·have t1:decide ((k:Int)<(l.length:Int))=false:=decide_eq_false (by omega);have HF:=hid (show ∀x∈l,M<=x from fun x d=>z.out.2 x (by rw[cS (by omega)];exact d));go_wp2_with fail;go_ret;exact⟨M,rfl,z.out.1,HF.out,rfl⟩
theorem ZH (v:Value) (l:List Int) (w:World) (H:RdI w v l) (I:1<=l.length):
  Calls Tryz.prog 147 #[v] w fun e w'=>∃m,e=.returned (.int .i64 m)/\m∈l/\(∀x∈l,x<=m)/\w'=w:=by
 obtain⟨a,ca,rfl,a1,U,J⟩:=H.open;unfold maxLen at U;clear H;obtain⟨b1,o1,rfl,a2,A⟩:=J (by omega);obtain⟨L,E⟩:=dH I;have V:=A 0 L E;rw[pH] at V;have O:=hid E;have t0:decide ((l.length:Int)<1)=false:=decide_eq_false (by omega);have a3:(0:Int)<(l.length:Int):=by omega
 have a4:0<l.length:=by omega
 clear E J;go_enter Tryz.func147,Tryz.ntmps147;go_wp2_with fail
 go_loopg [3,4] (l.length-1) (fun g Y Z wr=>∃(k:Nat) (M:Int),1<=k/\k<=l.length/\g=l.length-k/\Z=.int .i64 (k:Int)/\Y=.int .i64 M/\Hid (M∈l/\∀x∈l.take k,x<=M)/\wr=w)
 case atStart=>exact⟨1,L,by omega,I,rfl,rfl,rfl,hid ⟨cH O.out,fun y F=>by
  rcases EQ (k:=0) O.out F with q|q
  ·simp at q
  ·omega⟩,rfl⟩
 case round=>
  obtain⟨k,M,a5,hk,G,rfl,rfl,z,rfl⟩:=hrel;have HG:=hid G;clear G
  by_cases a0:k<l.length
  ·have t1:decide ((k:Int)<(l.length:Int))=true:=decide_eq_true (by omega);obtain⟨x,d⟩:=dH a0;have c1:=A k x d;have T:=hid d;clear A d;go_wp2_with fail;have G:=HG.out
   go_roundg (l.length-(k+1))
   case measure=>omega
   case rel=>exact⟨k+1,max M x,by omega,by omega,rfl,by go_num,rfl,hid ⟨by
    rcases Int.max_def M x▸(by split<;>simp:(if M<=x then x else M)=M\/(if M<=x then x else M)=x) with q|q
    ·rw[q];exact z.out.1
    ·rw[q];exact cH T.out,fun y F=>by
    rcases EQ T.out F with q|q
    ·have:=z.out.2 y q;omega
    ·omega⟩,rfl⟩
  ·have t1:decide ((k:Int)<(l.length:Int))=false:=decide_eq_false (by omega);have HF:=hid (show ∀x∈l,x<=M from fun x d=>z.out.2 x (by rw[cS (by omega)];exact d));go_wp2_with fail;go_ret;exact⟨M,rfl,z.out.1,HF.out,rfl⟩
theorem aPb (n:Nat) (f:Nat->Int):(tab n f).toArray.size=n:=by simp[tab]
theorem ZI (f:Nat->Int):(Tryz.prog.info? 243).map (·.size)=some (tab 21 f).toArray.size:=by rw[aPb];kernel_rfl
theorem MI:Tryz.prog.underlying 243=some (.array 21 3):=by kernel_rfl
theorem aPc {w:World} {b:Nat} {e:TypeId} {l:List Value} (n:Nat) (h:Arr w b e l) (d:l.length=n) (f:Nat->Int):
  (storeCells ⟨b,0,none⟩ (tab n f)).run Tryz.prog w=.ok () (w.setRow b (tab n f).toArray):=by
 have z:(tab n f).length=n:=by simp[tab]
 have A:=run_storeCells_from (P:=Tryz.prog) b e (tab n f) 0 l.toArray w h (by simp[d,z]) (fun v E=>by obtain⟨c,_,rfl⟩:=List.mem_map.1 E;rfl);rw[A]
 congr 2
theorem aPd (f:Nat->Int) (k:Nat) (d:k<21) (w:World):(tV 243 (.agg (tab 21 f).toArray) (.int .i64 (k:Int))).run Tryz.prog w=.ok (.int .i64 (f k)) w:=by
 have h:(tab 21 f)[k]? =some (.int .i64 (f k)):=iS 21 f k d;have z:(k:Int)<21:=by omega
 simp[tV,sI MI,asIntOf,d,part,isAgg,sI Tryz.underlying3,h,jB]
theorem aPe (v:Value) (l:List Int) (w:World) (I:RdI w v l) (J:∀x∈l,1<=x/\x<=20) (hn:l.length<=258):
  Calls Tryz.prog 197 #[v] w fun e w'=>e=.returned (.agg (tab 21 (fun n=>(bU l n:Int))).toArray)/\Below w.heap.size w w':=by
 obtain⟨a,ca,rfl,a5,U,L⟩:=I.open;unfold maxLen at U;clear I;have V:=hid J;clear J;go_enter Tryz.func197,Tryz.ntmps197;go_wp2_with fail
 go_loopg [4,7] l.length (fun g _s4 Y wr=>∃k:Nat,k<=l.length/\g=l.length-k/\Y=.int .i64 (k:Int)/\Arr wr w.heap.size 243 (tab 21 (fun n=>(bU (l.take k) n:Int)))/\Below w.heap.size w wr)
 case atStart=>
  refine⟨0,aU _,rfl,rfl,?_,(aB _ _).alloc (aA _) _⟩;exact Arr.new w _ (tab 21 (fun _=>0))
 case round=>
  obtain⟨k,hk,E,rfl,z,F⟩:=hrel;have Z:=hid E;clear E
  by_cases M:k<l.length
  ·have t1:decide ((k:Int)<(l.length:Int))=true:=decide_eq_true (by omega);obtain⟨b1,o1,rfl,a0,O⟩:=L (by omega);obtain⟨x,A⟩:=dH M;have c1:=((lP F).1 b1 (o1+k) a0).trans (O k _ A);have a1:=V.out x (cH A);obtain⟨y,rfl⟩:∃y:Nat,x=(y:Int):=⟨x.toNat,by omega⟩;have hy:y<21:=by omega
   have a6:(y:Int)<21:=by omega
   have d1:=z.cell (iS 21 _ y hy);have f1:=z.free y;have G:=fun n=>BN M n
   have T:l.getD k 0=(y:Int):=by rw[aV,A];rfl
   rw[T] at G;have a2:bU (l.take k) y<=258:=by unfold bU;exact aW xR (by rw[aX];omega)
   obtain⟨C,H⟩:∃C,C=bU (l.take k) y:=⟨_,rfl⟩;rw[<-H] at d1 a2;have m1:aI.wrap ((C:Int)+1)=(C:Int)+1:=by rw[aM];omega
   have HT:=hid (qD 21 (fun n=>(bU (l.take k) n:Int)) (fun n=>(bU (l.take (k+1)) n:Int)) y ((C:Int)+1) (fun d hd=>by
    show((bU (l.take (k+1)) d:Nat):Int)=_;rw[G d]
    by_cases e:d=y
    ·subst e;rw[if_pos (by simp),if_pos rfl,<-H];omega
    ·rw[if_neg (by simp;omega),if_neg e];omega))
   clear H G T A O L a1;go_wp2_with fail;have E:=Z.out
   go_roundg (l.length-(k+1))
   case measure=>omega
   case rel=>
    refine⟨k+1,by omega,rfl,by go_num,?_,F.setCell (p:=⟨w.heap.size,y,none⟩) (aA _) _⟩;rw[<-HT.out];exact z.set y _
  ·have t1:decide ((k:Int)<(l.length:Int))=false:=decide_eq_false (by omega);have a3:k=l.length:=by omega
   subst a3;rw[kE] at z;have a7:=aPc 21 z (by simp[tab]) (fun n=>(bU l n:Int));go_upto_region 6 with fail;go_wp2_with (refine wpList_load_row rfl 243 (.tmp 2) rfl w.heap.size rfl _ _ (0,0) (.array 21 3) z MI rfl (ZI _) ?_);have a4:Arr (wr.setRow w.heap.size (tab 21 (fun n=>(bU l n:Int))).toArray) w.heap.size 243 (tab 21 (fun n=>(bU l n:Int))):=setRow_heap wr w.heap.size _ _ 243 (0,0) z;refine gJ (tR rfl _ _ w.heap.size _ _ (0,0) (.array 21 3) rfl a4 MI rfl (ZI _)) rfl ?_;exact⟨rfl,zB F _ (aA _) _⟩
def MJ (l:List Int):Nat->Int
 |0=>1
 |n+1=>pN l n
theorem aPf (l:List Int) (k:Nat):pN l k=(if k=0 then MJ l k else 2*MJ l k)-(bU l k:Int):=by
 cases k with
 |zero=>rfl
 |succ k=>rfl
theorem zS (v:Value) (l:List Int) (w:World) (hr:RdI w v l):
  Calls Tryz.prog 148 #[v] w fun e w'=>e=.returned (.int .i64 (bL l))/\Below w.heap.size w w':=by
 have O:=hr;obtain⟨a,ca,rfl,b5,a8,hA⟩:=hr.open;unfold maxLen at a8;clear hr hA
 by_cases H:2<=l.length/\l.length<=258
 rotate_left
 ·have d:=hid (ST H)
  by_cases h3:l.length<2
  ·have t1:decide ((l.length:Int)<2)=true:=decide_eq_true (by omega);go_enter Tryz.func148,Tryz.ntmps148;go_wp2_with fail;go_ret;exact⟨by rw[d.out];rfl,aB _ _⟩
  ·have t1:decide ((l.length:Int)<2)=false:=decide_eq_false (by omega);have t2:decide ((l.length:Int)>258)=true:=decide_eq_true (by omega);have t3:decide ((258:Int)<(l.length:Int))=true:=decide_eq_true (by omega);go_enter Tryz.func148,Tryz.ntmps148;go_wp2_with fail;go_ret;exact⟨by rw[d.out];rfl,aB _ _⟩
 ·have t1:decide ((l.length:Int)<2)=false:=decide_eq_false (by omega);have t2:decide ((l.length:Int)>258)=false:=decide_eq_false (by omega);have t3:decide ((258:Int)<(l.length:Int))=false:=decide_eq_false (by omega);have a0:=aPa _ l w O (by omega);have T:=ZH _ l w O (by omega);have I:=aPe _ l w O;clear O;go_enter Tryz.func148,Tryz.ntmps148;go_wp2_with fail;refine a0.mono ?_;rintro e U ⟨m,rfl,a6,a1,rfl⟩
  by_cases hm:m<1
  ·have u1:decide (m<1)=true:=decide_eq_true hm;obtain⟨k,G⟩:=List.getElem?_of_mem a6;have d:=hid (DG G (by omega));clear G a1 I T a0;go_wp2_with fail;go_ret;exact⟨by rw[d.out];rfl,aB _ _⟩
  ·have u1:decide (m<1)=false:=decide_eq_false hm;have HM:=hid a1;clear a1 a0 a6;go_wp2_with fail;refine T.mono ?_;rintro e w2 ⟨x,rfl,a9,a2,rfl⟩
   by_cases V:20<x
   ·have u2:decide (x>20)=true:=decide_eq_true V;have u3:decide (20<x)=true:=decide_eq_true V;obtain⟨k,G⟩:=List.getElem?_of_mem a9;have d:=hid (DG G (by omega));clear G a2 I T;go_wp2_with fail;go_ret;exact⟨by rw[d.out];rfl,aB _ _⟩
   ·have u2:decide (x>20)=false:=decide_eq_false V;have u3:decide (20<x)=false:=decide_eq_false V;have A:∀y∈l,1<=y/\y<=20:=fun y Z=>by
     have:=HM.out y Z;have:=a2 y Z;omega
    have b6:=hid A;have d:=hid (SU ⟨H.1,H.2,A⟩);have I:=I A H.2;have b0:=hid (fun n (J:n<=20)=>aDn A J);have b1:=hid (aDo A);have b2:=hid (fun n=>aDp (l:=l) (n:=n) (fun y Z=>(A y Z).1));clear A a2 HM T;go_wp2_with fail;refine I.mono ?_;rintro e w3 ⟨rfl,a3⟩;go_wp2_with fail
    go_loopg [3,4,5,26] 21 (fun g s3 _s4 _s5 b3 wr=>∃(k:Nat) (X:Int),k<=21/\g=21-k/\b3=.int .i64 (k:Int)/\s3=.int .i64 X/\Hid (X=MJ l k)/\Hid (∀n,n<k->0<=pN l n)/\wr=w3)
    case atStart=>exact⟨0,1,by omega,rfl,rfl,rfl,hid rfl,hid (fun n J=>by omega),rfl⟩
    case round=>
     obtain⟨k,X,G,hg,rfl,rfl,HX,HN,rfl⟩:=hrel;have HG:=hid hg;clear hg
     by_cases b4:k<21
     ·have v1:decide ((k:Int)<21)=true:=decide_eq_true (by omega);have ix:=aPd (fun n=>(bU l n:Int)) k b4 wr;have L:bU l k<=258:=by unfold bU;exact aW xR H.2
      have hB:0<=X/\X<=1048576:=by
       rw[HX.out]
       cases k with
       |zero=>exact⟨show(0:Int)<=1 by decide,show(1:Int)<=1048576 by decide⟩
       |succ k=>
        refine⟨HN.out k (by omega),Int.le_trans (b2.out k) ?_⟩;have:(2:Nat)^k<=2^20:=jC (by decide) (by omega);have e:(2:Nat)^20=1048576:=by decide
        have:(((2:Nat)^k:Nat):Int)<=1048576:=by omega
        simpa using this
      have z:=aPf l k;rw[<-HX.out] at z;have E:=b0.out k (by omega);obtain⟨Y,a4⟩:∃Y,Y=pN l k:=⟨_,rfl⟩;obtain⟨C,a5⟩:∃C,C=bU l k:=⟨_,rfl⟩;rw[<-a4] at z E;simp only[<-a5] at ix;rw[<-a5] at z L;have HY:=hid a4;clear a4 a5
      by_cases a7:k=0
      ·subst a7;rw[if_pos rfl] at z;rw[show((0:Nat):Int)=0 from rfl] at ix;have v2:decide ((0:Int)>0)=false:=by decide
       have v3:decide (((0:Nat):Int)>0)=false:=by decide
       have m4:X-(C:Int)=Y:=by omega
       have m5:aI.wrap Y=Y:=by rw[aM];omega
       by_cases F:Y<0
       ·have U:decide (Y<0)=true:=decide_eq_true F;have M:=hid (show bL l=6 by rw[d.out,if_pos (E F)]);clear E z hB L;go_wp2_with fail;go_ret;exact⟨by rw[M.out];rfl,a3⟩
       ·have U:decide (Y<0)=false:=decide_eq_false F;clear E z hB L;go_wp2_with fail;have hg:=HG.out
        go_roundg (21-(0+1))
        case measure=>omega
        case rel=>exact⟨0+1,Y,by omega,rfl,by go_num,rfl,HY,hid (fun n J=>by
         rcases bT n 0 with h|h
         ·exact HN.out n h
         ·rw[show n=0 by omega,<-HY.out];omega),rfl⟩
      ·rw[if_neg a7] at z;have v2:decide ((k:Int)>0)=true:=decide_eq_true (by omega);have v3:decide (0<k)=true:=decide_eq_true (by omega);have v4:0<k:=by omega
       obtain⟨D,hD⟩:∃D,D=2*X:=⟨_,rfl⟩;have m1:aI.wrap (X*2)=D:=by rw[aM];omega
       have m2:X*2=D:=by omega
       have m3:aI.wrap D=D:=by rw[aM];omega
       rw[<-hD] at z;have m4:D-(C:Int)=Y:=by omega
       have m5:aI.wrap Y=Y:=by rw[aM];omega
       by_cases F:Y<0
       ·have U:decide (Y<0)=true:=decide_eq_true F;have M:=hid (show bL l=6 by rw[d.out,if_pos (E F)]);clear E z hB L hD;go_wp2_with fail;go_ret;exact⟨by rw[M.out];rfl,a3⟩
       ·have U:decide (Y<0)=false:=decide_eq_false F;clear E z hB L hD;go_wp2_with fail;have hg:=HG.out
        go_roundg (21-(k+1))
        case measure=>omega
        case rel=>exact⟨k+1,Y,by omega,rfl,by go_num,rfl,HY,hid (fun n J=>by
         rcases bT n k with h|h
         ·exact HN.out n h
         ·rw[show n=k by omega,<-HY.out];omega),rfl⟩
     ·have v1:decide ((k:Int)<21)=false:=decide_eq_false (by omega);have M:=hid (show bL l=0 by rw[d.out,if_neg (by have:=b1.out (fun n J=>HN.out n (by omega));omega)]);go_wp2_with fail;go_ret;exact⟨by rw[M.out];rfl,a3⟩
theorem gbB {W d:World} {g:Option Nat} (h:Below W.heap.size W d):W.grownBy d g:=⟨h.os,h.tape,h.output,h.size,fun k z _=>h.block k z⟩
theorem gbT {A B C:World} {g:Option Nat} (h:A.grownBy B g) (k:B.grownBy C g):A.grownBy C g:=
 ⟨k.os.trans h.os,k.tape.trans h.tape,k.output.trans h.output,aW h.size k.size,fun i hi d=>(k.block i (dR hi h.size) d).trans (h.block i hi d)⟩
theorem gbS (W:World) (g i:Nat) (v:Value):W.grownBy (W.setCell ⟨g,i,none⟩ v) (some g):=
 ⟨rfl,rfl,rfl,by simp,fun k _ d=>heap_setCell_other W ⟨g,i,none⟩ k v (fun e=>d (by rw[e]))⟩
theorem ZP (g:Nat) (l:List Bool) (v:Nat) (W:World) (h:Arr W g 29 (kH l)) (J:v<65536) (L:l.length<=10000):
  Calls Tryz.prog 74 #[.int .u64 (v:Int),.pointer (some ⟨g,0,none⟩)] W fun e A=>e=.returned (.tuple #[])/\Arr A g 29 (kH (l++aY v 16))/\W.grownBy A (some g):=by
 have G:=h.cell (i:=0) rfl;have H:=h.cell (i:=1) rfl;have z:=uH l v 16 W (by omega) (by decide) (by omega);unfold eL at z;go_enter Tryz.func74,Tryz.ntmps74;go_wp2_with fail;refine z.mono ?_;rintro e M ⟨rfl,E⟩;have d:=h.below E h.lt;have O:=d.cell (i:=0) rfl;have T:=d.cell (i:=1) rfl;have U:=d.free 0;have V:=d.free 1;generalize F:l++aY v 16=m at*
 have I:=hid F;clear F G H z;go_wp2_with fail
 go_end0
 exact⟨rfl,by rw[I.out];exact(d.set 0 _).set 1 _,gbT (gbT (gbB E) (gbS _ _ _ _)) (gbS _ _ _ _)⟩
theorem Arr.gb {W d:World} {g b:Nat} {e:TypeId} {l:List Value} (h:Arr W b e l) (z:W.grownBy d (some g)) (A:b≠g):Arr d b e l:=h.grown z (fun q=>A (by injection q))
theorem ZQ {B g:Nat} {a W d:World} (h:Below B a W) (z:W.grownBy d (some g)) (E:B<=g) (A:B<=W.heap.size):Below B a d:=
 h.grown z A (fun k e=>by injection e with e;omega)
theorem ZR (s:List UInt8) (k:Nat):(bY (eQ s k)=0↔iT s k=false):=yD _
theorem aPk (s:ByteArray) (w:World) (hs:s.size<=140737488355328):
  Calls Tryz.prog 24 #[.string s] w fun e w'=>e=.returned (eL (fZ s.data.toList))/\Below w.heap.size w w':=by
 have c7:∀(fn:Fn) (first cap:Array Value) (w:World),(vJ fn first cap).run Tryz.prog w=.ok (.func fn first cap) w:=fun _ _ _ _=>rfl
 have hE:∀args W,(callFunc 74 args).run Tryz.prog W=.ok (.enter 74 args) W:=fN Tryz.func74 (by kernel_rfl) rfl;have b9:=hid (fun k=>CC s.data.toList k);go_enter Tryz.func24,Tryz.ntmps24;go_wp2_with fail;have a1:=Arr.new w 29 [.string ⟨#[]⟩,.int .i64 0];change Arr (w.alloc (.cells #[.string ⟨#[]⟩,.int .i64 0] 29)) _ _ _ at a1;have c8:(w.alloc (.cells #[.string ⟨#[]⟩,.int .i64 0] 29)).heap.size=w.heap.size+1:=by simp
 have a7:Below w.heap.size w (w.alloc (.cells #[.string ⟨#[]⟩,.int .i64 0] 29)):=bD (aB _ _) _;generalize w.alloc (.cells #[.string ⟨#[]⟩,.int .i64 0] 29)=w0 at*
 refine(US s _ hs).mono ?_;rintro e z ⟨rfl,Y⟩;have ha:Arr (z.alloc (.cells Tryz.zeroCells124 124)) z.heap.size 124 (eS (fun _=>false)):=by rw[UQ];exact Arr.new z _ _
 have c2:=UR ha (by simp[eS]) (dB s.data.toList);have a8:Arr ((z.alloc (.cells Tryz.zeroCells124 124)).setRow z.heap.size (eS (dB s.data.toList)).toArray) z.heap.size 124 (eS (dB s.data.toList)):=setRow_heap (z.alloc (.cells Tryz.zeroCells124 124)) z.heap.size _ _ 124 (0,0) ha;have c9:=Y.size;have a2:Below w0.heap.size w0 ((z.alloc (.cells Tryz.zeroCells124 124)).setRow z.heap.size (eS (dB s.data.toList)).toArray):=zB (Y.alloc Y.size _) _ Y.size _;go_wp2_with fail
 generalize (z.alloc (.cells Tryz.zeroCells124 124)).setRow z.heap.size (eS (dB s.data.toList)).toArray=w2 at*
 have a9:=a1.below a2 a1.lt;have b0:=a7.trans (a2.mono (by omega));clear c2 ha a1 a7 Y a2;have b1:z.heap.size≠w.heap.size:=by omega
 go_wp2_with fail
 go_loopg [5,6,12] 16 (fun g s5 _s6 c3 wr=>∃k V:Nat,k<=16/\g=16-k/\c3=.int .i64 (k:Int)/\s5=.int .u64 (V:Int)/\Hid (V=bY (lU s.data.toList k))/\Arr wr w.heap.size 29 [.string ⟨#[]⟩,.int .i64 0]/\Arr wr z.heap.size 124 (eS (dB s.data.toList))/\Below w.heap.size w wr)
 case atStart=>exact⟨0,0,by omega,rfl,rfl,rfl,hid rfl,a9,a8,b0⟩
 case round=>
  obtain⟨k,V,hk,I,rfl,rfl,HV,A,F,H⟩:=hrel;have Z:=hid I;clear I a9 a8 b0;have M:=H.size;have b2:=qE (lU s.data.toList k);rw[<-HV.out,zC] at b2;have h2:2^k<=2^16:=jC (by decide) hk;have d0:V<=65535:=by
    have:(2:Nat)^16=65536:=by decide
    omega
  clear h2 b2
  by_cases a3:k<16
  ·have t1:decide ((k:Int)<16)=true:=decide_eq_true (by omega);obtain⟨d,hd⟩:∃d:Nat,d=2*V:=⟨_,rfl⟩;have m6:fU.wrap ((V:Int)*2)=(d:Int):=by rw[gF];omega
   have d2:(V:Int)*2%18446744073709551616=(d:Int):=by omega
   have e1:=IV V true (by omega);rw[m6] at e1;obtain⟨d1,a4⟩:∃d1:Nat,d1=2*V+1:=⟨_,rfl⟩;have e2:bits .or .u64 (d:Int) 1=(d1:Int):=by rw[a4];exact e1
   have HS:=hid (show bY (lU s.data.toList (k+1))=2*V+(iT s.data.toList k).toNat by rw[VF,rF,<-HV.out]);have HD:=hid hd;have c4:=hid a4;have G:=fun W=>ZO s.data.toList k W a3
   have E:=ZR s.data.toList k;obtain⟨X,hX⟩:∃X,X=bY (eQ s.data.toList k):=⟨_,rfl⟩;rw[<-hX] at G E;clear hd a4 e1 hX
   cases J:iT s.data.toList k with
   |true=>
    rw[J] at HS E;have u1:((X:Int) != 0)=true:=by rw[bne_iff_ne];intro h;have:=E.1 (by omega);simp at this
    have u2:((X:Int)==0)=false:=by rw[beq_eq_false_iff_ne];intro h;have:=E.1 (by omega);simp at this
    clear J E;go_wp2_with fail;refine AR 124 (.tmp 4) rfl z.heap.size rfl _ _ (0,0) (.array 256 4) F uW rfl (wN _) ?_;go_wp2_with fail;refine(G _).mono ?_;rintro e w3 ⟨rfl,O⟩;go_wp2_with fail;have I:=Z.out
    go_roundg (16-(k+1))
    case measure=>omega
    case rel=>exact⟨k+1,d1,by omega,rfl,by go_num,rfl,hid (by rw[HS.out,c4.out];rfl),A.below O A.lt,F.below O F.lt,H.trans (O.mono M)⟩
   |false=>
    rw[J] at HS E;have T:X=0:=E.2 rfl;have u1:((X:Int) != 0)=false:=by rw[T];rfl
    have u2:((X:Int)==0)=true:=by rw[T];rfl
    clear J E T;go_wp2_with fail;refine AR 124 (.tmp 4) rfl z.heap.size rfl _ _ (0,0) (.array 256 4) F uW rfl (wN _) ?_;go_wp2_with fail;refine(G _).mono ?_;rintro e w3 ⟨rfl,O⟩;go_wp2_with fail;have I:=Z.out
    go_roundg (16-(k+1))
    case measure=>omega
    case rel=>exact⟨k+1,d,by omega,rfl,by go_num,rfl,hid (by rw[HS.out,HD.out];rfl),A.below O A.lt,F.below O F.lt,H.trans (O.mono M)⟩
  ·have t1:decide ((k:Int)<16)=false:=decide_eq_false (by omega);have a5:k=16:=by omega
   subst a5;have G:=ZP w.heap.size [] V wr A (by omega) (by decide);have U:[]++aY V 16=lU s.data.toList 16:=by
    rw[iG,HV.out];have:=yB (lU s.data.toList 16);rwa[zC] at this
   rw[U] at G;clear U;go_wp2_with fail;refine G.mono ?_;rintro e w3 ⟨rfl,b3,a6⟩;have b4:=F.gb a6 b1;have b5:=ZQ H a6 (aA _) M;clear A F H a6 G M;go_wp2_with fail
   go_loopg [7,8,27] 16 (fun g _s7 _s8 c5 wx=>∃k:Nat,k<=16/\g=16-k/\c5=.int .i64 (k:Int)/\Arr wx w.heap.size 29 (kH (lU s.data.toList 16++eX s.data.toList k))/\Arr wx z.heap.size 124 (eS (dB s.data.toList))/\Below w.heap.size w wx)
   case atStart=>exact⟨0,by omega,rfl,rfl,by rw[show eX s.data.toList 0=[] from rfl,eE];exact b3,b4,b5⟩
   case round=>
    obtain⟨k,hk,I,rfl,A,F,H⟩:=hrel;have Z:=hid I;clear I b3 b4 b5;have M:=H.size
    by_cases a3:k<16
    ·have t1:decide ((k:Int)<16)=true:=decide_eq_true (by omega);have G:=fun W=>ZO s.data.toList k W a3
     have E:=ZR s.data.toList k;have b6:=qE (eQ s.data.toList k);have U:=yB (eQ s.data.toList k);have d3:=b9.out k;have HR:=hid (LD s.data.toList k);rw[sR] at b6 U;obtain⟨X,hX⟩:∃X,X=bY (eQ s.data.toList k):=⟨_,rfl⟩;rw[<-hX] at G E b6 U;have HN:=hid U;clear hX U
     cases J:iT s.data.toList k with
     |true=>
      rw[J] at HR E;have u1:((X:Int) != 0)=true:=by rw[bne_iff_ne];intro h;have:=E.1 (by omega);simp at this
      have u2:((X:Int)==0)=false:=by rw[beq_eq_false_iff_ne];intro h;have:=E.1 (by omega);simp at this
      clear J E;go_wp2_with fail;refine AR 124 (.tmp 4) rfl z.heap.size rfl _ _ (0,0) (.array 256 4) F uW rfl (wN _) ?_;go_wp2_with fail;refine(G _).mono ?_;rintro e w4 ⟨rfl,L⟩;have c6:=ZP w.heap.size _ X w4 (A.below L A.lt) (by omega) (by rw[aL,zC];omega);go_wp2_with fail;refine c6.mono ?_;rintro e w5 ⟨rfl,b7,b8⟩;go_wp2_with fail;have I:=Z.out
      go_roundg (16-(k+1))
      case measure=>omega
      case rel=>exact⟨k+1,by omega,rfl,by go_num,by rw[HR.out,if_pos trivial,<-cF];rw[HN.out] at b7;exact b7,(F.below L F.lt).gb b8 b1,ZQ (H.trans (L.mono M)) b8 (aA _) (by have:=L.size;omega)⟩
     |false=>
      rw[J] at HR E;have T:X=0:=E.2 rfl;have u1:((X:Int) != 0)=false:=by rw[T];rfl
      have u2:((X:Int)==0)=true:=by rw[T];rfl
      clear J E T;go_wp2_with fail;refine AR 124 (.tmp 4) rfl z.heap.size rfl _ _ (0,0) (.array 256 4) F uW rfl (wN _) ?_;go_wp2_with fail;refine(G _).mono ?_;rintro e w4 ⟨rfl,L⟩;go_wp2_with fail;have I:=Z.out
      go_roundg (16-(k+1))
      case measure=>omega
      case rel=>exact⟨k+1,by omega,rfl,by go_num,by rw[HR.out,if_neg (by decide),eE];exact A.below L A.lt,F.below L F.lt,H.trans (L.mono M)⟩
    ·have t1:decide ((k:Int)<16)=false:=decide_eq_false (by omega);have a5:k=16:=by omega
     subst a5;have a0:lU s.data.toList 16++eX s.data.toList 16=fZ s.data.toList:=rfl;rw[a0] at A;clear a0;unfold kH at A;generalize a0:fZ s.data.toList=m at*
     have HM:=hid a0;clear a0;have c0:=A.cell (i:=0) rfl;have c1:=A.cell (i:=1) rfl;have f0:=A.free 0;have f1:=A.free 1;go_wp2_with fail;have z0:Arr ((wr.setCell ⟨w.heap.size,0,none⟩ (.string (mkS (aD m)))).setCell ⟨w.heap.size,1,none⟩ (.int .i64 (m.length:Int))) w.heap.size 29 [.string (mkS (aD m)),.int .i64 (m.length:Int)]:=(A.set 0 _).set 1 _;refine gJ (tR rfl _ _ w.heap.size _ _ (0,0) _ rfl z0 Tryz.underlying29 rfl mF) rfl ?_
     exact⟨by rw[HM.out];rfl,(H.setCell (p:=⟨w.heap.size,0,none⟩) (aA _) _).setCell (p:=⟨w.heap.size,1,none⟩) (aA _) _⟩
def ER (E:Int):List PanicEntry:=[{v:=.iface 253 (.agg #[.int .i64 E]),recovered:=false}]
def DRd (w:World) (b:Nat) (s:ByteArray) (a:Nat):Prop:=Arr w b 256 [.string s,.int .i64 (a:Int)]
theorem MK (b:Nat) (s:ByteArray) (a k:Nat) (W:World) (z:DRd W b s a) (O:s.size<=1000000) (T:k<=40) (Y:a<=100000000):
  Calls Tryz.prog 204 #[.pointer (some ⟨b,0,none⟩),.int .i64 (k:Int)] W fun e w'=>
   (aO s.size (a:Int) k=0/\e=.returned (.int .i64 (aE s.data.toList (a:Int) k:Int))/\DRd w' b s (a+k)/\W.grownBy w' (some b))\/(aO s.size (a:Int) k≠0/\e=.panicked (ER (aO s.size (a:Int) k))/\W.grownBy w' (some b)):=by
 have H:=fun W=>sT s (a:Int) k W O (by omega) (by omega) (by omega)
 have M:=iA s.data.toList (a:Int) k;have U:aE s.data.toList (a:Int) k<1099511627776:=dR M (aW (jC (by decide) T) (by decide));obtain⟨E,A⟩:∃E,E=aO s.size (a:Int) k:=⟨_,rfl⟩;obtain⟨V,F⟩:∃V,V=aE s.data.toList (a:Int) k:=⟨_,rfl⟩;rw[<-A,<-F];rw[<-A,<-F] at H;rw[<-F] at U;have Z:=hid A;clear A F M;have c0:=Arr.cell z (i:=0) rfl;have c1:=Arr.cell z (i:=1) rfl;have f1:=Arr.free z 1;have m1:aI.wrap (V:Int)=(V:Int):=by rw[aM];omega
 have m2:aI.wrap ((a:Int)+(k:Int))=(a:Int)+(k:Int):=by rw[aM];omega
 go_enter Tryz.func204,Tryz.ntmps204
 by_cases I:E=0
 ·subst I;go_wp2_with fail
  go_quiet (first|(go_at_call 23;exact OM (H _)))
  generalize d:W.drewN nq=G at*
  have J:DRd G b s a:=by rw[<-d];exact z
  have L:W.grownBy G (some b):=by rw[<-d];exact⟨rfl,rfl,rfl,aA _,fun _ _ _=>rfl⟩
  have d1:=Arr.cell J (i:=1) rfl;have g1:=Arr.free J 1;clear d;go_wp2_with fail;go_ret;exact⟨rfl,by have:=Arr.set J 1 (.int .i64 ((a:Int)+(k:Int)));unfold DRd;push_cast;exact this,gbT L (gbS _ _ _ _)⟩
 ·have u1:(E != 0)=true:=by simpa using I
  go_wp2_with fail
  go_quiet (first|(go_at_call 23;exact OM (H _)))
  generalize d:W.drewN nq=G at*
  have L:W.grownBy G (some b):=by rw[<-d];exact⟨rfl,rfl,rfl,aA _,fun _ _ _=>rfl⟩
  clear d;go_wp2_with fail;exact⟨rfl,.inr ⟨I,rfl,L⟩⟩
theorem ML (b:Nat) (n:Int) (W:World):Calls Tryz.prog 203 #[.pointer (some ⟨b,0,none⟩),.int .i64 n] W fun e w'=>
  ((1<=n/\n<=20)/\e=.returned (.int .i64 n)/\w'=W)\/(¬(1<=n/\n<=20)/\e=.panicked (ER 3)/\w'=W):=by
 have z:=ZM n
 by_cases h:1<=n/\n<=20
 ·have d:(decide (1<=n)&&decide (n<=20))=true:=by simp[h.1,h.2]
  rw[d] at z;have A:=hid h;clear h d;go_enter Tryz.func203,Tryz.ntmps203;go_wp2_with fail;refine(z _).mono ?_;rintro e w' ⟨rfl,rfl⟩;go_wp2_with fail;go_ret;exact .inl ⟨A.out,rfl,rfl⟩
 ·have d:(decide (1<=n)&&decide (n<=20))=false:=by
   rw[Bool.and_eq_false_iff];rcases Classical.em (1<=n) with q|q
   ·exact .inr (decide_eq_false (fun k=>h ⟨q,k⟩))
   ·exact .inl (decide_eq_false q)
  rw[d] at z;have A:=hid h;clear h d;go_enter Tryz.func203,Tryz.ntmps203;go_wp2_with fail;refine(z _).mono ?_;rintro e w' ⟨rfl,rfl⟩;go_wp2_with fail;exact⟨rfl,.inr ⟨A.out,rfl,rfl⟩⟩
theorem aPl (b:Nat) (s:ByteArray) (a:Nat) (n:Int) (W:World) (hA:DRd W b s a) (hs:s.size<=1000000) (ha:a<=90000010) (a8:1<=n) (a9:n<=20):
  Calls Tryz.prog 205 #[.pointer (some ⟨b,0,none⟩),.int .i64 n] W fun e w'=>
   ((eD s.data.toList (a:Int) n).2.2=0/\e=.returned (.int .i64 (eD s.data.toList (a:Int) n).1)/\(∃p:Nat,(eD s.data.toList (a:Int) n).2.1=(p:Int)/\DRd w' b s p)/\W.grownBy w' (some b))\/((eD s.data.toList (a:Int) n).2.2≠0/\e=.panicked (ER (eD s.data.toList (a:Int) n).2.2)/\W.grownBy w' (some b)):=by
 have HL:=hid (show s.data.toList.length=s.size by simp);obtain⟨R,hR⟩:∃R,R=eD s.data.toList (a:Int) n:=⟨_,rfl⟩;rw[<-hR];have HR:=hid hR.symm;clear hR;have b2:∀(args:Array Value) (w:World),(callFunc 204 args).run Tryz.prog w=.ok (.enter 204 args) w:=fN Tryz.func204 (by kernel_rfl) rfl;go_enter Tryz.func205,Tryz.ntmps205;go_wp2_with fail
 go_loopg [1] (8*s.size+2-a) (fun g s1 wr=>∃(p:Nat) (m:Int),p<=90000012/\1<=m/\m<=20/\g=8*s.size+2-p/\s1=.int .i64 m/\Hid (eD s.data.toList (p:Int) m=R)/\DRd wr b s p/\W.grownBy wr (some b))
 case atStart=>exact⟨a,n,by omega,a8,a9,rfl,rfl,HR,hA,⟨rfl,rfl,rfl,aA _,fun _ _ _=>rfl⟩⟩
 case round=>
  obtain⟨p,m,hp,b3,b4,H,rfl,HP,b0,I⟩:=hrel;have HG:=hid H;clear H;have z:=wF s.data.toList (p:Int) m (by omega);rw[HP.out,HL.out] at z;have J:=MK b s p 1 wr b0 hs (by decide) (by omega);have a0:=fQ (n:=s.size) (at':=(p:Int)) (k:=1);have a1:=fQ (n:=s.size) (at':=((p:Int)+1)) (k:=1);have a2:=iA s.data.toList (p:Int) 1;have a3:=iA s.data.toList ((p:Int)+1) 1;have L:=fun W1 (h:DRd W1 b s (p+1))=>MK b s (p+1) 1 W1 h hs (by decide) (by omega)
  push_cast at L;obtain⟨E1,M⟩:∃E1,E1=aO s.size (p:Int) 1:=⟨_,rfl⟩;obtain⟨A,O⟩:∃A,A=aE s.data.toList (p:Int) 1:=⟨_,rfl⟩;obtain⟨E2,T⟩:∃E2,E2=aO s.size ((p:Int)+1) 1:=⟨_,rfl⟩;obtain⟨E,U⟩:∃E,E=aE s.data.toList ((p:Int)+1) 1:=⟨_,rfl⟩;rw[<-M,<-O,<-T,<-U] at z;rw[<-M,<-O] at J;rw[<-M] at a0;rw[<-T] at a1;rw[<-O] at a2;rw[<-U] at a3;simp only[<-T,<-U] at L;have a2:A<2:=a2;have a3:E<2:=a3;have b1:=hid L;clear M O T U L;go_wp2_with fail;refine J.mono ?_;rintro e w1 (⟨V,rfl,a6,F⟩|⟨V,rfl,F⟩)
  ·subst V;rw[if_neg (fun k=>k rfl)] at z;have a0:=a0 rfl
   by_cases h2:A=0
   ·subst h2;rw[if_pos rfl] at z;have d:=hid z;clear z;go_wp2_with fail;go_ret;exact .inl ⟨by rw[d.out],by rw[d.out];rfl,⟨p+1,by rw[d.out];push_cast;rfl,a6⟩,gbT I F⟩
   ·obtain rfl:A=1:=by omega
    rw[if_neg h2] at z;clear h2;have b5:aI.wrap (m+1)=m+1:=by rw[aM];omega
    go_wp2_with fail;refine(b1.out w1 a6).mono ?_;rintro e w2 (⟨Y,rfl,a7,a4⟩|⟨Y,rfl,a4⟩)
    ·subst Y;rw[if_neg (fun k=>k rfl)] at z;have a1:=a1 rfl;have Z:=gbT (gbT I F) a4
     by_cases h4:E=0
     ·subst h4;rw[if_pos rfl] at z;have G:=hid z;have a5:=ML b (m+1);clear z J;go_wp2_with fail;refine(a5 _).mono ?_;rintro e w3 (⟨h5,rfl,rfl⟩|⟨h5,rfl,rfl⟩)
      ·have d:=hid (show eD s.data.toList ((p:Int)+2) (m+1)=R by rw[G.out,if_neg (by omega)]);go_wp2_with fail;have H:=HG.out
       go_roundg (8*s.size+2-(p+2))
       case measure=>omega
       case rel=>exact⟨p+2,m+1,by omega,by omega,by omega,rfl,rfl,by have:=d;push_cast;exact this,a7,Z⟩
      ·have d:=hid (show R=(0,0,3) by rw[G.out,if_pos (by omega)]);exact⟨rfl,.inr ⟨by rw[d.out];exact(by decide:(3:Int)≠0),by rw[d.out],Z⟩⟩
     ·obtain rfl:E=1:=by omega
      rw[if_neg h4] at z;have G:=hid z;have a5:=ML b (m-1);have b6:aI.wrap (m+1-2)=m-1:=by rw[aM];omega
      have b7:m+1-2=m-1:=by omega
      have b8:aI.wrap (m-1)=m-1:=by rw[aM];omega
      clear z J h4;go_wp2_with fail;refine(a5 _).mono ?_;rintro e w3 (⟨h5,rfl,rfl⟩|⟨h5,rfl,rfl⟩)
      ·have d:=hid (show eD s.data.toList ((p:Int)+2) (m-1)=R by rw[G.out,if_neg (by omega)]);go_wp2_with fail;have H:=HG.out
       go_roundg (8*s.size+2-(p+2))
       case measure=>omega
       case rel=>exact⟨p+2,m-1,by omega,by omega,by omega,rfl,rfl,by have:=d;push_cast;exact this,a7,Z⟩
      ·have d:=hid (show R=(0,0,3) by rw[G.out,if_pos (by omega)]);exact⟨rfl,.inr ⟨by rw[d.out];exact(by decide:(3:Int)≠0),by rw[d.out],Z⟩⟩
    ·rw[if_pos Y] at z;have d:=hid z;exact⟨rfl,.inr ⟨by rw[d.out];exact Y,by rw[d.out],gbT (gbT I F) a4⟩⟩
  ·rw[if_pos V] at z;have d:=hid z;exact⟨rfl,.inr ⟨by rw[d.out];exact V,by rw[d.out],gbT I F⟩⟩
theorem aPm (p q r:Addr) (w:World):
  CallsD Tryz.prog 202 #[.pointer (some p),.pointer (some q),.pointer (some r)] .returning w fun e d w'=>e=.returned (.tuple #[])/\d=.returning/\w'=w:=by
 refine FY Tryz.func202 rfl fun z cs A=>?_
 apply wpS_seq;apply wpS_region;simp[wpOpsS,go_sem,recoverD,A,Tryz.ntmps202,GA];refine wpS_of_wp ?_;go_wp2
 cases z
 simp_all [bodyPostS,results,Tryz.f202]
theorem tH {b c o p:Nat} (h:b≠c):(⟨b,o,none⟩:Addr)≠⟨c,p,none⟩:=fun e=>h (congrArg Addr.block e)
theorem aPn (v:Value) (d:TypeId) (w:World):(BA (.iface 253 v) d 253 true).run Tryz.prog w=.ok (.tuple #[v,.bool true]) w:=by
 simp[BA,sI Tryz.underlying253]
theorem aPo (z:Nat) (E:Int) (O:List PanicEntry) (w:World) (x6 x7 x8:Value) (I:Arr w z 27 [x6]) (J:Arr w (z+1) 3 [x7]) (F:Arr w (z+1+1) 30 [x8]):
  CallsD Tryz.prog 202 #[.pointer (some ⟨z,0,none⟩),.pointer (some ⟨z+1,0,none⟩),.pointer (some ⟨z+1+1,0,none⟩)] (.panicking ({v:=.iface 253 (.agg #[.int .i64 E]),recovered:=false}::O)) w fun e u' w'=>
   e=.returned (.tuple #[])/\u'=.panicking ({v:=.iface 253 (.agg #[.int .i64 E]),recovered:=true}::O)/\Arr w' z 27 [.slice none 0 0]/\Arr w' (z+1) 3 [.int .i64 0]/\Arr w' (z+1+1) 30 [.int .i64 E]/\Below z w w':=by
 have e6:=I.cell (i:=0) rfl;have e7:=J.cell (i:=0) rfl;have e8:=F.cell (i:=0) rfl;have f6:=I.free 0;have f7:=J.free 0;have f8:=F.free 0;refine FY Tryz.func202 rfl fun c₀ cs hu=>?_
 apply wpS_seq;apply wpS_region;simp[wpOpsS,go_sem,recoverD,hu,Tryz.ntmps202,GA];refine wpS_of_wp ?_;simp only[lL,lM,lN,lO,iG,gE,aK,aH,aG];have b0:=aPn (.agg #[.int .i64 E]);go_wp2_with fail;have a2:=I.alloc (.cells #[.int .i64 E] 253);have a3:=J.alloc (.cells #[.int .i64 E] 253);have a4:=F.alloc (.cells #[.int .i64 E] 253);have T:=bS w (.int .i64 E) 253;have a5:=F.lt
 have a6:Below z w (w.alloc (.cells #[.int .i64 E] 253)):=(aB z w).alloc (by omega) _;generalize w.alloc (.cells #[.int .i64 E] 253)=G at*
 obtain⟨d,a1⟩:∃d,d=w.heap.size:=⟨_,rfl⟩;rw[<-a1] at T a5 ⊢;clear e6 e7 e8 f6 f7 f8 a1 I J F;have a7:=a6.drew;have U:Arr G.drew z 27 [x6]:=a2;have h7:Arr G.drew (z+1) 3 [x7]:=a3;have h8:Arr G.drew (z+1+1) 30 [x8]:=a4;have a8:G.drew.cell? ⟨d,0,none⟩=some (.int .i64 E):=T;refine wp_region_held_drew (S:=fun w'=>w'.cell? ⟨d,0,none⟩=some (.int .i64 E)) (by kernel_rfl) T (fun b1=>?_);generalize G.drew=A at*
 have V:=h7.other ⟨z,0,none⟩ (by show _≠_;simp only[ne_eq];omega) (.slice none 0 0);have Y:=(h8.other ⟨z,0,none⟩ (by show _≠_;simp only[ne_eq];omega) (.slice none 0 0)).other ⟨z+1,0,none⟩ (by show _≠_;simp only[ne_eq];omega) (.int .i64 0);have e6:=U.cell (i:=0) rfl;have e7:=V.cell (i:=0) rfl;have e8:=Y.cell (i:=0) rfl;have f6:=U.free 0;have f7:=V.free 0;have f8:=Y.free 0;have L:(A.setCell ⟨z,0,none⟩ (.slice none 0 0)).cell? ⟨d,0,none⟩=some (.int .i64 E):=by rw[iQ _ _ _ _ (tH (by omega))];exact a8
 have M:((A.setCell ⟨z,0,none⟩ (.slice none 0 0)).setCell ⟨z+1,0,none⟩ (.int .i64 0)).cell? ⟨d,0,none⟩=some (.int .i64 E):=by rw[iQ _ _ _ _ (tH (by omega))];exact L
 have Z:(((A.setCell ⟨z,0,none⟩ (.slice none 0 0)).setCell ⟨z+1,0,none⟩ (.int .i64 0)).setCell ⟨z+1+1,0,none⟩ (.int .i64 E)).cell? ⟨d,0,none⟩=some (.int .i64 E):=by rw[iQ _ _ _ _ (tH (by omega))];exact M
 have q6:Arr (((A.setCell ⟨z,0,none⟩ (.slice none 0 0)).setCell ⟨z+1,0,none⟩ (.int .i64 0)).setCell ⟨z+1+1,0,none⟩ (.int .i64 E)) z 27 [.slice none 0 0]:=((U.set 0 _).other _ (by show _≠_;simp only[ne_eq];omega) _).other _ (by show _≠_;simp only[ne_eq];omega) _;have q7:Arr (((A.setCell ⟨z,0,none⟩ (.slice none 0 0)).setCell ⟨z+1,0,none⟩ (.int .i64 0)).setCell ⟨z+1+1,0,none⟩ (.int .i64 E)) (z+1) 3 [.int .i64 0]:=(V.set 0 _).other _ (by show _≠_;simp only[ne_eq];omega) _
 have q8:Arr (((A.setCell ⟨z,0,none⟩ (.slice none 0 0)).setCell ⟨z+1,0,none⟩ (.int .i64 0)).setCell ⟨z+1+1,0,none⟩ (.int .i64 E)) (z+1+1) 30 [.int .i64 E]:=Y.set 0 _;have a9:Below z w (((A.setCell ⟨z,0,none⟩ (.slice none 0 0)).setCell ⟨z+1,0,none⟩ (.int .i64 0)).setCell ⟨z+1+1,0,none⟩ (.int .i64 E)):=((a7.setCell (p:=⟨z,0,none⟩) (aA _) _).setCell (p:=⟨z+1,0,none⟩) (pI _) _).setCell (p:=⟨z+1+1,0,none⟩) (by show z<=z+1+1;omega) _;refine wpAnyH_take (i:=0) (oi:=?oi0) (v:=?v0) ?hi0 (by kernel_rfl) (by kernel_rfl) (by kernel_rfl) ?hq0 ?hy0 (by assumption) ?_
 case hi0=>(simp only[aR,aP];rfl)
 case hq0=>exact fun _ _ _ h=>h
 case hy0=>(refine Or.inl ⟨by rfl,?_⟩;intro w' a0;(try dsimp only at a0);(try go_simp);try with_reducible rfl)
 try simp only[aJ,aK,aH,aG]
 refine wpAnyH_take (i:=1) (oi:=?oi1) (v:=?v1) ?hi1 (by kernel_rfl) (by kernel_rfl) (by kernel_rfl) ?hq1 ?hy1 (by assumption) ?_
 case hi1=>(simp only[aR,List.getElem?_cons_succ,aP];rfl)
 case hq1=>exact fun _ _ _ h=>h
 case hy1=>(refine Or.inl ⟨by rfl,?_⟩;intro w' a0;(try dsimp only at a0);(try go_simp);try with_reducible rfl)
 try simp only[aJ,aK,aH,aG]
 refine fL (rs:=[2]) (by kernel_rfl) (by simp) ?_;refine fA rfl (fun K H=>?_) fM;go_simp;refine H.out _ _ ?_ (fun _=>?_)
 ·first|exact L|exact M|exact Z
 try simp only[aJ,aK,aH,aG]
 refine fL (rs:=[3]) (by kernel_rfl) (by simp) ?_;refine fA rfl (fun K H=>?_) fM;go_simp;refine H.out _ _ ?_ (fun _=>?_)
 ·first|exact L|exact M|exact Z
 try simp only[aJ,aK,aH,aG]
 refine fL (rs:=[4]) (by kernel_rfl) (by simp) ?_;refine fA rfl (fun K H=>?_) fM;go_simp;refine H.out _ _ ?_ (fun _=>?_)
 ·first|exact L|exact M|exact Z
 try simp only[aJ,aK,aH,aG]
 refine wpAnyH_done (by kernel_rfl) ?_ _;go_wp2_with fail;refine⟨rfl,.panicking ({v:=.iface 253 (.agg #[.int .i64 E]),recovered:=true}::O),?_,.tuple #[],?_,rfl,rfl,q6,q7,q8,a9⟩
 ·first|rfl|(cases c₀;simp_all)
 ·simp[results,Tryz.f202]
theorem ZS {P:Program} {E:Func} {p q r:Tmp} {F G H:TypeId} (h:E.results=#[.cell p F,.cell q G,.cell r H]) (tmps:Array Value) (w:World) (d z A:Addr) (I J L:Value)
  (M:tmps.getD p undef=.pointer (some d)) (O:tmps.getD q undef=.pointer (some z)) (T:tmps.getD r undef=.pointer (some A))
  (U:(loadVar F d).run P w=.ok I w) (V:(loadVar G z).run P w=.ok J w) (Y:(loadVar H A).run P w=.ok L w):
  (results E tmps).run P w=.ok (.tuple #[I,J,L]) w:=by
 have Z:tmps[p]?.getD undef=.pointer (some d):=by simpa using M
 have a0:tmps[q]?.getD undef=.pointer (some z):=by simpa using O
 have a1:tmps[r]?.getD undef=.pointer (some A):=by simpa using T
 simp[results,h,Z,a0,a1,asAddr,U,V,Y,jB]
theorem MM {w W:World} {s:List UInt8} {a n z:Nat} {E:Int} {tmps:Array Value} {d A F:Value} (h:eJ s (a:Int) (n:Int)=([],0,E)) (G:w.heap.size=z)
  (H:Arr W z 27 [d]) (I:Arr W (z+1) 3 [A]) (J:Arr W (z+1+1) 30 [F]) (L:Below z w W)
  (M:tmps.getD 6 undef=.pointer (some ⟨z,0,none⟩)) (O:tmps.getD 7 undef=.pointer (some ⟨z+1,0,none⟩)) (T:tmps.getD 8 undef=.pointer (some ⟨z+1+1,0,none⟩)):
  Leaves Tryz.prog Tryz.f164 tmps (fun e w'=>wM w w' s a n e) [{target:=.fn (.func 202) #[.pointer (some ⟨z,0,none⟩),.pointer (some ⟨z+1,0,none⟩),.pointer (some ⟨z+1+1,0,none⟩)],args:=#[]}] (.panicking (ER E)) W:=by
 refine leaves_cons (f:=202) (args:=#[.pointer (some ⟨z,0,none⟩),.pointer (some ⟨z+1,0,none⟩),.pointer (some ⟨z+1+1,0,none⟩)]) (by simp) (by simp[go_sem]) ?_;refine(aPo z E [] W d A F H I J).mono ?_;rintro e u' w' ⟨rfl,rfl,U,V,Y,Z⟩;have c6:=U.cell (i:=0) rfl;have c7:=V.cell (i:=0) rfl;have c8:=Y.cell (i:=0) rfl;refine⟨_,ZS rfl tmps w' _ _ _ (.slice none 0 0) (.int .i64 0) (.int .i64 E) M O T (by simp[go_sem,c6]) (by simp[go_sem,c7]) (by simp[go_sem,c8]),?_⟩;exact yY h (G▸L.trans Z)
theorem aPp (w:World) (t1 d z:TypeId) (v1 v2 v3:Value):∀W,W=((w.alloc (.cells #[v1] t1)).alloc (.cells #[v2] d)).alloc (.cells #[v3] z)->
  (Arr W w.heap.size t1 [v1]/\Arr W (w.heap.size+1) d [v2]/\Arr W (w.heap.size+1+1) z [v3])/\Below w.heap.size w W/\W.heap.size=w.heap.size+1+1+1:=by
 rintro W rfl;have F:=Arr.new w t1 [v1];have A:=Arr.new (w.alloc (.cells #[v1] t1)) d [v2];have E:=Arr.new ((w.alloc (.cells #[v1] t1)).alloc (.cells #[v2] d)) z [v3];have e:∀(W:World) (o:Obj),(W.alloc o).heap.size=W.heap.size+1:=fun W o=>by simp
 rw[e] at A;rw[e,e] at E;refine⟨⟨(F.alloc _).alloc _,A.alloc _,E⟩,?_,by simp⟩;exact(((aB _ w).alloc (aA _) _).alloc (by simp) _).alloc (by simp;omega) _
theorem aPq (s:ByteArray) (a n:Nat) (w:World) (hs:s.size<=1000000) (ha:a<=90000000) (b2:2<=n) (b3:n<=258):
  Calls Tryz.prog 164 #[.string s,.int .i64 (a:Int),.int .i64 (n:Int)] w fun e w'=>wM w w' s.data.toList a n e:=by
 have HL:=hid (show s.data.toList.length=s.size by simp);have t1:decide ((a:Int)<0)=false:=decide_eq_false (by omega);have e3:∀(fn:Fn) (first cap:Array Value) (w:World),(vJ fn first cap).run Tryz.prog w=.ok (.func fn first cap) w:=fun _ _ _ _=>rfl
 have b4:=hid (fun k O=>UF (s:=s.data.toList) (a:=a) (k:=k) b2 b3 O);have c9:=hid (KO s.data.toList a n b2 b3);have h0:=UG s.data.toList (a:Int);rw[HL.out] at h0;have U:=hid h0;clear h0;have b5:=iA s.data.toList (a:Int) 5;have a8:=fQ (n:=s.size) (at':=(a:Int)) (k:=5);have b5:aE s.data.toList (a:Int) 5<32:=b5
 go_enter_defers Tryz.func164,Tryz.ntmps164
 go_wp2_with fail;refine(ZL n _ b2 b3).mono ?_;rintro e w' ⟨rfl,rfl⟩;obtain⟨⟨d,A,E⟩,b6,a9⟩:=aPp w 27 3 30 (.slice none 0 0) (.int .i64 0) (.int .i64 0) _ rfl;generalize ((w.alloc (.cells #[.slice none 0 0] 27)).alloc (.cells #[.int .i64 0] 3)).alloc (.cells #[.int .i64 0] 30)=w0 at*
 obtain⟨z,hz⟩:∃z,w.heap.size=z:=⟨_,rfl⟩;rw[hz] at d A E b6 a9 ⊢;have HZ:=hid hz;clear hz;go_wp2_with fail;have b7:DRd (w0.alloc (.cells #[.string s,.int .i64 (a:Int)] 256)) w0.heap.size s a:=Arr.new w0 256 [.string s,.int .i64 (a:Int)];have d:=d.alloc (.cells #[.string s,.int .i64 (a:Int)] 256);have A:=A.alloc (.cells #[.string s,.int .i64 (a:Int)] 256);have E:=E.alloc (.cells #[.string s,.int .i64 (a:Int)] 256);have b8:=b6.alloc (o:=.cells #[.string s,.int .i64 (a:Int)] 256) (by omega);have d2:(w0.alloc (.cells #[.string s,.int .i64 (a:Int)] 256)).heap.size=z+1+1+1+1:=by simp[a9]
 rw[a9] at b7;generalize w0.alloc (.cells #[.string s,.int .i64 (a:Int)] 256)=w1 at*
 clear b6 a9;refine(MK (z+1+1+1) s a 5 w1 b7 hs (by decide) (by omega)).mono ?_;rintro e w2 (⟨h1,rfl,c2,J⟩|⟨h1,rfl,J⟩)
 rotate_left
 ·have d:=d.grown J (by simp only[ne_eq,iP];omega);have A:=A.grown J (by simp only[ne_eq,iP];omega);have E:=E.grown J (by simp only[ne_eq,iP];omega);have a7:=b8.grown J (by omega) (fun k O=>by obtain rfl:=bW O;omega);have H:=U.out;rw[if_pos h1] at H;have L:=b4.out 0 (by omega) (by rw[H];exact h1);rw[H] at L;go_wp2_with fail;exact MM L HZ.out d A E a7 rfl rfl rfl
 have a8:=a8 h1;have H:=U.out;rw[if_neg (fun k=>k h1)] at H;obtain⟨V,hV⟩:∃V,V=aE s.data.toList (a:Int) 5:=⟨_,rfl⟩;rw[<-hV] at H b5 ⊢;clear hV h1;have d:=d.grown J (by simp only[ne_eq,iP];omega);have A:=A.grown J (by simp only[ne_eq,iP];omega);have E:=E.grown J (by simp only[ne_eq,iP];omega);have a7:=b8.grown J (by omega) (fun k O=>by obtain rfl:=bW O;omega);have c3:z+1+1+1+1<=w2.heap.size:=by have:=J.size;omega
 clear b8 d2 J b7;go_wp2_with fail;refine(ML (z+1+1+1) (V:Int) w2).mono ?_;rintro e w3 (⟨h2,rfl,rfl⟩|⟨h2,rfl,rfl⟩)
 rotate_left
 ·rw[if_pos (by omega)] at H;have L:=b4.out 0 (by omega) (by rw[H];exact(by decide:(3:Int)≠0));rw[H] at L;go_wp2_with fail;exact MM L HZ.out d A E a7 rfl rfl rfl
 rw[if_neg (by omega)] at H;have U:=hid H;clear H;go_wp2_with fail
 go_loopg [10,28] n (fun g d3 d4 wr=>∃(k p:Nat) (m:Int) (v:Value),k<=n/\g=n-k/\d4=.int .i64 (k:Int)/\d3=.int .i64 m/\1<=m/\m<=20/\p<=90000005/\Hid ((aZ s.data.toList (a:Int) k).2.2.2=0/\(aZ s.data.toList (a:Int) k).2.1=m/\(aZ s.data.toList (a:Int) k).2.2.1=(p:Int)/\(aZ s.data.toList (a:Int) k).1.length=k)/\
  Arr wr z 27 [v]/\Arr wr (z+1) 3 [.int .i64 0]/\Arr wr (z+1+1) 30 [.int .i64 0]/\DRd wr (z+1+1+1) s p/\OwI wr (z+1+1+1+1) v (aZ s.data.toList (a:Int) k).1/\Below z w wr/\z+1+1+1+1<=wr.heap.size)
 case atStart=>exact⟨0,a+5,(V:Int),_,aU _,rfl,rfl,rfl,by omega,by omega,by omega,hid ⟨by rw[U.out],by rw[U.out],by rw[U.out];push_cast;rfl,by rw[U.out];rfl⟩,d,A,E,c2,by rw[U.out];exact OwI.nil _ _,a7,c3⟩
 case round=>
  clear d A E c2 a7 c3;obtain⟨k,p,m,v,O,hg,rfl,rfl,c4,c5,e4,Z,d,A,E,hA,ho,b0,e5⟩:=hrel;have HG:=hid hg;clear hg
  by_cases e7:k<n
  ·have v1:decide ((k:Int)<(n:Int))=true:=decide_eq_true (by omega);have T:=UH Z.out.1;rw[Z.out.2.1,Z.out.2.2.1] at T;have b1:=aPl (z+1+1+1) s p m wr hA hs (by omega) c4 c5;have a0:=DA s.data.toList (8*s.data.toList.length+2) (p:Int) m (by omega) c4 c5;rw[HL.out] at a0;rw[show iB s.data.toList (8*s.size+2) (p:Int) m=eD s.data.toList (p:Int) m by unfold eD;rw[HL.out]] at a0;obtain⟨F,q2,q3,hq⟩:∃F q2 q3,eD s.data.toList (p:Int) m=(F,q2,q3):=⟨_,_,_,rfl⟩;rw[hq] at T b1 a0;simp only at T b1 a0;clear hq;go_wp2_with fail;refine b1.mono ?_
   rintro e w3 (⟨hq3,rfl,⟨p',d5,d6⟩,M⟩|⟨hq3,rfl,M⟩)
   rotate_left
   ·rw[if_pos hq3] at T;have L:=b4.out (k+1) (by omega) (by rw[T];exact hq3);rw[T] at L;have d:=d.grown M (by simp only[ne_eq,iP];omega);have A:=A.grown M (by simp only[ne_eq,iP];omega);have E:=E.grown M (by simp only[ne_eq,iP];omega);have b9:=b0.grown M (by omega) (fun k O=>by obtain rfl:=bW O;omega);go_wp2_with fail;exact MM L HZ.out d A E b9 rfl rfl rfl
   subst hq3;subst d5;rw[if_neg (fun k=>k rfl)] at T;obtain⟨a1,a2,a3,a4⟩:=a0 rfl;have HS:=hid T;clear T;have e8:(aZ s.data.toList (a:Int) k).1.length<=258:=by rw[Z.out.2.2.2];omega
   have d:=d.grown M (by simp only[ne_eq,iP];omega);have A:=A.grown M (by simp only[ne_eq,iP];omega);have E:=E.grown M (by simp only[ne_eq,iP];omega);have e9:z+1+1+1+1<=w3.heap.size:=by have:=M.size;omega
   have d7:OwI w3 (z+1+1+1+1) v (aZ s.data.toList (a:Int) k).1:=Ow.kept ho M (by
    rcases hob:v.ownBlock with _|kb
    ·exact .inl rfl
    ·have:=(Ow.lt ho kb hob).1;refine .inr (fun e=>?_);have:=bW e;omega)
   have b9:=b0.grown M (by omega) (fun k O=>by obtain rfl:=bW O;omega);have c6:=d.cell (i:=0) rfl;clear ho b0;have c0:z<z+1+1+1+1:=by omega
   have d8:z+1<z+1+1+1+1:=by omega
   have d9:z+1+1<z+1+1+1+1:=by omega
   have e0:z+1+1+1<z+1+1+1+1:=by omega
   clear b1 a0 a8;go_wp2_with (at_builtin;refine eN rfl _ _ rfl (z+1+1+1+1) _ _ rfl (OwI.alloc d7 _) _ F rfl (bS _ _ _) ?_ ?_ ?_;(omega);(simp;omega);intro v4 w4 r1 Y r3;obtain⟨a5,a6,rfl,_,_,_⟩:=(OwI.rd r1).open;have f6:=((d.alloc (.cells #[.int .i64 F] 3)).below Y c0).free 0;have e6:=((d.alloc (.cells #[.int .i64 F] 3)).below Y c0).cell (i:=0) rfl);have k6:=((d.alloc (.cells #[.int .i64 F] 3)).below Y c0).set 0 (.slice a5 ((aZ s.data.toList (a:Int) k).1.length+1) a6)
   have k7:=((A.alloc (.cells #[.int .i64 F] 3)).below Y d8).other ⟨z,0,none⟩ (by show _≠_;simp only[ne_eq];omega) (.slice a5 ((aZ s.data.toList (a:Int) k).1.length+1) a6);have k8:=((E.alloc (.cells #[.int .i64 F] 3)).below Y d9).other ⟨z,0,none⟩ (by show _≠_;simp only[ne_eq];omega) (.slice a5 ((aZ s.data.toList (a:Int) k).1.length+1) a6);have kA:=((Arr.alloc d6 (.cells #[.int .i64 F] 3)).below Y e0).other ⟨z,0,none⟩ (by show _≠_;simp only[ne_eq];omega) (.slice a5 ((aZ s.data.toList (a:Int) k).1.length+1) a6)
   have kB:=((b9.alloc (o:=.cells #[.int .i64 F] 3) (by omega)).trans (Y.mono (by omega))).setCell (p:=⟨z,0,none⟩) (aA _) (.slice a5 ((aZ s.data.toList (a:Int) k).1.length+1) a6);have hg:=HG.out
   go_roundg (n-(k+1))
   case measure=>omega
   case rel=>
    refine⟨k+1,p',F,_,by omega,rfl,by go_num,rfl,a1,a2,by omega,hid ⟨by rw[HS.out],by rw[HS.out],by rw[HS.out],by rw[HS.out,aL,Z.out.2.2.2];rfl⟩,k6,k7,k8,kA,?_,kB,?_⟩
    ·rw[HS.out];rw[aL] at r1;refine Ow.kept r1 (gbS w4 z 0 _) ?_;rcases hob:(lK a5 ((aZ s.data.toList (a:Int) k).1.length+[F].length) a6).ownBlock with _|kb
     ·exact .inl rfl
     ·have:=(Ow.lt r1 kb hob).1;refine .inr (fun e=>?_);have:=bW e;omega
    ·have:=Y.size;simp only[fV] at this;simp only[World.size_setCell];omega
  ·have v1:decide ((k:Int)<(n:Int))=false:=decide_eq_false (by omega);have e1:k=n:=by omega
   subst e1;have c1:=c9.out;rw[if_neg (fun q=>q Z.out.1),Z.out.2.2.1] at c1;have L:=hid c1;obtain⟨G,I,rfl,_,_,_⟩:=(OwI.rd ho).open;have c6:=d.cell (i:=0) rfl;have c7:=A.cell (i:=0) rfl;have c8:=E.cell (i:=0) rfl;have f6:=d.free 0;have f7:=A.free 0;have f8:=E.free 0;have d0:=Arr.cell hA (i:=0) rfl;have d1:=Arr.cell hA (i:=1) rfl;clear c1 a8;go_wp2_with fail
   go_region
   go_wp2_with fail;refine leaves_cons (f:=202) (args:=#[.pointer (some ⟨z,0,none⟩),.pointer (some ⟨z+1,0,none⟩),.pointer (some ⟨z+1+1,0,none⟩)]) (by simp) (by simp[go_sem]) ?_;refine(aPm ⟨z,0,none⟩ ⟨z+1,0,none⟩ ⟨z+1+1,0,none⟩ _).mono ?_;rintro e u' f0 ⟨rfl,rfl,rfl⟩;have e2:=HZ.out;have k6:=((d.set 0 (.slice G (aZ s.data.toList (a:Int) k).1.length I)).other ⟨z+1,0,none⟩ (by show _≠_;simp only[ne_eq];omega) (.int .i64 (p:Int))).other ⟨z+1+1,0,none⟩ (by show _≠_;simp only[ne_eq];omega) (.int .i64 0)
   have k7:=((A.other ⟨z,0,none⟩ (by show _≠_;simp only[ne_eq];omega) (.slice G (aZ s.data.toList (a:Int) k).1.length I)).set 0 (.int .i64 (p:Int))).other ⟨z+1+1,0,none⟩ (by show _≠_;simp only[ne_eq];omega) (.int .i64 0);have k8:=((E.other ⟨z,0,none⟩ (by show _≠_;simp only[ne_eq];omega) (.slice G (aZ s.data.toList (a:Int) k).1.length I)).other ⟨z+1,0,none⟩ (by show _≠_;simp only[ne_eq];omega) (.int .i64 (p:Int))).set 0 (.int .i64 0)
   have kB:=((b0.setCell (p:=⟨z,0,none⟩) (aA _) (.slice G (aZ s.data.toList (a:Int) k).1.length I)).setCell (p:=⟨z+1,0,none⟩) (pI _) (.int .i64 (p:Int))).setCell (p:=⟨z+1+1,0,none⟩) (by show z<=z+1+1;omega) (.int .i64 0);have kv:∀(q:Nat) (V:Value) (W:World),q<z+1+1+1+1->OwI W (z+1+1+1+1) (lK G (aZ s.data.toList (a:Int) k).1.length I) (aZ s.data.toList (a:Int) k).1->OwI (W.setCell ⟨q,0,none⟩ V) (z+1+1+1+1) (lK G (aZ s.data.toList (a:Int) k).1.length I) (aZ s.data.toList (a:Int) k).1:=fun q V W hq h=>by
    refine Ow.kept h (gbS W q 0 V) ?_;rcases hob:(lK G (aZ s.data.toList (a:Int) k).1.length I).ownBlock with _|kb
    ·exact .inl rfl
    ·have:=(Ow.lt h kb hob).1;refine .inr (fun e=>?_);have:=bW e;omega
   have kO:=kv (z+1+1) (.int .i64 0) _ (by omega) (kv (z+1) (.int .i64 (p:Int)) _ (by omega) (kv z (.slice G (aZ s.data.toList (a:Int) k).1.length I) _ (by omega) ho));generalize ((wr.setCell ⟨z,0,none⟩ (.slice G (aZ s.data.toList (a:Int) k).1.length I)).setCell ⟨z+1,0,none⟩ (.int .i64 (p:Int))).setCell ⟨z+1+1,0,none⟩ (.int .i64 0)=w5 at*
   have k6:Arr w5.drew z 27 [.slice G (aZ s.data.toList (a:Int) k).1.length I]:=k6;have k7:Arr w5.drew (z+1) 3 [.int .i64 (p:Int)]:=k7;have k8:Arr w5.drew (z+1+1) 30 [.int .i64 0]:=k8;have kO:OwI w5.drew (z+1+1+1+1) (.slice G (aZ s.data.toList (a:Int) k).1.length I) (aZ s.data.toList (a:Int) k).1:=kO;have kB:=kB.drew;generalize w5.drew=w6 at*
   have c6:=k6.cell (i:=0) rfl;have c7:=k7.cell (i:=0) rfl;have c8:=k8.cell (i:=0) rfl;refine⟨_,ZS rfl _ w6 ⟨z,0,none⟩ ⟨z+1,0,none⟩ ⟨z+1+1,0,none⟩ (.slice G (aZ s.data.toList (a:Int) k).1.length I) (.int .i64 (p:Int)) (.int .i64 0) rfl rfl rfl (by simp[go_sem,c6]) (by simp[go_sem,c7]) (by simp[go_sem,c8]),?_⟩;exact⟨_,by rw[L.out],by rw[L.out];exact Ow.base kO (by omega),by rw[e2];exact kB⟩
end
section
open Go.RowKit Go Go.Shelf
attribute [local go_sem] Oper.semAt_some
theorem aPw {n:Nat} {F:Fence} {A:Array Oper} {rest:List Oper} {o:Oper} {a:Act} {Q:Exit->Act->World->Prop} {w:World} (H:o.guard=none) (s x:Operand)
  (I:o.op=.call {callee:=.builtin .append,args:=#[s,x],argTypes:=#[27,27]}) (base:Nat) (v:Value) (l:List Int) (hs:a.eval s=v) (hown:OwI w base v l)
  (g:Nat) (y:Int) (hx:a.eval x=.slice (some ⟨g,0,none⟩) 1 1) (hc:w.cell? ⟨g,0,none⟩=some (.int .i64 y)) (hroom:(l.length+1)*8<=140737488355328) (hbase:base<=w.heap.size)
  (h:∀d w',OwI w' base d (l++[y])->Below base w w'->w.grownBy w' v.ownBlock->wpListIn F n Tryz.prog A Q rest (a.put o.dst d) w'):wpListIn F n Tryz.prog A Q (o::rest) a w:=by
 obtain⟨i,hi,J,L,M⟩:=gL.info;have O:(bO .i64 0).cells.size=1:=by rw[gL.cells];rfl
 have E:w.ownsRow base 3 1 v l.length (l.map (bO .i64)):=by have:=hown;unfold OwI Ow at this;rwa[bJ] at this
 refine wpListIn_append_own w H s x 27 I base 3 i (.int .i64 0) 1 8 gL.under hi J L M O (by decide) v l.length (l.map (bO .i64)) hs E ⟨g,0,none⟩ 1 1 [.int .i64 y] hx rfl ?_ (by simp[Value.oneCell']) (by simp only[maxLen];omega) hroom hbase (fun d w' T G _=>h d w' ?_ (rC E G hbase) G)
 ·intro j U z
  cases j with
  |zero=>simp at z;subst z;simpa [Addr.add] using hc
  |succ j=>simp at z
 ·unfold OwI Ow;rw[fI,aL]
  simpa using T
def iY (l:List Int) (k:Nat):List Nat:=(dG k).filter (fun n=>decide (bU l n≠0))
theorem ZY (l:List Int) (k:Nat):iY l (k+1)=iY l k++if bU l k≠0 then[k] else[]:=by
 unfold iY;rw[List.range_succ,List.filter_append]
 congr 1
 by_cases h:bU l k≠0
 ·rw[if_pos h,List.filter_cons_of_pos (by simpa using h),NP]
 ·rw[if_neg h,aTp (by simpa using h),NP]
theorem ZZ (l:List Int):∀m k,∃r,iY l (k+m)=iY l k++r
 |0,k=>⟨[],by simp⟩
 |m+1,k=>by
  obtain⟨r,d⟩:=ZZ l m k;rw[show k+(m+1)=k+m+1 by omega,ZY,d,cF];exact⟨_,rfl⟩
def lI (l:List Int) (n i:Nat):List Int:=(lR l n i).map (fun s:Nat=>(s:Int))
theorem ET (l:List Int) (n i:Nat) (h:i<=l.length):(lI l n i).length=bU (l.take i) n:=by unfold lI;rw[bJ,BO l n i h]
theorem aPx (l:List Int) (n i:Nat):lI l n (i+1)=lI l n i++if l.getD i 0==(n:Int) then[(i:Int)] else[]:=by
 unfold lI;rw[II,fI]
 congr 1
 split<;>rfl
def tI (l:List Int) (x:Nat×Value):Array Value:=#[.agg #[.int .i64 (x.1:Int),.int .u64 (fC l x.1:Int),x.2]]
def xA (l:List Int) (B:Nat) (d:List (Nat×Value)) (x:Nat×Value) (W:World):Prop:=
 (∃r,d.map (·.1)++x.1::r=iY l 21)/\(1<=x.1/\x.1<=20)/\0<bU l x.1/\d.map (·.1)=iY l x.1/\OwI W B x.2 (lI l x.1 l.length)
theorem aPy (n:Nat) (hn:1<=n) (l0 Bs H L o1 ca:Nat) (d:List Int) (hE:bL d=0) (J Jx:List (Nat×Value)->World->Prop) (W:World)
  (hA:Arr W Bs 27 [.slice (some ⟨L,o1,none⟩) d.length ca]) (hc:∀i x,d[i]? =some x->W.cell? ⟨L,o1+i,none⟩=some (.int .i64 x)) (d5:L≠H) (d6:Bs≠H) (g8:H<W.heap.size) (d7:L<W.heap.size)
  (b5:∀s A B,J s A->Below W.heap.size A B->J s B)
  (hY:∀z x W1,J z W1->W.heap.size<=W1.heap.size->xA d W.heap.size z x W1->YieldAt eA (n-1) Tryz.prog l0 (tI d x) W1 fun e Z=>(e=.returned (.bool true)/\J (z++[x]) Z/\dP (some H) W1 Z)\/(e=.returned (.bool false)/\Jx (z++[x]) Z))
  (h0:J [] W):
  mD eA n Tryz.prog 198 #[.func (.yield l0) #[] #[],.pointer (some ⟨Bs,0,none⟩)] W fun e Z=>(∃v,e=.returned v)/\((∃xs:List (Nat×Value),xs.map (·.1)=iY d 21/\J xs Z)\/∃z,Jx z Z):=by
 have M:=eH hE;have d8:=hid (fun i (h:i<d.length)=>(jG M.1 h));have g9:=M.1.2.1;have d9:=hid (fun k (hk:k<=20)=>DJ (i:=d.length) M.1 M.2 hk);have e0:=hid (PA (fun x O=>(M.1.2.2 x O).1));have e1:=hid (show iY d 1=[] by
  unfold iY;rw[show dG 1=[0] from rfl,aTp (by simp[OZ (fun x O=>(M.1.2.2 x O).1)]),NP])
 have b6:=hid b5;have e4:=hid hc;clear M b5 hc;refine tW Tryz.func198 rfl trivial ?_ rfl;simp only[Tryz.ntmps198,mY,cR,cX,lZ,mZ,lL,lM,lN,lO,iG,gE]
 gi_wp2_with fail
 gi_loopg [3,4] 20 (fun g s3 s4 wr=>∃(k V:Nat) (z:List (Nat×Value)),1<=k/\k<=21/\g=21-k/\s4=.int .i64 (k:Int)/\s3=.int .u64 (V:Int)/\Hid (2*V=fC d k)/\V<=1048576/\Hid (z.map (·.1)=iY d k)/\J z wr/\W.heap.size<=wr.heap.size/\dP (some H) W wr)
 case atStart=>exact⟨1,0,[],by omega,by omega,rfl,rfl,rfl,hid (by rw[e0.out]),by omega,hid (by rw[e1.out];rfl),h0,aA _,dP.refl _ _⟩
 case round=>
  obtain⟨k,V,z,e5,i0,T,rfl,rfl,HV,i1,HP,hJ,b7,a1⟩:=hrel;have HG:=hid T;clear T
  by_cases hk:k<=20
  ·have t1:decide ((k:Int)<=20)=true:=decide_eq_true (by omega);obtain⟨X,hX⟩:∃X,X=2*V:=⟨_,rfl⟩;have HX:=hid (show X=fC d k by rw[hX,HV.out]);have m1:fU.wrap ((V:Int)*2)=(X:Int):=by rw[gF];omega
   have m2:(V:Int)*2=(X:Int):=by omega
   have m3:(V:Int)*2%18446744073709551616=(X:Int):=by omega
   have m4:fU.wrap (X:Int)=(X:Int):=by rw[gF];omega
   have i2:X<=2097152:=by omega
   have a8:=a1.arr hA (by simp;exact d6);have e6:=a8.lt;have c0:=a8.cell (i:=0) rfl;clear hX a8
   gi_wp2_with fail
   have E:=Arr.new wr 203 [.int .i64 (k:Int),.int .u64 (X:Int),.slice none 0 0];change Arr (wr.alloc (.cells #[.int .i64 (k:Int),.int .u64 (X:Int),.slice none 0 0] 203)) _ _ _ at E;have F:Below wr.heap.size wr (wr.alloc (.cells #[.int .i64 (k:Int),.int .u64 (X:Int),.slice none 0 0] 203)):=bD (aB _ _) _;have e7:(wr.alloc (.cells #[.int .i64 (k:Int),.int .u64 (X:Int),.slice none 0 0] 203)).heap.size=wr.heap.size+1:=by simp
   generalize wr.alloc (.cells #[.int .i64 (k:Int),.int .u64 (X:Int),.slice none 0 0] 203)=w1 at*
   obtain⟨S,hS⟩:∃S,S=wr.heap.size:=⟨_,rfl⟩;rw[<-hS] at E F e7 ⊢;have b8:∀i x,d[i]? =some x->wr.cell? ⟨L,o1+i,none⟩=some (.int .i64 x):=fun i x hi=>a1.cell (e4.out i x hi) (by simp;exact d5)
   have b9:=hid b8;have e8:L<S:=by rw[hS];exact dR d7 b7
   have e9:J z w1:=b6.out _ _ _ hJ (F.mono (by omega));have f0:dP (some H) W w1:=a1.trans (dP.of_below (by rw[<-hS];exact F));have f1:W.heap.size<=S:=by omega
   obtain⟨W0,f2⟩:∃W0,W0=wr:=⟨_,rfl⟩;rw[<-f2] at F b9 b7 a1 hJ hS;have f3:=hid hJ;have HS:=hid hS;clear hS b8 c0 e6 hJ e9 f0
   gi_loopg [6,7,19] d.length (fun g _s6 _s7 f4 wx=>∃(i:Nat) (u:Value),i<=d.length/\g=d.length-i/\f4=.int .i64 (i:Int)/\Arr wx S 203 [.int .i64 (k:Int),.int .u64 (X:Int),u]/\OwI wx (S+1) u (lI d k i)/\Below S W0 wx/\S<wx.heap.size)
   case atStart=>exact⟨0,.slice none 0 0,aU _,rfl,rfl,E,OwI.nil _ _,F,by omega⟩
   case round=>
    clear E F;obtain⟨i,u,hi,T,rfl,E,ho,F,f5⟩:=hrel;have c2:=hid T;clear T
    by_cases f6:i<d.length
    ·have t2:decide ((i:Int)<(d.length:Int))=true:=decide_eq_true (by omega);obtain⟨f7,f8,O⟩:=d8.out i f6;have c1:=(F.cell (p:=⟨L,o1+i,none⟩) e8).trans (b9.out i _ O);have c4:d.getD i 0=(bG d i:Int):=by rw[aV,O];rfl
     have U:=aPx d k i;rw[c4] at U;obtain⟨x,c5⟩:∃x,x=bG d i:=⟨_,rfl⟩;rw[<-c5] at c1 U f7 f8;clear c5 O c4;have d2:=E.cell (i:=2) rfl;have a5:(lI d k i).length<=258:=by rw[ET d k i (by omega)];unfold bU;exact aW xR (by rw[aX];omega)
     have f9:some S≠u.ownBlock:=fun e=>by have:=(Ow.lt ho S e.symm).1;omega
     by_cases g0:x=k
     ·subst g0;have t3:decide ((x:Int)=(x:Int))=true:=decide_eq_true rfl;have a9:=U;rw[if_pos (by simp)] at a9;have b0:=hid a9;clear U a9
      gi_wp2_with (gi_at_builtin;refine aPw rfl _ _ rfl (S+1) _ _ rfl (OwI.alloc ho _) _ (i:Int) rfl (bS _ _ _) ?_ ?_ ?_;(omega);(simp;omega);intro v3 w3 p1 p2 p3;(obtain⟨a3,c3,g1,_,_,_⟩:=(OwI.rd p1).open);subst g1;(have a2:=(E.alloc (.cells #[.int .i64 (i:Int)] 3)).grown p3 f9);(have e2:=a2.cell (i:=2) rfl);(have g2:=a2.free 2))
      have g3:=c2.out
      gi_roundg (d.length-(i+1))
      case measure=>omega
      case rel=>
       have e3:(lI d x i++[(i:Int)]).length=(lI d x i).length+1:=by simp
       rw[e3] at p1;have g4:Value.ownBlock (.slice a3 ((lI d x i).length+1) c3)≠some S:=fun e=>by have:=(Ow.lt p1 S e).1;omega
       refine⟨i+1,.slice a3 ((lI d x i).length+1) c3,by omega,rfl,by go_num,a2.set 2 _,?_,(((F.alloc (by omega) _).trans (p2.mono (by omega))).setCell (p:=⟨S,2,none⟩) (aA _) _),?_⟩
       ·rw[b0.out];exact Ow.kept p1 (MP w3 S 2 _) (.inr g4)
       ·have:=p2.size;simp at this ⊢;omega
     ·have t3:decide ((x:Int)=(k:Int))=false:=decide_eq_false (by omega);rw[if_neg (by simp;omega),eE] at U;have b0:=hid U;clear U
      gi_wp2_with fail
      have g3:=c2.out
      gi_roundg (d.length-(i+1))
      case measure=>omega
      case rel=>exact⟨i+1,u,by omega,rfl,by go_num,E,by rw[b0.out];exact ho,F,f5⟩
    ·have t2:decide ((i:Int)<(d.length:Int))=false:=decide_eq_false (by omega);have g5:i=d.length:=by omega
     subst g5;obtain⟨C,Y⟩:∃C,C=bU d k:=⟨_,rfl⟩;have a5:(lI d k d.length).length=C:=by rw[ET d k _ (aA _),kE,Y]
     have a6:=d9.out k hk;unfold iW at a6;rw[kE,<-HX.out,<-Y] at a6;obtain⟨G,b2⟩:∃G,G=X+C:=⟨_,rfl⟩;have m5:fU.wrap (C:Int)=(C:Int):=by rw[gF];omega
     have m6:(C:Int)%18446744073709551616=(C:Int):=by omega
     have m7:fU.wrap (G:Int)=(G:Int):=by rw[gF];omega
     have m8:(X:Int)+(C:Int)=(G:Int):=by omega
     have c6:G<=1048576:=by omega
     have c7:=hid (show 2*G=fC d (k+1) by rw[b2,HX.out,Y];rfl);have I:=ZY d k;rw[<-Y] at I;have c8:J z wr:=b6.out _ _ _ f3.out (F.mono f1);have c9:dP (some H) W wr:=a1.trans (dP.of_below (by rw[<-HS.out];exact F));obtain⟨r',a7⟩:=ZZ d (21-(k+1)) (k+1);rw[show k+1+(21-(k+1))=21 by omega] at a7;obtain⟨a',a0,d3,_,_,_⟩:=(OwI.rd ho).open;rw[a5] at d3;subst d3;have d2:=E.cell (i:=2) rfl;have d0:=E.cell (i:=0) rfl;have d1:=E.cell (i:=1) rfl
     by_cases d4:C=0
     ·have t3:decide ((C:Int)>0)=false:=decide_eq_false (by omega);have t4:decide (0<C)=false:=decide_eq_false (by omega);have t5:¬0<C:=by omega
      rw[if_neg (fun q=>q d4),eE] at I;obtain rfl:G=X:=by omega
      have a4:=hid (show z.map (·.1)=iY d (k+1) by rw[HP.out,I]);clear Y I b2 a7 a6 a5
      gi_wp2_with fail
      refine⟨fun _ h=>(by cases h),?_⟩
      gi_wp2_with fail
      have T:=HG.out
      gi_roundg (21-(k+1))
      case measure=>omega
      case rel=>exact⟨k+1,G,z,by omega,by omega,rfl,by go_num,rfl,c7,c6,a4,c8,by omega,c9⟩
     ·have t3:decide ((C:Int)>0)=true:=decide_eq_true (by omega);have t4:decide (0<C)=true:=decide_eq_true (by omega);have t5:0<C:=by omega
      rw[if_pos d4] at I;have a4:=hid (show(z++[(k,lK a' C a0)]).map (·.1)=iY d (k+1) by rw[fI,HP.out,I];rfl);obtain⟨fn,tmps,assign,body,hy,hR⟩:=hY z (k,.slice a' C a0) wr c8 (by omega) ⟨⟨r',by rw[HP.out,a7,I,cF];rfl⟩,⟨e5,hk⟩,by rw[<-Y];omega,HP.out,OwI.base ho (by omega)⟩;have hy2:(Instr.yield l0 #[.agg #[.int .i64 (k:Int),.int .u64 (X:Int),.slice a' C a0]]).run Tryz.prog wr=.ok (.round l0 fn tmps assign body) wr:=by
       have e:tI d (k,.slice a' C a0)=#[.agg #[.int .i64 (k:Int),.int .u64 (X:Int),.slice a' C a0]]:=by unfold tI;rw[HX.out]
       rw[<-e];exact hy
      have g6:some S≠some H:=fun e=>by injection e with e;omega
      clear Y I b2 a7 a6 a5 hy
      gi_wp2_with fail
      refine hR.mono ?_;rintro e W3 (⟨rfl,b3,b4⟩|⟨rfl,b3⟩)
      ·have a2:=b4.arr E g6;have e2:=a2.cell (i:=2) rfl;have i3:=b4.1;clear d0 d1 d2
       gi_wp2_with fail
       have T:=HG.out
       gi_roundg (21-(k+1))
       case measure=>omega
       case rel=>exact⟨k+1,G,z++[(k,.slice a' C a0)],by omega,by omega,rfl,by go_num,rfl,c7,c6,a4,b3,by omega,c9.trans b4⟩
      ·gi_wp2_with fail
       refine gJ (results_none rfl _ _ _) rfl ?_;exact⟨⟨_,rfl⟩,.inr ⟨_,b3⟩⟩
  ·have t1:decide ((k:Int)<=20)=false:=decide_eq_false (by omega);have g7:k=21:=by omega
   have a4:=hid (show z.map (·.1)=iY d 21 by rw[HP.out,g7])
   gi_wp2_with fail
   go_end0
   exact⟨⟨_,rfl⟩,.inl ⟨z,a4.out,hJ⟩⟩
theorem aPz {F:Fence} {m:Nat} {P:Program} {A:Array Oper} {rest:List Oper} {o:Oper} {a:Act} {Q:Exit->Act->World->Prop} {w:World} {t e E:Nat} {z x y:Value} (H:P.underlying t=some (.slice e)) (I:(P.info? e).map (fun i=>(i.zero,i.size,i.bytes))=some (some z,2,E)) (J:z.cells=#[x,y]) (L:o.guard=none) (l c:Operand)
  (d:o.op=.makeSlice t l c) (n:Nat) (M:a.eval l=.int .i64 (n:Int)) (O:a.eval c=.int .i64 (n:Int)) (a1:n*E<=140737488355328) (hn:n<=140737488355328)
  (h:wpListIn F m P A Q rest (a.put o.dst (.slice (some ⟨w.heap.size,0,none⟩) n n)) (w.alloc (.cells (cD n (fun _=>(x,y))).toArray e))):wpListIn F m P A Q (o::rest) a w:=by
 refine wpListIn_plain L fun K T=>?_
 obtain⟨i,hi,U,V,Y⟩:=info_parts I;have Z:(i.bytes:Int)*(n:Int)<=281474976710656:=by
  rw[Y,<-Int.natCast_mul,Nat.mul_comm];omega
 have G:=run_make (P:=P) w t e i z H hi U .i64 .i64 (n:Int) (n:Int) (by omega) (Int.le_refl _) Z (by omega);rw[V,eG,J,SW] at G;unfold Oper.wpIn;refine⟨?_,?_⟩
 ·simp[Oper.about,d]
 ·rw[Oper.semAt_plain F _ _ (by rw[d];intro c a0;cases a0)];simp[execOp,d,M,O,G,jB];exact T _ _ h
theorem aAa (n:Nat) (b o d cap:Nat) (w:World):
  mD eA n Tryz.prog 151 #[.slice (some ⟨b,o,none⟩) d cap] w fun e w'=>e=.returned (.func (.func 198) #[] #[.pointer (some ⟨w.heap.size,0,none⟩)])/\w'=w.alloc (.cells #[.slice (some ⟨b,o,none⟩) d cap] 27):=by
 refine tW Tryz.func151 rfl trivial ?_ rfl;simp only[Tryz.ntmps151,mY,cR,cX,lZ,mZ,lL,lM,lN,lO,iG,gE]
 gi_wp2
 go_ret;exact⟨rfl,rfl⟩
def kR (l:List Int) (S:List Nat) (n i d:Nat):Value×Value:=if bG l d∈S\/(bG l d=n/\bU (l.take d) n<i) then qP l d else(.int .i64 0,.int .u64 0)
theorem aP0 (l:List Int) (n:Nat):cD l.length (kR l [] n 0)=cD l.length (fun _=>(.int .i64 0,.int .u64 0)):=
 rS fun d _=>by
  unfold kR;rw[if_neg (by simp)]
theorem aP1 (l:List Int) (S:List Nat) (n m:Nat):cD l.length (kR l S n 0)=cD l.length (kR l S m 0):=
 rS fun d _=>by
  unfold kR
  by_cases h:bG l d∈S
  ·rw[if_pos (.inl h),if_pos (.inl h)]
  ·rw[if_neg (by simp[h]),if_neg (by simp[h])]
theorem aP2 {l:List Int} (h:fY l) (S:List Nat) (n m:Nat):cD l.length (kR l S n (bU l n))=cD l.length (kR l (S++[n]) m 0):=
 rS fun d E=>by
  unfold kR
  by_cases A:bG l d∈S
  ·rw[if_pos (.inl A),if_pos (.inl (by simp[A]))]
  ·by_cases z:bG l d=n
   ·have:=BK E (jG h E).2.2;rw[z] at this;rw[if_pos (.inr ⟨z,this⟩),if_pos (.inl (by simp[z]))]
   ·rw[if_neg (by simp[A,z]),if_neg (by simp[A,z])]
theorem aP3 {l:List Int} (h:fY l) (m:Nat):cD l.length (kR l (iY l 21) m 0)=cD l.length (qP l):=
 rS fun d z=>by
  have A:=jG h z;have F:=BK z A.2.2;have E:bG l d∈iY l 21:=by
   unfold iY;rw[List.mem_filter,List.mem_range];refine⟨by omega,?_⟩;rw[decide_eq_true_eq];omega
  unfold kR;rw[if_pos (.inl E)]
theorem aP4 {l:List Int} (h:fY l) {S:List Nat} {n i s:Nat} (L:(lR l n l.length)[i]? =some s):
  s<l.length/\((cD l.length (kR l S n i)).set (s*2) (.int .i64 (n:Int))).set (s*2+1) (.int .u64 ((fC l n+i:Nat):Int))=cD l.length (kR l S n (i+1)):=by
 obtain⟨F,M,O⟩:=PF l n l.length (aA _) i s L;have T:=jG h F;have G:bG l s=n:=by unfold bG;rw[M];rfl
 refine⟨F,KG _ _ _ _ _ _ fun d H=>?_⟩;unfold kR
 by_cases e:d=s
 ·subst e;rw[if_pos (.inr ⟨G,by omega⟩),if_pos rfl];unfold qP fO;rw[G,O]
 ·rw[if_neg e]
  by_cases A:bG l d∈S
  ·rw[if_pos (.inl A),if_pos (.inl A)]
  ·by_cases E:bG l d=n
   ·have I:=(jG h H).2.2;rw[E] at I;have J:=T.2.2;rw[G] at J;have V:bU (l.take d) n≠i:=fun q=>by
     rcases Nat.lt_trichotomy d s with z|z|z
     ·have:=BP z F I;omega
     ·exact e z
     ·have:=BP z H J;omega
    by_cases U:bU (l.take d) n<i
    ·rw[if_pos (.inr ⟨E,by omega⟩),if_pos (.inr ⟨E,U⟩)]
    ·rw[if_neg (by simp[A];omega),if_neg (by simp[A];omega)]
   ·rw[if_neg (by simp[A,E]),if_neg (by simp[A,E])]
theorem aAb (n:Nat) (I:1<=n) (Bs A z E G:Nat) (d:List Int) (L:bL d=0) (w:World) (H:Arr w Bs 27 [.slice (some ⟨z,E,none⟩) d.length G]) (M:∀i x,d[i]? =some x->w.cell? ⟨z,E+i,none⟩=some (.int .i64 x)) (O:z≠A) (T:Bs≠A) (a0:A<w.heap.size) (U:z<w.heap.size):
  ZW n Tryz.prog 198 #[.pointer (some ⟨Bs,0,none⟩)] (tI d) (dP (some A)) (xA d) (fun xs=>xs.map (·.1)=iY d 21) w:=fun l J V W F Y _ Z h0=>by
 have hs:=F.size;exact aPy n I l Bs A z E G d L J V W (H.below F H.lt) (fun i x hi=>(F.cell (p:=⟨z,E+i,none⟩) U).trans (M i x hi)) O T (by omega) (by omega) Y Z h0
theorem aAc {d:List Int}:∀(B:Nat) (z:List (Nat×Value)) (x:Nat×Value) (A E:World),xA d B z x A->dP none A E->xA d B z x E:=fun _ _ _ _ _ ⟨F,G,H,I,J⟩ L=>⟨F,G,H,I,dP.ow L J (fun _ _ e=>by cases e)⟩
theorem aP5 {B g:Nat} {A C:World} (h:A.grownBy C (some g)) (d:B<=g) (z:B<=A.heap.size):Below B A C:=(aB B A).grown h z (fun k E=>by cases E;exact d)
theorem aAd {A B C:World} {g:Option Nat} (h:A.grownBy B g) (k:B.grownBy C g):A.grownBy C g:=
 ⟨k.os.trans h.os,k.tape.trans h.tape,k.output.trans h.output,aW h.size k.size,fun i hi d=>(k.block i (dR hi h.size) d).trans (h.block i hi d)⟩
theorem aP6 (A:World) (g:Option Nat):A.grownBy A g:=⟨rfl,rfl,rfl,aA _,fun _ _ _=>rfl⟩
theorem aP7 (n:Nat) (hn:3<=n) (v:Value) (l:List Int) (w:World) (hr:RdI w v l):
  mD eA n Tryz.prog 95 #[v] w fun e w'=>∃u,e=.returned (.tuple #[u,.int .i64 (bL l)])/\(bL l=0->Wds w' w.heap.size u l)/\(bL l≠0->u=.slice none 0 0)/\Below w.heap.size w w':=by
 have h1:1<=n:=by omega
 obtain⟨a,H,rfl,g1,d4,hA⟩:=hr.open;unfold maxLen at d4;refine callsIn_of_wp_marks Tryz.func95 rfl trivial ?_ rfl;simp only[Tryz.ntmps95,mY,cR,cX,lZ,mZ,lL,lM,lN,lO,iG,gE]
 by_cases J:bL l=0
 rotate_left
 ·have Z:=hid J;obtain⟨E,a2⟩:∃E,E=bL l:=⟨_,rfl⟩;rw[<-a2] at J;have g2:(E != 0)=true:=by simpa using J
  gi_wp2_with fail
  refine⟨trivial,(callsIn_wide.2 (zS _ l _ hr)).mono ?_⟩;rintro e d ⟨rfl,a4⟩;rw[<-a2];have d5:=hid a2;clear a2
  gi_wp2_with fail
  exact⟨_,results_tmp2 rfl _ _ _,.slice none 0 0,by rw[d5.out];rfl,fun q=>absurd q Z.out,fun _=>rfl,a4⟩
 ·have T:=eH J;have HO:=hid T.1;have d6:=hid (fun k (hk:k<=20)=>DJ (i:=0) T.1 T.2 hk);have d7:=T.1.2.1;have g3:=T.1.1;obtain⟨z,F,rfl,a4,b2⟩:=hA (by omega)
  gi_wp2_with fail
  refine⟨trivial,(callsIn_wide.2 (zS _ l _ hr)).mono ?_⟩;rintro e d ⟨rfl,a3⟩;rw[J];have Z:=hid J;have b3:∀i x,l[i]? =some x->d.cell? ⟨z,F+i,none⟩=some (.int .i64 x):=fun i x hi=>(a3.cell (p:=⟨z,F+i,none⟩) a4).trans (b2 i x hi)
  have d8:=hid b3;have b4:=a3.size;clear J T hr hA b2 b3
  gi_wp2_with (gi_at_make;refine aPz Tryz.underlying149 SX rfl rfl _ _ rfl l.length rfl rfl ?_ ?_ ?_;(omega);(omega))
  refine⟨trivial,(aAa (n-1) z F l.length H _).mono ?_⟩;rintro e w' ⟨rfl,rfl⟩;have a5:=Arr.new d 153 (cD l.length (fun _=>(.int .i64 0,.int .u64 0)));rw[<-aP0 l 0] at a5 ⊢;have k0:Below w.heap.size w (d.alloc (.cells (cD l.length (kR l [] 0 0)).toArray 153)):=a3.alloc b4 _;have z0:(d.alloc (.cells (cD l.length (kR l [] 0 0)).toArray 153)).heap.size=d.heap.size+1:=by simp
  have y0:Below d.heap.size d (d.alloc (.cells (cD l.length (kR l [] 0 0)).toArray 153)):=bD (aB _ _) _;generalize d.alloc (.cells (cD l.length (kR l [] 0 0)).toArray 153)=U at*
  have a6:=Arr.new U 149 [.slice (some ⟨d.heap.size,0,none⟩) l.length l.length];rw[z0] at a6;have a7:=Arr.new (U.alloc (.cells #[.slice (some ⟨d.heap.size,0,none⟩) l.length l.length] 149)) 27 [.slice (some ⟨z,F,none⟩) l.length H];have b5:=(a5.alloc (.cells #[.slice (some ⟨d.heap.size,0,none⟩) l.length l.length] 149)).alloc (.cells #[.slice (some ⟨z,F,none⟩) l.length H] 27);have b6:=a6.alloc (.cells #[.slice (some ⟨z,F,none⟩) l.length H] 27);rw[fV,z0] at a7
  have d9:Below w.heap.size w ((U.alloc (.cells #[.slice (some ⟨d.heap.size,0,none⟩) l.length l.length] 149)).alloc (.cells #[.slice (some ⟨z,F,none⟩) l.length H] 27)):=(k0.alloc (by omega) _).alloc (by simp;omega) _;have e2:((U.alloc (.cells #[.slice (some ⟨d.heap.size,0,none⟩) l.length l.length] 149)).alloc (.cells #[.slice (some ⟨z,F,none⟩) l.length H] 27)).heap.size=d.heap.size+3:=by simp;omega
  have hy3:Below d.heap.size d ((U.alloc (.cells #[.slice (some ⟨d.heap.size,0,none⟩) l.length l.length] 149)).alloc (.cells #[.slice (some ⟨z,F,none⟩) l.length H] 27)):=(y0.alloc (by omega) _).alloc (by simp;omega) _
  gi_wp2_with fail
  generalize (U.alloc (.cells #[.slice (some ⟨d.heap.size,0,none⟩) l.length l.length] 149)).alloc (.cells #[.slice (some ⟨z,F,none⟩) l.length H] 27)=w3 at*
  obtain⟨O,hO⟩:∃O,O=d.heap.size:=⟨_,rfl⟩;rw[<-hO] at a7 b5 b6 e2 b4 hy3 ⊢;have e3:z<O:=by omega
  have e4:∀i x,l[i]? =some x->w3.cell? ⟨z,F+i,none⟩=some (.int .i64 x):=fun i x hi=>(hy3.cell (p:=⟨z,F+i,none⟩) e3).trans (d8.out i x hi)
  have e6:=hid hO;clear k0 z0 y0 a5 a6 hO a3 hy3;refine ZX (w0:=w3) (Kp:=dP (some O)) (Pre:=xA l) (encs:=tI l) h1 (gf:=198) (lb:=#[.pointer (some ⟨O+1+1,0,none⟩)]) rfl (fN Tryz.func198 (by kernel_rfl) rfl)
   (aAb (n-1) (by omega) (O+1+1) O z F H l Z.out w3 a7 e4 (by omega) (by omega) (by omega) (by omega)) (aB _ _) (fun _=>rfl)
   (fun h k=>h.trans k) (fun _ _ h=>h.some _) aAc
   (fun I W=>(Arr W O 153 (cD l.length (kR l (I.map (·.1)) 0 0))/\Arr W (O+1) 149 [.slice (some ⟨O,0,none⟩) l.length l.length])/\Below w.heap.size w W)
   (fun _ _ _=>False)
   (fun s A B L a8=>⟨⟨L.1.1.below a8 (by omega),L.1.2.below a8 (by omega)⟩,L.2.trans (a8.mono (by omega))⟩)
   (fun _ _ _ _ h _=>h.elim)
   ⟨⟨b5,b6⟩,d9⟩
   (fun x a' W=>∃V,w3.heap.size<=V/\Arr W V 203 [.int .i64 (x.1:Int),.int .u64 (fC l x.1:Int),x.2]/\a'={tmps:=#[.slice (some ⟨z,F,none⟩) l.length H,undef,.slice none 0 0,.int .i64 0,.int .i64 0,.pointer (some ⟨O+1,0,none⟩),.pointer (some ⟨V,0,none⟩),undef,undef,.slice (some ⟨z,F,none⟩) l.length H,.int .i64 0,.int .i64 0,.bool false,undef,.slice (some ⟨z,F,none⟩) l.length H,.int .i64 (l.length:Int),.slice (some ⟨O,0,none⟩) l.length l.length,.slice (some ⟨z,F,none⟩) l.length H,.func (.func 198) #[] #[.pointer (some ⟨O+1+1,0,none⟩)],.agg #[.int .i64 (x.1:Int),.int .u64 (fC l x.1:Int),x.2],undef,undef,undef,undef,undef,undef,undef,undef,undef,undef,undef,undef,undef,undef,undef,undef,undef,undef,undef,undef,undef],defers:=[]})
   (fun x a' A A' ⟨V,k1,k2,k3⟩ hk=>⟨V,k1,hk.arr k2 (by simp),k3⟩) ?assign ?body ?done ?stop
  case assign=>
   rintro l0 B I ⟨m,u⟩ W K hI hB e7 e8 hK;obtain⟨a',e9,a0,_,_,_⟩:=(OwI.rd e8.2.2.2.2).open;dsimp only at a0;subst a0;unfold tI
   gi_wp2
   exact hK _ _ (bD (aB _ _) _) ⟨W.heap.size,by omega,Arr.new W _ [_,_,_],rfl⟩
  case body=>
   rintro l0 B I ⟨m,u⟩ a' W ⟨⟨G,a9⟩,a1⟩ hB e7 ⟨_,⟨f2,b7⟩,f3,b8,ho⟩ ⟨V,g4,hS,rfl⟩;dsimp only at f2 b7 f3 b8 ho hS ⊢;obtain⟨C,hC⟩:∃C,C=bU l m:=⟨_,rfl⟩;have b9:(lI l m l.length).length=C:=by rw[ET l m _ (aA _),kE,hC]
   have c0:(lR l m l.length).length=C:=by rw[BO l m _ (aA _),kE,hC]
   have g5:C<=258:=by rw[hC];unfold bU;exact aW xR d7
   have f4:fC l m<=1048576:=by
    have:=d6.out m b7;unfold iW at this;omega
   obtain⟨X,hX⟩:∃X,X=fC l m:=⟨_,rfl⟩;have c1:=OwI.rd ho;have c2:=Ow.lt ho;obtain⟨a',e9,a0,h4,h5,h6⟩:=c1.open;rw[b9] at a0 h4 h6;obtain⟨bu,ou,rfl,g6,c3⟩:=h6 (by omega);subst a0;have g7:B<=bu:=(c2 bu (by rfl)).1;have b0:=fun i s hi=>aP4 (S:=I.map (·.1)) (i:=i) (s:=s) HO.out (n:=m) hi
   rw[<-hX] at hS b0 f4 ⊢;have f5:=hid b0;have c4:=hid (aP2 HO.out (I.map (·.1)) m 0);rw[<-hC] at c4;rw[aP1 l (I.map (·.1)) 0 m] at G;have f6:=hid c0;have f7:=hid c3;have g8:Below w.heap.size w W:=a1;have g9:=a1.size;clear b0 hX hC b9 c0 c3 ho c1 c2 b8;have d2:=hS.cell (i:=2) rfl
   gi_wp2_with fail
   gi_loopg [7,8,23] C (fun g _s7 _s8 f8 wx=>∃i:Nat,i<=C/\g=C-i/\f8=.int .i64 (i:Int)/\Arr wx O 153 (cD l.length (kR l (I.map (·.1)) m i))/\W.grownBy wx (some O))
   case atStart=>exact⟨0,aU _,rfl,rfl,G,aP6 _ _⟩
   case round=>
    clear G d2;obtain⟨i,hi,hg,rfl,G,M⟩:=hrel;have HG:=hid hg;clear hg;have c5:=a9.grown M (by simp);have c6:=hS.grown M (by simp;omega);have e0:=c6.cell (i:=0) rfl;have e1:=c6.cell (i:=1) rfl;have e5:=c5.cell (i:=0) rfl
    by_cases f9:i<C
    ·have t1:decide ((i:Int)<(C:Int))=true:=decide_eq_true (by omega);obtain⟨s,L⟩:∃s,(lR l m l.length)[i]? =some s:=⟨_,List.getElem?_eq_getElem (by rw[f6.out];exact f9)⟩;obtain⟨c7,c8⟩:=f5.out i s L;have c9:=hid c8;have d3:W.cell? ⟨bu,ou+i,none⟩=some (.int .i64 (s:Int)):=f7.out i _ (by unfold lI;rw[List.getElem?_map,L];rfl);have cu:wr.cell? ⟨bu,ou+i,none⟩=some (.int .i64 (s:Int)):=M.cell d3 (by simp;omega);obtain⟨Y,hY⟩:∃Y,Y=X+i:=⟨_,rfl⟩;rw[<-hY] at c9;have m1:fU.wrap (i:Int)=(i:Int):=by rw[gF];omega
     have m2:(i:Int)%18446744073709551616=(i:Int):=by omega
     have m3:(X:Int)+(i:Int)=(Y:Int):=by omega
     have m4:fU.wrap (Y:Int)=(Y:Int):=by rw[gF];omega
     have d0:=G.cell (uR _ _ s c7);have d1:=G.cell (uS _ _ s c7);have f0:=G.free (s*2);have f1:=G.free (s*2+1);have q1:(s:Int)<(l.length:Int):=by omega
     clear c8 L d3 hY
     gi_wp2_with fail
     have hg:=HG.out
     gi_roundg (C-(i+1))
     case measure=>omega
     case rel=>exact⟨i+1,by omega,rfl,by go_num,by rw[<-c9.out];exact(G.set _ _).set _ _,aAd M (aAd (MP _ _ _ _) (MP _ _ _ _))⟩
    ·have t1:decide ((i:Int)<(C:Int))=false:=decide_eq_false (by omega);obtain rfl:C=i:=by omega
     rw[c4.out] at G
     gi_wp2_with fail
     exact⟨KeepsFrom.of_grownBy M (fun j hj=>by injection hj with hj;omega),dP.grownBy M,⟨⟨by rw[fI];exact G,c5⟩,a1.trans (aP5 M (by omega) (by omega))⟩⟩
  case done=>
   rintro D xs W hD g0 ⟨⟨G,a9⟩,a1⟩ hK;rw[g0,aP3 HO.out] at G;have e5:=a9.cell (i:=0) rfl
   gi_wp2_with fail
   refine⟨by simp,.inl ⟨_,_,rfl,run_takeDeferred hK,?_⟩⟩;exact⟨_,results_tmp2 rfl _ _ _,_,by rw[Z.out];rfl,fun _=>⟨O,by have:=e6.out;omega,rfl,G.grown (grownBy_putObj' _ D _) (by simp;omega)⟩,fun q=>absurd Z.out q,a1.trans (belowK_b (w:=w3) (by omega) W D _ _ hD hK rfl rfl)⟩
  case stop=>
   rintro D c I W hD h;exact h.elim
theorem aP8 (v:Value) (l:List Int) (w:World) (d:RdI w v l):
  Calls Tryz.prog 95 #[v] w fun e w'=>∃u,e=.returned (.tuple #[u,.int .i64 (bL l)])/\(bL l=0->Wds w' w.heap.size u l)/\(bL l≠0->u=.slice none 0 0)/\Below w.heap.size w w':=
 callsIn_wide.1 (aP7 3 (aA _) v l w d)
end
section
open Go.RowKit Go Go.Shelf
theorem aQp (s:ByteArray) (p:Int) (w:World) (hs:s.size<=1000000) (c7: -9223372036854775808<=p) (c9:p<=9223372036854775807):
  Calls Tryz.prog 111 #[.string s,.int .i64 p] w fun e w'=>e=.returned (.tuple #[.string (mkS (cG s.data.toList p).1),.int .i64 (cG s.data.toList p).2.1,.int .i64 (cG s.data.toList p).2.2])/\Below w.heap.size w w':=by
 have hL:s.data.toList.length=s.size:=by simp
 have hz:=VR s.data.toList p;have b7:=fun W=>sT s p 16 W hs (by decide) c7 c9
 have d0:=iA s.data.toList p 16;rw[hL] at hz;obtain⟨G,a5⟩:∃E,E=aO s.size p 16:=⟨_,rfl⟩;obtain⟨F,hF⟩:∃F,F=aE s.data.toList p 16:=⟨_,rfl⟩;rw[<-hF,<-a5] at hz b7;rw[<-hF] at d0;have d1:F<18446744073709551616:=by omega
 have a6:G=0->0<=p/\p<=8000000:=fun h=>by
  have:=fQ (n:=s.size) (at':=p) (k:=16) (by rw[<-a5];exact h);omega
 obtain⟨J,a7⟩:∃J:Bool,J=(F==0):=⟨_,rfl⟩;have t0:((F:Int)==0)=J:=by
  rw[a7]
  by_cases h:F=0
  ·rw[h];rfl
  ·rw[beq_eq_false_iff_ne.2 h,beq_eq_false_iff_ne];omega
 obtain⟨a8,a9⟩:∃q:Int,q=aI.wrap (p+16):=⟨_,rfl⟩;have b8:G=0->a8=p+16:=fun h=>by
  have:=a6 h;rw[a9,aM];omega
 have HF:=hid hF;have HL:=hid hL;have b9:=hid (show(G=0/\cJ s.data.toList p 0=([],a8,J||false,0))\/(G≠0/\(cJ s.data.toList p 0).2.2.2=G) by
  by_cases h:G=0
  ·left;exact⟨h,by rw[hz,b8 h,<-a7,h,xK]⟩
  ·right;exact⟨h,by rw[hz]⟩)
 have d2:=hid a6;have m0:=a9.symm;clear hF hz hL a7 b8 a6 a9 a5;go_enter Tryz.func111,Tryz.ntmps111;go_wp2_with fail;refine(b7 _).mono ?_;rintro e O ⟨rfl,rfl⟩;go_wp2_with fail
 go_loopg [1,6,7,8,10] 16 (fun g s1 s6 s7 s8 d3 wr=>∃(k:Nat) (o:List UInt8) (d:Int) (A:Bool) (E:Int),k<=16/\g=16-k/\d3=.int .i64 (k:Int)/\s1=.int .i64 d/\s8=.bool A/\s6=.int .i64 E/\Hid ((E=0/\cJ s.data.toList p k=(o,d,J||A,0))\/(E≠0/\(cJ s.data.toList p k).2.2.2=E))/\o.length<=16*k/\OwB wr O.heap.size s7 o/\Below O.heap.size O wr)
 case atStart=>exact⟨0,[],a8,false,G,by omega,rfl,rfl,rfl,rfl,rfl,b9,by simp,Ow.nil _ _ _,aB _ _⟩
 case round=>
  obtain⟨k,o,d,A,E,hk,H,rfl,rfl,rfl,rfl,HU,e8,a2,L⟩:=hrel;have HG:=hid H;clear H m0;have e9:=L.size
  by_cases U:E=0
  rotate_left
  ·have t2:(E==0)=false:=by rw[beq_eq_false_iff_ne];exact U
   have t3:(E != 0)=true:=by rw[bne_iff_ne];exact U
   have z:cG s.data.toList p=([],0,E):=by
    rcases HU.out with⟨h,_⟩|⟨_,h⟩
    ·exact absurd h U
    ·exact LH U hk h
   have c0:=hid z;clear z U
   by_cases d4:k<16
   ·have t1:decide ((k:Int)<16)=true:=decide_eq_true (by omega);go_wp2_with fail
    go_ret3
    exact⟨by rw[c0.out];rfl,L⟩
   ·have t1:decide ((k:Int)<16)=false:=decide_eq_false (by omega);go_wp2_with fail
    go_ret3
    exact⟨by rw[c0.out];rfl,L⟩
  ·subst U;have z:cJ s.data.toList p k=(o,d,J||A,0):=by
    rcases HU.out with⟨_,h⟩|⟨h,_⟩
    ·exact h
    ·exact absurd rfl h
   have f0:0<=p/\p<=8000000:=by
    apply d2.out
    by_cases h:G=0
    ·exact h
    ·have h0:(cJ s.data.toList p 0).2.2.2=G:=by
      rcases b9.out with⟨h1,_⟩|⟨_,h1⟩
      ·exact absurd h1 h
      ·exact h1
     have h2:=uY (s:=s.data.toList) (at':=p) (k:=0) (by rw[h0];exact h) k;rw[Nat.zero_add] at h2;rw[h2] at z;rw[z] at h0;exact h0.symm
   have b0:=yE s.data.toList p k;rw[z] at b0;have d5:=b0.2 rfl;simp only at d5;clear b0
   by_cases d4:k<16
   ·have t1:decide ((k:Int)<16)=true:=decide_eq_true (by omega);obtain⟨q,hq⟩:∃q,q=15-k:=⟨_,rfl⟩;have m1:aI.wrap (15-(k:Int))=(q:Int):=by rw[aM];omega
    have f1:(15:Int)-(k:Int)=(q:Int):=by omega
    have m2:min q 64=q:=by omega
    have e4:=IY F q d1;obtain⟨b,T⟩:∃b,b=F.testBit q:=⟨_,rfl⟩;rw[<-T] at e4;have HB:=hid (show(aE s.data.toList p 16).testBit (15-k)=b by rw[<-HF.out,<-hq,T]);clear hq T
    cases b with
    |false=>
     have HS:=hid (VS z HB.out);have e5:((false.toNat:Nat):Int)=0:=rfl;rw[e5] at e4;clear z;go_wp2_with fail;have H:=HG.out
     go_roundg (16-(k+1))
     case measure=>omega
     case rel=>exact⟨k+1,o,d,A,0,by omega,rfl,by go_num,rfl,rfl,rfl,hid (.inl ⟨rfl,HS.out⟩),by omega,a2,L⟩
    |true=>
     have e5:((true.toNat:Nat):Int)=1:=rfl;rw[e5] at e4;have c1:=fun W=>sT s d 16 W hs (by decide) (by omega) (by omega)
     have hV:=iA s.data.toList d 16;have b1:=CE (aE s.data.toList d 16) k;obtain⟨b2,c2⟩:∃q:Int,q=d+16:=⟨_,rfl⟩;have m3:aI.wrap (d+16)=b2:=by rw[aM];omega
     have a3:(aO s.size d 16=0/\cJ s.data.toList p (k+1)=(o++jS (aE s.data.toList d 16) k 16,b2,J||(A||aE s.data.toList d 16==0),0))\/(aO s.size d 16≠0/\(cJ s.data.toList p (k+1)).2.2.2=aO s.size d 16):=by
      by_cases h:aO s.size d 16=0
      ·left
       have:=VU z HB.out (by rw[HL.out];exact h);rw[Bool.or_assoc] at this;exact⟨h,by rw[this,c2]⟩
      ·right
       have:=VT z HB.out (by rw[HL.out];exact h);rw[HL.out] at this;exact⟨h,this⟩
     obtain⟨V,b3⟩:∃V,V=aE s.data.toList d 16:=⟨_,rfl⟩;obtain⟨E2,c3⟩:∃E,E=aO s.size d 16:=⟨_,rfl⟩;rw[<-b3,<-c3] at c1 a3;rw[<-b3] at hV b1;have d6:V<18446744073709551616:=by omega
     obtain⟨T1,b4⟩:∃T1:Bool,T1=(V==0):=⟨_,rfl⟩;have u1:((V:Int)==0)=T1:=by
      rw[b4]
      by_cases h:V=0
      ·rw[h];rfl
      ·rw[beq_eq_false_iff_ne.2 h,beq_eq_false_iff_ne];omega
     rw[<-b4] at a3;have d7:=hid a3;obtain⟨M,c4⟩:∃M,M=16*k:=⟨_,rfl⟩;have m4:aI.wrap ((k:Int)*16)=(M:Int):=by rw[aM];omega
     have m5:(k:Int)*16=(M:Int):=by omega
     have d8:=hid c4;have f2:M<=240:=by omega
     have c5:=hid b1;clear c4 b4 c2 b3 b1 a3 z c3;go_wp2_with fail;refine(c1 _).mono ?_;rintro e w2 ⟨rfl,rfl⟩;go_upto_region 12 with fail
     go_cut [8] (fun c8 wx=>c8=.bool (A||T1)/\wx=w2)
     case first=>
      cases A with
      |true=>go_wp2_with fail;go_meet;exact⟨rfl,rfl⟩
      |false=>go_wp2_with fail;go_meet;exact⟨rfl,rfl⟩
     case rest=>
      obtain⟨rfl,rfl⟩:=hcut;go_wp2_with fail
      go_loopg [7,48] 16 (fun g s7 d9 wx=>∃i:Nat,i<=16/\g=16-i/\d9=.int .i64 (i:Int)/\OwB wx O.heap.size s7 (o++jS V k i)/\Below O.heap.size O wx)
      case atStart=>exact⟨0,by omega,rfl,rfl,by rw[show jS V k 0=[] from rfl,eE];exact a2,L⟩
      case round=>
       obtain⟨i,hi,H,rfl,b5,a4⟩:=hrel;have c6:=hid H;clear H e4
       by_cases f3:i<16
       ·have u2:decide ((i:Int)<16)=true:=decide_eq_true (by omega);obtain⟨Y,hq2⟩:∃q,q=15-i:=⟨_,rfl⟩;have m6:aI.wrap (15-(i:Int))=(Y:Int):=by rw[aM];omega
        have f4:(15:Int)-(i:Int)=(Y:Int):=by omega
        have m7:min Y 64=Y:=by omega
        have e6:=IY V Y d6;have a0:=hid (VX V k i);rw[<-hq2] at a0;have f5:=c5.out i
        cases Z:V.testBit Y with
        |false=>
         rw[Z,show((false.toNat:Nat):Int)=0 from rfl] at e6;rw[Z] at a0;clear Z hq2;go_wp2_with fail;have H:=c6.out
         go_roundg (16-(i+1))
         case measure=>omega
         case rel=>exact⟨i+1,by omega,rfl,by go_num,by rw[a0.out,if_neg (by decide),eE];exact b5,a4⟩
        |true=>
         rw[Z,show((true.toNat:Nat):Int)=1 from rfl] at e6;rw[Z] at a0;obtain⟨c,hc⟩:∃c:Nat,c=M+i:=⟨_,rfl⟩;have m8:aI.wrap ((M:Int)+(i:Int))=(c:Int):=by rw[aM];omega
         have f6:(M:Int)+(i:Int)=(c:Int):=by omega
         obtain⟨b,T⟩:∃b:UInt8,b=eK c:=⟨_,rfl⟩;have b6:b.toNat=c:=by rw[T,nP];omega
         have m9:pX.wrap (c:Int)=(b.toNat:Int):=by rw[b6,xQ];omega
         have f7:(c:Int)%256=(b.toNat:Int):=by rw[b6];omega
         have e0:=hid (show eK (16*k+i)=b by rw[T,hc,d8.out]);have e1:=a4.size;clear Z hq2 hc T b6;go_wp2_with (at_builtin;refine yZ rfl _ _ rfl O.heap.size _ _ rfl (Ow.alloc b5 _) wr.heap.size b rfl ?_ ?_ ?_ ?_;(exact bS _ _ _);(rw[aL];omega);(simp;omega);intro v' w3 e2 hB f8);have H:=c6.out
         go_roundg (16-(i+1))
         case measure=>omega
         case rel=>exact⟨i+1,by omega,rfl,by go_num,by rw[a0.out,if_pos trivial,e0.out,<-cF];exact e2,(a4.alloc e1 _).trans hB⟩
       ·have u2:decide ((i:Int)<16)=false:=decide_eq_false (by omega);have e3:i=16:=by omega
        subst e3;have f9:=c5.out 16;go_wp2_with fail;have H:=HG.out
        go_roundg (16-(k+1))
        case measure=>omega
        case rel=>exact⟨k+1,_,b2,A||T1,E2,by omega,rfl,by go_num,rfl,rfl,rfl,d7,by rw[aL];omega,b5,a4⟩
   ·have t1:decide ((k:Int)<16)=false:=decide_eq_false (by omega);have e7:k=16:=by omega
    subst e7;have I:=VW z
    cases A with
    |true=>
     rw[Bool.or_true,if_pos rfl] at I;have a1:=hid I;clear I z;go_wp2_with fail
     go_ret3
     exact⟨by rw[a1.out];rfl,L⟩
    |false=>
     cases J with
     |true=>
      rw[xK,if_pos rfl] at I;have a1:=hid I;clear I z;go_wp2_with fail
      go_ret3
      exact⟨by rw[a1.out];rfl,L⟩
     |false=>
      rw[xK,if_neg (by decide)] at I;have a1:=hid I;clear I z;obtain⟨a,n,c,rfl,HN,g0,g1⟩:=a2.openN;have g2:(convert 45 9 (.slice a n c)).run Tryz.prog wr=.ok (.string (mkS o)) wr:=lQ a2.rd;go_wp2_with fail
      go_ret3
      exact⟨by rw[a1.out];rfl,L⟩
end
end Go.Proofs.YtiifmcicleljjaaGreatDoor
