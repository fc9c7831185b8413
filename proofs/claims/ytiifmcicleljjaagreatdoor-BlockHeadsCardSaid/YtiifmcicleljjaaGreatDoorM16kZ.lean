/-
  Blocks (chapter 16), plainly: what stands in a text's block; unlike texts have unlike blocks.
-/
import Derived.Test.YtiifmcicleljjaaGreatDoorZ20
set_option maxRecDepth 100000
set_option maxHeartbeats 12800000
namespace Go.Proofs.YtiifmcicleljjaaGreatDoor
open Go.RowKit Go Go.Shelf
theorem hasB_alph (s:List UInt8):dB (bK s)=dB s:=funext fun c=>by
 rw[Bool.eq_iff_iff];unfold dB;simp only[List.any_eq_true,yC]
theorem restB_congr {s t:List UInt8} (h:dB s=dB t):∀k,eX s k=eX t k
 |0=>rfl
 |k+1=>by
  unfold eX iT eQ;rw[restB_congr h k,h]
theorem mapL_alph (s:List UInt8):fZ (bK s)=fZ s:=by
 have h:=hasB_alph s;unfold fZ nB iT eQ;rw[restB_congr h,h]
theorem heads_facts {t:ByteArray} {P a:List UInt8} {m:List Int} {o n:Nat} (hI:BIn t P a m o n) (hm:m.length<=361) {L:List UInt8} (hL:L=aD (cB t)):
  (aO L.length 48 32=0/\aE L 48 32=(fG t.data.toList).toNat)/\(aO L.length 80 16=0/\aE L 80 16=o)/\
  (aO L.length ((96+(fZ a).length:Nat):Int) 3=0/\aE L ((96+(fZ a).length:Nat):Int) 3=2)/\
  (aO L.length ((99+(fZ a).length:Nat):Int) 15=0/\aE L ((99+(fZ a).length:Nat):Int) 15=(m.length+9)/10)/\
  (aO L.length 0 48=0/\aE L 0 48=0x314159265359)/\fH L 96 (fZ P):=by
 obtain⟨R,hR⟩:∃R,cB t=aY 0x314159265359 48++(aY (fG t.data.toList).toNat 32++(aY o 16++(fZ a++(aY 2 3++(aY ((m.length+9)/10) 15++R))))):=by
  unfold cB oB yV rV;rw[<-hI.hP,<-hI.ha,<-hI.hm,<-hI.ho,<-hI.hn,wJ,Int.toNat_natCast];simp only[List.append_assoc];exact⟨_,rfl⟩
 have s0:fH L 0 (cB t):=hL▸zP _;rw[hR] at s0;obtain⟨a0,s1⟩:=jN s0;rw[cY] at s1;obtain⟨a1,s2⟩:=jN s1;rw[cY] at s2;obtain⟨a2,s3⟩:=jN s2;rw[cY] at s3;obtain⟨a3,s4⟩:=jN s3;obtain⟨a4,s5⟩:=jN s4;rw[cY] at s5;obtain⟨a5,-⟩:=jN s5;rw[show 0+48+32+16=96 from rfl] at a3 a4 a5;rw[show 96+(fZ a).length+3=99+(fZ a).length by omega] at a5;refine⟨uX a1 (fG t.data.toList).isLt,uX a2 hI.o16,uX a4 (by decide),uX a5 (by omega),uX a0 (by decide),?_⟩
 rw[hI.ha,mapL_alph] at a3;exact a3
theorem blkT_inj {x y:ByteArray} (hx:0<x.size) (hy:0<y.size) (ox:fS (mkS (bC x.data.toList))) (oy:fS (mkS (bC y.data.toList))) (px:(bC x.data.toList).length<=360) (py:(bC y.data.toList).length<=360) (h:mkS (aD (cB x))=mkS (aD (cB y))):x=y:=by
 have e:aD (cB x)=aD (cB y):=by rw[<-fW (aD (cB x)),h,fW]
 have b1:=EI (room:=360) hx ox (by omega) (by decide) (zP (cB x));have b2:=EI (room:=360) hy oy (by omega) (by decide) (zP (cB y));rw[e,b2] at b1;exact(congrArg (fun d:ByteArray×Int×Int×Int=>d.1) b1).symm
end Go.Proofs.YtiifmcicleljjaaGreatDoor
