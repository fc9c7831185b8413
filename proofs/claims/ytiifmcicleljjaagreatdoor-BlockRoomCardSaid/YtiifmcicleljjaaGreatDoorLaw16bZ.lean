/-
  The walk of the statement BlockRoom.
-/
import Derived.Test.YtiifmcicleljjaaGreatDoorZ22
set_option maxRecDepth 100000
set_option maxHeartbeats 12800000
namespace Go.Proofs.YtiifmcicleljjaaGreatDoor
open Go.RowKit Go Go.Shelf
theorem kpB {w1 w2 w0:World} {B:Nat} (h:Below B w0 w1/\B<=w1.heap.size) (hb:Below w1.heap.size w1 w2):Below B w0 w2/\B<=w2.heap.size:=⟨h.1.trans (hb.mono h.2),Nat.le_trans h.2 hb.size⟩
theorem kpBA {w1 w0:World} {B:Nat} (h:Below B w0 w1/\B<=w1.heap.size) (o:Obj):Below B w0 (w1.alloc o)/\B<=(w1.alloc o).heap.size:=kpB h (bD (Below.refl _ _) o)
theorem encE_nil {t:ByteArray} (n:Int) (h:t.size=0):eZ t n=1:=by unfold eZ;rw[if_pos (.inl h)]
theorem encE_long {t:ByteArray} {n:Int} (h0:0<t.size) (h1:1<=n) (h2:n<=360) (h:n<((bC t.data.toList).length:Int)):eZ t n=4:=by
 unfold eZ;rw[if_neg (by omega),if_pos h]
theorem blockRoom_any (s:ByteArray) (v:Value) (raw:List (Int×Int)) (room:Int) (w:World) (hE:iF w) (_hs:s.size<=maxLen) (hr:RdP w v raw) (hwf:WfP raw) (hr1: -9223372036854775808<=room) (hr2:room<=9223372036854775807):
  Calls Tryz.prog 7 #[.string s,v,.int .i64 room] w fun e w'=>e=.returned (.bool true)/\Below w.heap.size w w':=by
 unfold maxLen at _hs;obtain⟨m,hmi,hm1,hm2⟩:=yI s.size 60 (by decide);have hmi2:min (s.size:Int) 60=(m:Int):=by rw[<-hmi,Int.min_def];split<;>split<;>omega
 obtain⟨X,hX⟩:∃X,X=s.extract 0 m:=⟨_,rfl⟩;have hXs:X.size<=60:=by rw[hX];simp;omega
 have HX:=hX.symm;clear hX;have hpk:=fun W=>ZT room 360 W hr1 hr2 (by decide) (by decide)
 obtain⟨p1,p2⟩:=vU room 360 (by decide);obtain⟨q,hq⟩:∃q:Nat,gA room 360=(q:Int):=⟨_,(Int.toNat_of_nonneg p1).symm⟩;rw[hq] at hpk;obtain⟨R,hR⟩:∃R,R=1+q:=⟨_,rfl⟩;have m1:IntKind.i64.wrap (1+(q:Int))=(R:Int):=by rw[IntKind.wrap_i64];omega
 have m2:1+(q:Int)=(R:Int):=by omega
 have m3:IntKind.i64.wrap (R:Int)=(R:Int):=by rw[IntKind.wrap_i64];omega
 have hR1:1<=R:=by omega
 have hR2:R<=360:=by omega
 clear hq p1 p2 hR;go_enter Tryz.func7,Tryz.ntmps7;go_wp2_with fail;refine(FH _ hE).mono ?_;rintro e w1 ⟨rfl,h1⟩;have hE1:=hE.below h1;have hrr1:=hr.below h1;go_wp2_with fail;refine(hpk _).mono ?_;rintro e w1' ⟨rfl,rfl⟩;clear hE hr hpk;go_upto_region 3 with fail;obtain⟨B3,hB3⟩:∃B3,B3=w1.heap.size:=⟨_,rfl⟩;have hS0:Below B3 w1 w1.drew/\B3<=w1.drew.heap.size:=⟨(Below.refl B3 w1).drew,by rw[hB3];exact Nat.le_refl _⟩;have hru3:=fun W (h:Below B3 w1 W/\B3<=W.heap.size)=>LX v raw 300 W (hrr1.below (by rw[<-hB3];exact h.1)) hwf (by decide) (by decide)
 have hruR:=fun W (h:Below B3 w1 W/\B3<=W.heap.size)=>LX v raw (R:Int) W (hrr1.below (by rw[<-hB3];exact h.1)) hwf (by omega) (by omega)
 have HB3:=hid hB3;clear hB3 hrr1 hwf
 go_cut [30,31,32] (fun c30 c31 c32 wx=>∃(ab:Nat) (t2 t3:ByteArray),c30=.slice (some ⟨ab,0,none⟩) 3 3/\c31=.int .i64 3/\c32=.int .i64 0/\Arr wx ab 9 [.string X,.string t2,.string t3]/\t2.size<=360/\t3.size<=360/\Below B3 w1 wx/\B3<=wx.heap.size)
 case first=>
  go_region_held3 (fun w'=>Below B3 w1 w'/\B3<=w'.heap.size)
   (first
    |with_reducible assumption
    |with_reducible exact kpB (by assumption) (by assumption)
    |with_reducible exact kpBA (by assumption) _)
   (first
    |(go_at_call 10;with_reducible refine(hru3 _ (by assumption)).mono ?_;rintro e w2 ⟨t2,rfl,ht2,h2⟩)
    |(go_at_call 10;with_reducible refine(hruR _ (by assumption)).mono ?_;rintro e w3 ⟨t3,rfl,ht3,h3⟩))
  all_goals
   go_wp2_with fail;go_meet
   first
    |exact⟨w3.heap.size,t2,t3,rfl,rfl,rfl,Arr.new w3 9 [.string X,.string t2,.string t3],by omega,by omega,by assumption⟩
    |exact⟨w2.heap.size,t2,t3,rfl,rfl,rfl,Arr.new w2 9 [.string X,.string t2,.string t3],by omega,by omega,by assumption⟩
 case rest=>
 obtain⟨ab,t2,t3,rfl,rfl,rfl,harr,hts2,hts3,h03,h03s⟩:=hcut;have h05:Below w.heap.size w wc:=h1.trans (h03.mono (by rw[HB3.out];exact h1.size));have ht23:t2.size<=360/\t3.size<=360:=⟨hts2,hts3⟩;clear h03 h03s h1 HX hmi hmi2 hm1 hm2 hS0 hru3 hruR HB3 hE1;go_wp2_with fail
 go_loopg [32] 3 (fun g i wr=>∃k:Nat,k<=3/\g=3-k/\i=.int .i64 k/\Below wc.heap.size wc wr)
 case atStart=>exact⟨0,by omega,rfl,rfl,Below.refl _ _⟩
 case round=>
  obtain⟨k,hk,hg,rfl,hbel⟩:=hrel;have HG:=hid hg;clear hg
  by_cases hlt:k<3
  ·obtain⟨t,ht,hc⟩:∃t:ByteArray,t.size<=360/\wr.cell? ⟨ab,k,none⟩=some (.string t):=by
    have har:=harr.below hbel harr.lt;rcases(show k=0\/k=1\/k=2 by omega) with rfl|rfl|rfl
    ·exact⟨X,by omega,har.cell (i:=0) rfl⟩
    ·exact⟨t2,ht23.1,har.cell (i:=1) rfl⟩
    ·exact⟨t3,ht23.2,har.cell (i:=2) rfl⟩
   have hd:decide ((k:Int)<3)=true:=by simp;omega
   have hln:=fun W=>ND t W (by omega)
   obtain⟨P,hP⟩:∃P,P=(bC t.data.toList).length:=⟨_,rfl⟩;rw[<-hP] at hln
   by_cases h0:t.size=0
   ·have z2:=vA (s:=t) (List.length_eq_zero_iff.1 (by simpa using h0));have e1:=fun W=>xH t R 1 W (by omega) (encE_nil _ h0) (by decide)
    have e2:=fun W=>xH t 360 1 W (by omega) (encE_nil _ h0) (by decide)
    clear h0 hP;go_wp2_with fail;refine(e1 _).mono ?_;rintro e w4 ⟨rfl,h4⟩;have h4:=bD (bV hbel h4) (.cells #[.string ⟨#[]⟩,.int .i64 0] 29);go_wp2_with fail;generalize w4.alloc (.cells #[.string ⟨#[]⟩,.int .i64 0] 29)=w5 at*
    refine(e2 _).mono ?_;rintro e w6 ⟨rfl,h6⟩;have h6:=bD (bV h4 h6) (.cells #[.string ⟨#[]⟩,.int .i64 0] 29);go_wp2_with fail;generalize w6.alloc (.cells #[.string ⟨#[]⟩,.int .i64 0] 29)=w7 at*
    refine(hln _).mono ?_;rintro e w8 ⟨rfl,h8⟩;have h8:=bV h6 h8;clear e1 e2 hln h4 h6;go_wp2_with fail;have hg:=HG.out
    go_roundg (3-(k+1))
    case measure=>omega
    case rel=>exact⟨k+1,by omega,rfl,by go_num,h8⟩
   ·have h0p:0<t.size:=by omega
    have z2:=rY h0p
    by_cases hPR:P<=R
    ·have e1:=fun W=>FF t R W (by omega) (wY h0p (by omega) (by omega) (by omega))
     have e2:=fun W=>FF t 360 W (by omega) (wY h0p (by omega) (by omega) (by omega))
     have z3:decide ((P:Int)<=(R:Int))=true:=decide_eq_true (by omega);have z4:decide (P<=R)=true:=decide_eq_true hPR;obtain⟨D,hD⟩:∃D,D=mkS (aD (cB t)):=⟨_,rfl⟩;obtain⟨N,hN⟩:∃N,N=(cB t).length:=⟨_,rfl⟩;rw[<-hD,<-hN] at e1 e2;have z5:(D.toList==D.toList)=true:=beq_self_eq_true _;clear h0 h0p hP hD hN hPR;go_wp2_with fail;refine(e1 _).mono ?_;rintro e w4 ⟨rfl,h4,-⟩;have hX4:=Arr.new w4 29 [.string D,.int .i64 (N:Int)];change Arr (w4.alloc (.cells #[.string D,.int .i64 (N:Int)] 29)) _ _ _ at hX4;have h4:=bD (bV hbel h4) (.cells #[.string D,.int .i64 (N:Int)] 29);go_wp2_with fail
     generalize w4.alloc (.cells #[.string D,.int .i64 (N:Int)] 29)=w5 at*
     refine(e2 _).mono ?_;rintro e w6 ⟨rfl,h6,-⟩;have hX6:=(hX4.below h6 hX4.lt).alloc (.cells #[.string D,.int .i64 (N:Int)] 29);have hY6:=Arr.new w6 29 [.string D,.int .i64 (N:Int)];change Arr (w6.alloc (.cells #[.string D,.int .i64 (N:Int)] 29)) _ _ _ at hY6;have h6:=bD (bV h4 h6) (.cells #[.string D,.int .i64 (N:Int)] 29);go_wp2_with fail;generalize w6.alloc (.cells #[.string D,.int .i64 (N:Int)] 29)=w7 at*
     refine(hln _).mono ?_;rintro e w8 ⟨rfl,h8⟩;have hX8:=hX6.below h8 hX6.lt;have hY8:=hY6.below h8 hY6.lt;have h8:=bV h6 h8;have d0:=hX8.cell (i:=0) rfl;have d1:=hX8.cell (i:=1) rfl;have b0:=hY8.cell (i:=0) rfl;have b1:=hY8.cell (i:=1) rfl;clear e1 e2 hln h4 h6 hX4 hX6 hY6 hX8 hY8;go_wp2_with fail;have hg:=HG.out
     go_roundg (3-(k+1))
     case measure=>omega
     case rel=>exact⟨k+1,by omega,rfl,by go_num,h8⟩
    ·have e1:=fun W=>xH t R 4 W (by omega) (encE_long h0p (by omega) (by omega) (by omega)) (by decide)
     have e2:=fun W=>AA t 360 W (by omega)
     unfold zQ eL at e2;have z3:decide ((P:Int)<=(R:Int))=false:=decide_eq_false (by omega);have z4:decide (P<=R)=false:=decide_eq_false hPR;obtain⟨D,hD⟩:∃D,D=mkS (aD (mP t 360)):=⟨_,rfl⟩;obtain⟨N,hN⟩:∃N,N=(mP t 360).length:=⟨_,rfl⟩;obtain⟨E2,hE2⟩:∃E2,E2=eZ t 360:=⟨_,rfl⟩;rw[<-hD,<-hN,<-hE2] at e2;clear h0 h0p hP hD hN hE2 hPR;go_wp2_with fail;refine(e1 _).mono ?_;rintro e w4 ⟨rfl,h4⟩;have h4:=bD (bV hbel h4) (.cells #[.string ⟨#[]⟩,.int .i64 0] 29);go_wp2_with fail;generalize w4.alloc (.cells #[.string ⟨#[]⟩,.int .i64 0] 29)=w5 at*
     refine(e2 _).mono ?_;rintro e w6 ⟨rfl,h6,-⟩;have h6:=bD (bV h4 h6) (.cells #[.string D,.int .i64 (N:Int)] 29);go_wp2_with fail;generalize w6.alloc (.cells #[.string D,.int .i64 (N:Int)] 29)=w7 at*
     refine(hln _).mono ?_;rintro e w8 ⟨rfl,h8⟩;have h8:=bV h6 h8;clear e1 e2 hln h4 h6;go_wp2_with fail;have hg:=HG.out
     go_roundg (3-(k+1))
     case measure=>omega
     case rel=>exact⟨k+1,by omega,rfl,by go_num,h8⟩
  ·have hd:decide ((k:Int)<3)=false:=by simp;omega
   go_wp2_with fail;go_ret;exact⟨rfl,h05.trans (hbel.mono h05.size)⟩
end Go.Proofs.YtiifmcicleljjaaGreatDoor
