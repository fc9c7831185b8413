/-
  The walk of the statement PackAlike.
-/
import Derived.Test.YtpgmbhpbgkljdaaGreatDoorW6
set_option maxRecDepth 100000
set_option maxHeartbeats 12800000
set_option linter.unusedVariables false
set_option linter.unusedSimpArgs false
namespace Go.Proofs.YtpgmbhpbgkljdaaGreatDoor
open Go.RowKit Go Go.Shelf
theorem write_pcT {lv:Nat} (hl1:1<=lv) (hl9:lv<=9) {s:ByteArray} (hs:s.size<=800) (W:World) (v:Value) (hr:RdT W v (pcT lv s)):Calls Tryz.prog 17 #[.int .i64 (lv:Int),v] W fun e w'=>e=.returned (.tuple #[.string (arcS [(lv,pcT lv s)]),.int .i64 0])/\Below W.heap.size W w':=by
 have hok:=pcT_ok hl1 s;have hlen:=pcT_len hl1 s;have hwr0:wrE (lv:Int) (pcT lv s)=0:=by
  unfold wrE;rw[if_neg (by omega)];refine firstE_of (fun t ht=>?_);obtain⟨f1,f2,f3⟩:=hok t ht;unfold lnL at f2;exact wY f1 (by omega) (by omega) (by omega)
 refine(write_any (lv:Int) v (pcT lv s) W hr (by omega) (fun t ht=>by have:=(hok t ht).2.2;omega) (by omega) (by omega) (fun k hk ho=>?_)).mono ?_
 ·have:=bodyW_len (r:=40*(lv:Int)) (by omega) ((pcT lv s).take k) ho;rw[List.length_take] at this;omega
 ·rintro e w' (⟨-,rfl,ho,hb⟩|⟨h0,-,-⟩)
  ·refine⟨?_,hb⟩;rw[Int.toNat_natCast];unfold arcS;rw[arc_one]
  ·exact absurd hwr0 h0
theorem lvN_zero {lv:Nat} (h1:1<=lv) (h9:lv<=9):lvN lv 0=lv:=by unfold lvN;omega
theorem packAlike_any (s:ByteArray) (v:Value) (raw:List (Int×Int)) (level:Int) (w:World) (hE:iF w) (_hs:s.size<=maxLen) (hr:RdP w v raw) (hwf:WfP raw) (hl1: -9223372036854775808<=level) (hl2:level<=9223372036854775807):
  Calls Tryz.prog 9 #[.string s,v,.int .i64 level] w fun e w'=>e=.returned (.bool true)/\Below w.heap.size w w':=by
 obtain⟨qa,n,n1,n9,ma,ma',pka⟩:=lev18_any level hl1 hl2;obtain⟨m,hmi,hm1,hm2⟩:=yI s.size 80 (by decide);have hmi2:min (s.size:Int) 80=(m:Int):=by rw[<-hmi,Int.min_def];split<;>split<;>omega
 obtain⟨X,hX⟩:∃X,X=s.extract 0 m:=⟨_,rfl⟩;have hXs:X.size<=80:=by rw[hX];simp;omega
 have hX':=hX.symm;have q1:(m:Int)<=(s.size:Int):=by omega
 clear hX;go_enter Tryz.func9,Tryz.ntmps9;go_wp2_with fail;refine(awake18_any _ hE).mono ?_;rintro e w1 ⟨rfl,h1⟩;have hr1:=hr.below h1;clear hr hE;go_wp2_with fail;refine(text18_any X v raw 400 _ hr1 hwf (by omega) (by decide)).mono ?_;rintro e w2 ⟨Y,rfl,hY,h2⟩;have h02:=bV h1 h2;clear h1 h2 hr1 hwf hX' hmi hmi2 hm1 hm2 q1 hXs;go_wp2_with fail;refine(pka _).mono ?_;rintro e w' ⟨rfl,rfl⟩;have hpc:=fun W=>pieces18_any n Y W (by omega) n1 n9
 rw[show(picL (40*n) Y.data.toList).map mkS=pcT n Y from rfl] at hpc;have hpk:=fun W=>pack18_any n Y W (by omega) n1 n9
 have hwt:=fun W v h=>write_pcT n1 n9 (s:=Y) (by omega) W v h
 have hok:=pcT_ok n1 Y;have hst:=fun W v h=>streams_any n v [Y] W h (Nat.succ_pos _) (by simp) (fun t ht=>by obtain rfl:=List.mem_singleton.1 ht;omega) n1 n9
 have hone:strmL n 0 [Y]=[(n,pcT n Y)]:=by
  show[(lvN n 0,pcT (lvN n 0) Y)]=_;rw[lvN_zero n1 n9]
 rw[hone] at hst;have hpo:=fun W t (h:t∈pcT n Y)=>pieces18_any n t W (by have:=(hok t h).2.2;omega) n1 n9
 have hself:∀t∈pcT n Y,(picL (40*n) t.data.toList).map mkS=[t]:=fun t h=>pcT_one n1 (hok t h).1 (hok t h).2.1
 obtain⟨L,hL⟩:∃L,L=pcT n Y:=⟨_,rfl⟩;have hpo2:∀W t,t∈L->Calls Tryz.prog 32 #[.string t,.int .i64 (n:Int)] W fun e w'=>∃v,e=.returned (.tuple #[v,.int .i64 0])/\RdT w' v [t]/\Below W.heap.size W w':=fun W t h=>by
  rw[hL] at h;have k:=hpo W t h;rw[hself t h] at k;exact k
 obtain⟨R,hR⟩:∃R,R=arcS [(n,pcT n Y)]:=⟨_,rfl⟩;obtain⟨OK,hOK⟩:∃OK:Prop,OK=okA [(n,pcT n Y)]:=⟨_,rfl⟩;rw[<-hR,<-hOK] at hpk;rw[<-hR,<-hOK] at hst;rw[<-hR,<-hL] at hwt;rw[<-hL] at hpc;clear hL hR hOK hone hok hpo hself pka;go_wp2_with fail;refine(hpc _).mono ?_;rintro e w3 ⟨v3,rfl,hv3,h3⟩;have h03:=bV h02 h3;go_wp2_with fail;refine(hpk _).mono ?_;rintro e w4 ⟨rfl,-,h4⟩;have hv4:=hv3.below h4;have h04:=bV h03 h4;go_wp2_with fail;refine(hwt _ _ hv4).mono ?_;rintro e w5 ⟨rfl,h5⟩;have hv5:=hv4.below h5;have h05:=bV h04 h5;obtain⟨a,ca,rfl,hca,hma,hA⟩:=hv5.open;unfold maxLen at hma
 clear hv3 hv4 hv5 h3 h4 h5 h02 h03 h04 hpc hpk hwt ma ma';go_wp2_with fail
 go_loopg [16,17,18] L.length (fun g s16 _s17 _s18 wr=>∃k:Nat,k<=L.length/\g=L.length-k/\s16=.int .i64 (k:Int)/\Below w5.heap.size w5 wr)
 case atStart=>exact⟨0,Nat.zero_le _,rfl,rfl,Below.refl _ _⟩
 case round=>
  obtain⟨k,hk,hg,rfl,hbel⟩:=hrel;have HG:=hid hg;clear hg
  by_cases hlt:k<L.length
  ·have t1:decide ((k:Int)<(L.length:Int))=true:=decide_eq_true (by omega);obtain⟨b,off,rfl,hb,hc⟩:=hA (by omega);obtain⟨t,ht⟩:∃t,L[k]? =some t:=⟨_,List.getElem?_eq_getElem hlt⟩;have c0:=(hbel.cell (p:=⟨b,off+k,none⟩) hb).trans (hc k t ht);have hcall:=fun W=>hpo2 W t (List.mem_of_getElem? ht)
   clear hc hA ht hpo2;go_wp2_with fail;refine(hcall _).mono ?_;rintro e w6 ⟨v6,rfl,hv6,h6⟩;have d0:=(h6.cell (World.block_lt_of_cell? wr _ c0)).trans c0;have hbel6:=hbel.trans (h6.mono hbel.size);obtain⟨a6,c6,rfl,hc6,hm6,hA6⟩:=hv6.open;obtain⟨b6,o6,rfl,hb6,hcl6⟩:=hA6 (Nat.succ_pos _);have e0:=hcl6 0 t rfl;rw[Nat.add_zero] at e0;rw[List.length_singleton] at hc6 ⊢;unfold maxLen at hm6;clear hcall hv6 hA6 hcl6 c0 hbel;go_wp2_with fail
   go_quiet (fail)
   go_wp2_with fail;have hg:=HG.out
   go_roundg (L.length-(k+1))
   case measure=>omega
   case rel=>exact⟨k+1,by omega,rfl,by go_num,below_drewN hbel6 _⟩
  ·have t1:decide ((k:Int)<(L.length:Int))=false:=decide_eq_false (by omega);have h0r:=h05.trans (hbel.mono h05.size);clear HG hA hpo2 hbel;go_wp2_with fail;refine(hst _ _ (xY wr 9 [.string Y] 1 rfl (by decide))).mono ?_;rintro e w7 ⟨rfl,-,h7⟩;have h07:=bV h0r (bV (bD (Below.refl _ _) (.cells #[.string Y] 9)) h7);go_wp2_with fail;go_ret;exact⟨rfl,h07⟩
end Go.Proofs.YtpgmbhpbgkljdaaGreatDoor
