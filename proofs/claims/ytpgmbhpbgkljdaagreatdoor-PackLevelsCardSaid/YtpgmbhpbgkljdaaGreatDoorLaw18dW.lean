/-
  The walk of the statement PackLevels.
-/
import Derived.Test.YtpgmbhpbgkljdaaGreatDoorW6
set_option maxRecDepth 100000
set_option maxHeartbeats 12800000
set_option linter.unusedVariables false
set_option linter.unusedSimpArgs false
namespace Go.Proofs.YtpgmbhpbgkljdaaGreatDoor
open Go.RowKit Go Go.Shelf
theorem tl_same (a b:ByteArray):(a.toList==b.toList)=decide (a=b):=by
 rw[Lib.toList_data,Lib.toList_data]
 by_cases h:a=b
 ·rw[h,decide_eq_true rfl];simp
 ·rw[decide_eq_false h,beq_eq_false_iff_ne];exact fun q=>h (ByteArray.ext (Array.toList_inj.1 q))
theorem arc_same {n:Nat} (h1:1<=n) {x y:ByteArray} (ox:okA [(n,pcT n x)]) (oy:okA [(n,pcT n y)]):arcS [(n,pcT n x)]=arcS [(n,pcT n y)]↔x=y:=by
 constructor
 ·intro h;have e1:=(arcS_res (l:=[(n,pcT n x)]) (by simp) ox).1;have e2:=(arcS_res (l:=[(n,pcT n y)]) (by simp) oy).1;rw[h,e2] at e1;have e3:=congrArg (List.map Prt.t) e1;rw[arcP_t,arcP_t] at e3;have e4:pcT n y=pcT n x:=by simpa using e3
  rw[<-catT_pcT h1 x,<-catT_pcT h1 y,e4]
 ·rintro rfl;rfl
theorem pcT_levels {n:Nat} (h1:1<=n) (s:ByteArray):(pcT (n+2) s).length<=(pcT n s).length:=by
 unfold pcT;rw[List.length_map,List.length_map];exact picL_room (r:=40*n) (q:=40*(n+2)) (by omega) (by omega) s.data.toList 0
theorem packLevels_any (s:ByteArray) (v:Value) (raw:List (Int×Int)) (t:ByteArray) (w:World) (hE:iF w) (_hs:s.size<=maxLen) (hr:RdP w v raw) (hwf:WfP raw) (_ht:t.size<=maxLen):
  Calls Tryz.prog 8 #[.string s,v,.string t] w fun e w'=>e=.returned (.bool true)/\Below w.heap.size w w':=by
 obtain⟨m,hmi,hm1,hm2⟩:=yI s.size 80 (by decide);have hmi2:min (s.size:Int) 80=(m:Int):=by rw[<-hmi,Int.min_def];split<;>split<;>omega
 obtain⟨X,hX⟩:∃X,X=s.extract 0 m:=⟨_,rfl⟩;have hXs:X.size<=80:=by rw[hX];simp;omega
 have hX':=hX.symm;have q1:(m:Int)<=(s.size:Int):=by omega
 obtain⟨m',hmj,hm3,hm4⟩:=yI t.size 80 (by decide);have hmj2:min (t.size:Int) 80=(m':Int):=by rw[<-hmj,Int.min_def];split<;>split<;>omega
 obtain⟨Z,hZ⟩:∃Z,Z=t.extract 0 m':=⟨_,rfl⟩;have hZs:Z.size<=80:=by rw[hZ];simp;omega
 have hZ':=hZ.symm;have q2:(m':Int)<=(t.size:Int):=by omega
 clear hX hZ;go_enter Tryz.func8,Tryz.ntmps8;go_wp2_with fail;refine(awake18_any _ hE).mono ?_;rintro e w1 ⟨rfl,h1⟩;have hr1:=hr.below h1;have hE1:=hE.below h1;clear hr hE;go_wp2_with fail;refine(text18_any X v raw 300 _ hr1 hwf (by omega) (by decide)).mono ?_;rintro e w2 ⟨Y,rfl,hY,h2⟩;have hE2:=hE1.below h2;have h02:=bV h1 h2;clear h1 h2 hr1 hwf hX' hmi hmi2 hm1 hm2 q1 hXs hE1;obtain⟨E,hEE⟩:∃E:Bool,E=decide (Y=Z):=⟨_,rfl⟩;have eY:(Y.toList==Z.toList)=E:=by rw[tl_same,hEE]
 have HE:=hid hEE;have H0:=hid (show(1<=9->(pcT 1 Y).length<=1000) from fun _=>by have:=pcT_len (lv:=1) (by decide) Y;omega);clear hEE;go_wp2_with fail;clear hZ' hmj hmj2 hm3 hm4 q2
 go_loopg [10,11,12,13,14,15,16,17,18,19] 10 (fun g s10 s11 _s12 _s13 _s14 _s15 _s16 _s17 _s18 _s19 wr=>∃n lst:Nat,1<=n/\n<=11/\g=11-n/\s11=.int .i64 (n:Int)/\s10=.int .i64 (lst:Int)/\Hid (n<=9->(pcT n Y).length<=lst)/\Below w2.heap.size w2 wr)
 case atStart=>exact⟨1,1000,by decide,by decide,rfl,rfl,rfl,H0,Below.refl _ _⟩
 case round=>
  clear H0;obtain⟨n,lst,n1,n11,hg,rfl,rfl,HN,hbel⟩:=hrel;have HG:=hid hg;clear hg
  by_cases hlt:n<=9
  ·have t1:decide ((n:Int)<=9)=true:=decide_eq_true (by omega);have t1':decide (n<=9)=true:=decide_eq_true hlt;have hpc:=fun W=>pieces18_any n Y W (by omega) n1 hlt
   rw[show(picL (40*n) Y.data.toList).map mkS=pcT n Y from rfl] at hpc;have hpk:=fun W=>pack18_any n Y W (by omega) n1 hlt
   have hpz:=fun W=>pack18_any n Z W (by omega) n1 hlt
   have hrd:=fun o W h=>read18 n1 (s:=Y) (by omega) o W h
   have hle:=HN.out hlt;have HNX:=hid (show n+2<=9->(pcT (n+2) Y).length<=(pcT n Y).length from fun _=>pcT_levels n1 Y);have HSM:=hid (fun ox oy=>arc_same n1 (x:=Y) (y:=Z) ox oy);obtain⟨hh1,hh2⟩:=arcS_head n (pcT n Y);obtain⟨R,hR⟩:∃R,R=arcS [(n,pcT n Y)]:=⟨_,rfl⟩;obtain⟨R2,hR2⟩:∃R2,R2=arcS [(n,pcT n Z)]:=⟨_,rfl⟩;rw[<-hR] at hpk hrd hh1 hh2 HSM;rw[<-hR2] at hpz HSM;obtain⟨O1,hO1⟩:∃O:Prop,O=okA [(n,pcT n Y)]:=⟨_,rfl⟩;obtain⟨O2,hO2⟩:∃O:Prop,O=okA [(n,pcT n Z)]:=⟨_,rfl⟩;rw[<-hO1] at hpk hrd HSM;rw[<-hO2] at hpz HSM;obtain⟨LN,hLN⟩:∃LN,LN=(pcT n Y).length:=⟨_,rfl⟩
   have hLNb:LN<=1000:=by have:=pcT_len n1 Y;omega
   have u1:decide ((LN:Int)>(lst:Int))=false:=decide_eq_false (by omega);have u1':decide ((lst:Int)<(LN:Int))=false:=decide_eq_false (by omega);have u1n:decide (lst<LN)=false:=decide_eq_false (by omega);have u2:decide ((R.size:Int)<14)=false:=decide_eq_false (by omega);have u2n:decide (R.size<14)=false:=decide_eq_false (by omega);have h3:3<R.size:=by omega
   have h3':(3:Int)<(R.size:Int):=by omega
   have hb3:(R[3].toNat:Int)=48+(n:Int):=by
    have e:=eW R 3 h3;have e2:(R.data.toList.take 4)[3]? =(headW n)[3]? :=by rw[hh1]
    rw[List.getElem?_take,if_pos (by decide),e] at e2;have e3:R[3]=UInt8.ofNat (48+n):=Option.some.inj e2;rw[e3,UInt8.toNat_ofNat'];omega
   have u3:((R[3].toNat:Int) != 48+(n:Int))=false:=by rw[hb3];simp
   clear hb3;have hE3:=hE2.below hbel;have HLN:=hid hLN;clear hR hR2 hO1 hO2 hle HN hLN;go_wp2_with fail;refine(hpc _).mono ?_;rintro e w3 ⟨v3,rfl,hv3,h3⟩;obtain⟨a,ca,rfl,-⟩:=hv3.open;rw[<-HLN.out] at ⊢;have hb3:=hbel.trans (h3.mono hbel.size);have hE4:=hE3.below h3;clear hpc hv3 hE3 h3 hbel;go_wp2_with fail;refine(hpk _).mono ?_;rintro e w4 ⟨rfl,ho1,h4⟩;have hb4:=hb3.trans (h4.mono hb3.size);have hE5:=hE4.below h4;clear hpk hb3 hE4 h4;go_wp2_with fail;refine(hpz _).mono ?_;rintro e w5 ⟨rfl,ho2,h5⟩;have hb5:=hb4.trans (h5.mono hb4.size);have hE6:=hE5.below h5;clear hpz hb4 hE5 h5
   go_wp2_with fail;refine(hrd ho1 _ hE6).mono ?_;rintro e w6 ⟨rfl,h6⟩;have hb6:=hb5.trans (h6.mono hb5.size);have eR:(R.toList==R2.toList)=E:=by rw[tl_same,HE.out];exact decide_eq_decide.2 (HSM.out ho1 ho2)
   have hEE:(E != E)=false:=by simp
   have hYY:(Y.toList != Y.toList)=false:=by simp
   clear hrd hb5 hE6 h6 HSM ho1 ho2;go_wp2_with fail;have hg:=HG.out
   go_roundg (11-(n+2))
   case measure=>omega
   case rel=>exact⟨n+2,LN,by omega,by omega,rfl,by go_num,rfl,hid (fun h=>by rw[HLN.out];exact HNX.out h),hb6⟩
  ·have t1:decide ((n:Int)<=9)=false:=decide_eq_false (by omega);have t1':decide (n<=9)=false:=decide_eq_false hlt;go_wp2_with fail;go_ret;exact⟨rfl,h02.trans (hbel.mono h02.size)⟩
end Go.Proofs.YtpgmbhpbgkljdaaGreatDoor
