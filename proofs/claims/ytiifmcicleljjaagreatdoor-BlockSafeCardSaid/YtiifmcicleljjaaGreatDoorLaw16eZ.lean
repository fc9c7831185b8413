/-
  The walk of the statement BlockSafe.
-/
import Derived.Test.YtiifmcicleljjaaGreatDoorM16jZ
import Derived.Test.YtiifmcicleljjaaGreatDoorZ22
import Derived.Test.YtiifmcicleljjaaGreatDoorZ29
import Derived.Test.YtiifmcicleljjaaGreatDoorZ30
set_option maxRecDepth 100000
set_option maxHeartbeats 12800000
namespace Go.Proofs.YtiifmcicleljjaaGreatDoor
open Go.RowKit Go Go.Shelf
theorem eit8 {w1 w2:World} {p1 p2 p3 p4 p5 p6 p7 p8:Addr} {v1 v2 v3 v4 v5 v6 v7 v8:Value} {B:Nat} {w0:World} (h:w1.cell? p1=some v1/\w1.cell? p2=some v2/\w1.cell? p3=some v3/\w1.cell? p4=some v4/\w1.cell? p5=some v5/\w1.cell? p6=some v6/\w1.cell? p7=some v7/\w1.cell? p8=some v8/\Below B w0 w1/\B<=w1.heap.size) (hb:Below w1.heap.size w1 w2):
  w2.cell? p1=some v1/\w2.cell? p2=some v2/\w2.cell? p3=some v3/\w2.cell? p4=some v4/\w2.cell? p5=some v5/\w2.cell? p6=some v6/\w2.cell? p7=some v7/\w2.cell? p8=some v8/\Below B w0 w2/\B<=w2.heap.size:=by
 obtain⟨h1,h2,h3,h4,h5,h6,h7,h8,hx,hy⟩:=h;have k:∀{p:Addr} {v:Value},w1.cell? p=some v->w2.cell? p=some v:=fun{p} {v} hp=>(hb.cell (World.block_lt_of_cell? w1 p hp)).trans hp
 exact⟨k h1,k h2,k h3,k h4,k h5,k h6,k h7,k h8,hx.trans (hb.mono hy),Nat.le_trans hy hb.size⟩
theorem s9B {P1 P2 P3 P4 P5 P6 P7 P8 P9 P10:Prop} (h:P1/\P2/\P3/\P4/\P5/\P6/\P7/\P8/\P9/\P10):P9:=h.2.2.2.2.2.2.2.2.1
theorem pickN (c n:Int) (h:1<=n):∃k:Nat,gA c n=(k:Int)/\(k:Int)<n:=⟨(gA c n).toNat,(Int.toNat_of_nonneg (vU c n h).1).symm,by rw[Int.toNat_of_nonneg (vU c n h).1];exact(vU c n h).2⟩
theorem tdiv4 (a:Int) (h1: -9223372036854775808<=a) (h2:a<=9223372036854775807): -9223372036854775808<=a.tdiv 4/\a.tdiv 4<=9223372036854775807:=by
 by_cases h:0<=a
 ·rw[Int.tdiv_eq_ediv_of_nonneg h];omega
 ·rw[show a= -(-a) by omega,Int.neg_tdiv,Int.tdiv_eq_ediv_of_nonneg (by omega)];omega
theorem tdiv3 (a:Int) (h1: -9223372036854775808<=a) (h2:a<=9223372036854775807): -9223372036854775808<=a.tdiv 3/\a.tdiv 3<=9223372036854775807:=by
 by_cases h:0<=a
 ·rw[Int.tdiv_eq_ediv_of_nonneg h];omega
 ·rw[show a= -(-a) by omega,Int.neg_tdiv,Int.tdiv_eq_ediv_of_nonneg (by omega)];omega
theorem blockSafe_any (s:ByteArray) (which x room more:Int) (w:World) (hE:iF w) (_hs:s.size<=maxLen) (hw1: -9223372036854775808<=which) (hw2:which<=9223372036854775807) (hx1: -9223372036854775808<=x) (hx2:x<=9223372036854775807) (hr1: -9223372036854775808<=room) (hr2:room<=9223372036854775807) (hm1: -9223372036854775808<=more) (hm2:more<=9223372036854775807):
  Calls Tryz.prog 6 #[.string s,.int .i64 which,.int .i64 x,.int .i64 room,.int .i64 more] w fun e w'=>e=.returned (.bool true)/\Below w.heap.size w w':=by
 unfold maxLen at _hs;obtain⟨m,hmi,hmi1,hmi3⟩:=yI s.size 60 (by decide);have hmi2:min (s.size:Int) 60=(m:Int):=by rw[<-hmi,Int.min_def];split<;>split<;>omega
 obtain⟨X,hX⟩:∃X,X=s.extract 0 m:=⟨_,rfl⟩;have hXs:X.size<=60:=by rw[hX];simp;omega
 have HX:=hX.symm;clear hX;have e1:=fun W=>aTs X 360 W (by omega) (by decide) (by decide)
 unfold zQ eL at e1;have hlen:=aOv (t:=X) (n:=360);obtain⟨BL,hBL⟩:∃BL,BL=mP X 360:=⟨_,rfl⟩;obtain⟨E1,hE1⟩:∃E1,E1=eZ X 360:=⟨_,rfl⟩;rw[<-hBL] at e1 hlen;rw[<-hE1] at e1 hlen;clear hBL hE1;obtain⟨pr,hpr,hpr1⟩:=pickN room 100 (by decide);obtain⟨pm,hpm,hpm1⟩:=pickN more 200 (by decide);have k1:=fun W=>ZT room 100 W hr1 hr2 (by decide) (by decide)
 have k2:=fun W=>ZT more 200 W hm1 hm2 (by decide) (by decide)
 simp only[hpr] at k1;simp only[hpm] at k2;obtain⟨n,hn⟩:∃n,n=1+pr:=⟨_,rfl⟩;obtain⟨k,hk⟩:∃k,k=n+pm:=⟨_,rfl⟩;have n1:IntKind.i64.wrap (1+(pr:Int))=(n:Int):=by rw[IntKind.wrap_i64];omega
 have n2:1+(pr:Int)=(n:Int):=by omega
 have n3:IntKind.i64.wrap (n:Int)=(n:Int):=by rw[IntKind.wrap_i64];omega
 have n4:IntKind.i64.wrap ((n:Int)+(pm:Int))=(k:Int):=by rw[IntKind.wrap_i64];omega
 have n5:(n:Int)+(pm:Int)=(k:Int):=by omega
 have n6:IntKind.i64.wrap (k:Int)=(k:Int):=by rw[IntKind.wrap_i64];omega
 have hn1:1<=n/\n<=100:=by omega
 have hk1:n<=k/\k<=360:=by omega
 obtain⟨q4,hq4⟩:∃q4,q4=which.tdiv 4:=⟨_,rfl⟩;obtain⟨q3,hq3⟩:∃q3,q3=x.tdiv 3:=⟨_,rfl⟩;have hq4b: -9223372036854775808<=q4/\q4<=9223372036854775807:=by rw[hq4];exact tdiv4 which hw1 hw2
 have hq3b: -9223372036854775808<=q3/\q3<=9223372036854775807:=by rw[hq3];exact tdiv3 x hx1 hx2
 have m1:which.tdiv 4=q4:=hq4.symm;have m2:IntKind.i64.wrap q4=q4:=by rw[IntKind.wrap_i64];omega
 have m3:x.tdiv 3=q3:=hq3.symm;have m4:IntKind.i64.wrap q3=q3:=by rw[IntKind.wrap_i64];omega
 clear hn hk hpr hpm hq4 hq3 hr1 hr2 hm1 hm2;go_enter Tryz.func6,Tryz.ntmps6;go_wp2_with fail;refine(FH _ hE).mono ?_;rintro e w1 ⟨rfl,h1⟩;have hE1:=hE.below h1;clear hE;go_wp2_with fail;refine(e1 _).mono ?_;rintro e w2 ⟨rfl,h2,hO⟩;have hlen:=hlen hO;have hE2:=hE1.below h2;have h2:=bV h1 h2;have hX2:=Arr.new w2 29 [.string (mkS (aD BL)),.int .i64 (BL.length:Int)];change Arr (w2.alloc (.cells #[.string (mkS (aD BL)),.int .i64 (BL.length:Int)] 29)) _ _ _ at hX2;have hE2:=hE2.below (bD (Below.refl _ _) (.cells #[.string (mkS (aD BL)),.int .i64 (BL.length:Int)] 29))
 have h2:=bD h2 (.cells #[.string (mkS (aD BL)),.int .i64 (BL.length:Int)] 29);obtain⟨D,hD⟩:∃D,D=mkS (aD BL):=⟨_,rfl⟩;have hDs:D.size<=3501:=by rw[hD,cP,gY];omega
 rw[<-hD] at hX2 hE2 h2 ⊢;have b0:=hX2.cell (i:=0) rfl;clear hO hlen hD e1 hE1 h1;go_wp2_with fail;generalize w2.alloc (.cells #[.string D,.int .i64 (BL.length:Int)] 29)=w3 at*
 refine(aT0 D which x _ (by omega) hw1 hw2 hx1 hx2).mono ?_;rintro e w4 ⟨t4,rfl,ht4,h4⟩;have hE4:=hE2.below h4;have h4:=bV h2 h4;clear hX2 b0 hE2 h2;go_wp2_with fail;refine(aT0 t4 q4 q3 _ (by omega) hq4b.1 hq4b.2 hq3b.1 hq3b.2).mono ?_;rintro e w5 ⟨a,rfl,ha,h5⟩;have hE5:=hE4.below h5;have h5:=bV h4 h5;have hal:a.size<=3501:=by omega
 have g1:IntKind.i64.wrap (8*(a.size:Int))=8*(a.size:Int):=by rw[IntKind.wrap_i64];omega
 have haL:a.data.toList.length=a.size:=by simp
 clear hE4 h4 ht4 ha m1 m2 m3 m4 hw1 hw2 hx1 hx2;go_wp2_with fail;refine(k1 _).mono ?_;rintro e w6 ⟨rfl,rfl⟩;clear k1
 by_cases hok:(cL a.data.toList 0 (n:Int)).2.2.2=0
 ·obtain⟨-,-,-,p1,p2,p3,p4,p5,-⟩:=YK hok;have hmo:=aTr hok (show(n:Int)<=(k:Int) by omega) (by omega);obtain⟨t,y,z,E,hB⟩:∃t y z E,cL a.data.toList 0 (n:Int)=(t,y,z,E):=⟨_,_,_,_,rfl⟩;rw[hB] at hok p1 p2 p3 p4 p5 hmo;obtain rfl:E=0:=hok;simp only at p1 p2 p3 p4 p5;have d1:=fun W (h:iF W)=>aBm a 0 (n:Int) W h (by omega) (by decide) (by decide) (by omega) (by omega) hB
  have d2:=fun W (h:iF W)=>aBm a 0 (k:Int) W h (by omega) (by decide) (by decide) (by omega) (by omega) hmo
  have hsum:=fun W=>FA t W (by omega)
  obtain⟨Z,hZ⟩:∃Z,Z=(fG t.data.toList).toNat:=⟨_,rfl⟩;rw[<-hZ] at p3 hsum;subst p3;obtain⟨z,rfl⟩:∃z':Nat,z=(z':Int):=⟨z.toNat,by omega⟩;rw[haL] at p5;obtain⟨q,hq⟩:∃q,q=52*n:=⟨_,rfl⟩;have f1:IntKind.i64.wrap (52*(n:Int))=(q:Int):=by rw[IntKind.wrap_i64];omega
  have f2:52*(n:Int)=(q:Int):=by omega
  have f3:IntKind.i64.wrap (q:Int)=(q:Int):=by rw[IntKind.wrap_i64];omega
  obtain⟨r,hr⟩:∃r,r=8*a.size:=⟨_,rfl⟩;have f4:IntKind.i64.wrap (8*(a.size:Int))=(r:Int):=by rw[IntKind.wrap_i64];omega
  have f5:8*(a.size:Int)=(r:Int):=by omega
  have f6:IntKind.i64.wrap (r:Int)=(r:Int):=by rw[IntKind.wrap_i64];omega
  have c1:decide ((t.size:Int)>=1)=true:=decide_eq_true (by omega);have c2:decide (1<=(t.size:Int))=true:=decide_eq_true (by omega);have c3:decide (1<=t.size)=true:=decide_eq_true p1;have c4:decide ((t.size:Int)<=(q:Int))=true:=decide_eq_true (by omega);have c5:decide (t.size<=q)=true:=decide_eq_true (by omega);have c6:decide ((z:Int)<=(r:Int))=true:=decide_eq_true (by omega);have c7:decide (z<=r)=true:=decide_eq_true (by omega);have c8:decide ((z:Int)>96)=true:=decide_eq_true (by omega);have c9:decide (96<(z:Int))=true:=decide_eq_true (by omega)
  have c10:decide (96<z)=true:=decide_eq_true (by omega);have c11:(t.toList==t.toList)=true:=beq_self_eq_true _;clear hB hmo hZ hq hr g1 haL p1 p2 p4 p5;go_wp2_with fail;refine(d1 _ hE5).mono ?_;rintro e w7 ⟨rfl,h7⟩;have hE7:=hE5.below h7;have h7:=bV h5 h7;have hX7:=Arr.new w7 36 [.string t,.int .u32 (Z:Int),.int .i64 0,.int .i64 (z:Int)];change Arr (w7.alloc (.cells #[.string t,.int .u32 (Z:Int),.int .i64 0,.int .i64 (z:Int)] 36)) _ _ _ at hX7;have hE7:=hE7.below (bD (Below.refl _ _) (.cells #[.string t,.int .u32 (Z:Int),.int .i64 0,.int .i64 (z:Int)] 36))
  have h7:=bD h7 (.cells #[.string t,.int .u32 (Z:Int),.int .i64 0,.int .i64 (z:Int)] 36);clear d1 hE5 h5;go_wp2_with fail;generalize w7.alloc (.cells #[.string t,.int .u32 (Z:Int),.int .i64 0,.int .i64 (z:Int)] 36)=w8 at*
  obtain⟨xb,hxb⟩:∃xb,xb=w7.heap.size:=⟨_,rfl⟩;rw[<-hxb] at hX7 ⊢;clear hxb;refine(k2 _).mono ?_;rintro e w8' ⟨rfl,rfl⟩;clear k2;go_wp2_with fail;refine(d2 _ hE7).mono ?_;rintro e w9 ⟨rfl,h9⟩;have hX9:=(hX7.below h9 hX7.lt).alloc (.cells #[.string t,.int .u32 (Z:Int),.int .i64 0,.int .i64 (z:Int)] 36);have hY9:=Arr.new w9 36 [.string t,.int .u32 (Z:Int),.int .i64 0,.int .i64 (z:Int)];change Arr (w9.alloc (.cells #[.string t,.int .u32 (Z:Int),.int .i64 0,.int .i64 (z:Int)] 36)) _ _ _ at hY9;have h9:=bD (bV h7 h9) (.cells #[.string t,.int .u32 (Z:Int),.int .i64 0,.int .i64 (z:Int)] 36)
  clear d2 hE7 h7 hX7;go_upto_region 9 with fail;generalize w9.alloc (.cells #[.string t,.int .u32 (Z:Int),.int .i64 0,.int .i64 (z:Int)] 36)=w10 at*
  obtain⟨yb,hyb⟩:∃yb,yb=w9.heap.size:=⟨_,rfl⟩;rw[<-hyb] at hY9 ⊢;clear hyb;have hS0:=eit8 (B:=w10.heap.size) (w0:=w10) ⟨hX9.cell (i:=0) rfl,hX9.cell (i:=1) rfl,hX9.cell (i:=2) rfl,hX9.cell (i:=3) rfl,hY9.cell (i:=0) rfl,hY9.cell (i:=1) rfl,hY9.cell (i:=2) rfl,hY9.cell (i:=3) rfl,Below.refl _ _,Nat.le_refl _⟩ (Below.refl w10.heap.size w10).drew
  go_cut [10] (fun c10 wx=>c10=.bool true/\Below w10.heap.size w10 wx)
  case first=>
   clear hX9 hY9
   go_region_held3 (fun w'=>w'.cell? ⟨xb,0,none⟩=some (.string t)/\w'.cell? ⟨xb,1,none⟩=some (.int .u32 (Z:Int))/\w'.cell? ⟨xb,2,none⟩=some (.int .i64 0)/\w'.cell? ⟨xb,3,none⟩=some (.int .i64 (z:Int))/\w'.cell? ⟨yb,0,none⟩=some (.string t)/\w'.cell? ⟨yb,1,none⟩=some (.int .u32 (Z:Int))/\w'.cell? ⟨yb,2,none⟩=some (.int .i64 0)/\w'.cell? ⟨yb,3,none⟩=some (.int .i64 (z:Int))/\Below w10.heap.size w10 w'/\w10.heap.size<=w'.heap.size)
    (first
     |with_reducible assumption
     |with_reducible exact eit8 (by assumption) (by assumption))
    (first
     |(go_at_call 20;refine(hsum _).mono ?_;rintro e w16 ⟨rfl,hb16⟩))
   have hfin:Below w10.heap.size w10 w16:=s9B (by assumption);clear hb16;go_wp2_with fail;go_meet;exact⟨rfl,hfin⟩
  case rest=>
  obtain⟨rfl,h16⟩:=hcut;have h16:=bV h9 h16;clear hX9 hY9 hS0 h9 hsum;go_wp2_with fail;go_ret;exact⟨rfl,h16⟩
 ·obtain⟨E,hE0,hE1,hB⟩:=blkD_err (by decide) (by omega) (by omega) hok;have d1:=fun W (h:iF W)=>MW a 0 (n:Int) W h (by omega) (by decide) (by decide) (by omega) (by omega)
  unfold EV at d1;rw[hB] at d1;rw[YM _ _ _ _ _ hE0] at d1;obtain⟨E2,hE2⟩:∃E2,(cL a.data.toList 0 (k:Int)).2.2.2=E2:=⟨_,rfl⟩;have d2:=fun W (h:iF W)=>MW a 0 (k:Int) W h (by omega) (by decide) (by decide) (by omega) (by omega)
  unfold EV wT at d2;rw[hE2] at d2;generalize (cL a.data.toList 0 (k:Int)).1=t2 at d2;generalize (cL a.data.toList 0 (k:Int)).2.1=y2 at d2;generalize (cL a.data.toList 0 (k:Int)).2.2.1=z2 at d2;have hi0:(if E2=0 then(0:Int) else 0)=0:=by split<;>rfl
  rw[hi0] at d2;have c1:(E != 0)=true:=by rw[bne_iff_ne];exact hE0
  have c2:(E==0)=false:=by rw[beq_eq_false_iff_ne];exact hE0
  have c3:(E != 1)=true:=by rw[bne_iff_ne];exact hE1
  have c4:(E==1)=false:=by rw[beq_eq_false_iff_ne];exact hE1
  clear hok hB hE0 hE1 hE2 hi0;go_wp2_with fail;refine(d1 _ hE5).mono ?_;rintro e w7 ⟨rfl,h7⟩;have hE7:=hE5.below h7;have h7:=bV h5 h7;have hX7:=Arr.new w7 36 [.string ⟨#[]⟩,.int .u32 0,.int .i64 0,.int .i64 0];change Arr (w7.alloc (.cells #[.string ⟨#[]⟩,.int .u32 0,.int .i64 0,.int .i64 0] 36)) _ _ _ at hX7;have hE7:=hE7.below (bD (Below.refl _ _) (.cells #[.string ⟨#[]⟩,.int .u32 0,.int .i64 0,.int .i64 0] 36));have h7:=bD h7 (.cells #[.string ⟨#[]⟩,.int .u32 0,.int .i64 0,.int .i64 0] 36);clear d1 hE5 h5;unfold cW;go_wp2_with fail
  generalize w7.alloc (.cells #[.string ⟨#[]⟩,.int .u32 0,.int .i64 0,.int .i64 0] 36)=w8 at*
  obtain⟨xb,hxb⟩:∃xb,xb=w7.heap.size:=⟨_,rfl⟩;rw[<-hxb] at hX7 ⊢;clear hxb;refine(k2 _).mono ?_;rintro e w8' ⟨rfl,rfl⟩;clear k2;go_wp2_with fail;refine(d2 _ hE7).mono ?_;rintro e w9 ⟨rfl,h9⟩;have hX9:=(hX7.below h9 hX7.lt).alloc (.cells #[.string t2,.int .u32 y2,.int .i64 0,.int .i64 z2] 36);have h9:=bD (bV h7 h9) (.cells #[.string t2,.int .u32 y2,.int .i64 0,.int .i64 z2] 36);have b0:=hX9.cell (i:=0) rfl;have b1:=hX9.cell (i:=1) rfl;have b2:=hX9.cell (i:=2) rfl;have b3:=hX9.cell (i:=3) rfl;clear d2 hE7 h7 hX7;go_wp2_with fail;go_ret;exact⟨rfl,h9⟩
end Go.Proofs.YtiifmcicleljjaaGreatDoor
