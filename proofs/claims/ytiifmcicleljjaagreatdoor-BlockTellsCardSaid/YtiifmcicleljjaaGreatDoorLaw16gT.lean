/-
  The walk of the statement BlockTells.
-/
import Derived.Test.YtiifmcicleljjaaGreatDoorT19
set_option maxRecDepth 100000
set_option maxHeartbeats 12800000
namespace Go.Proofs.YtiifmcicleljjaaGreatDoor
open Go.RowKit Go Go.Shelf
theorem ktB {w1 w2 w0:World} {B:Nat} (h:Below B w0 w1/\B<=w1.heap.size) (hb:Below w1.heap.size w1 w2):Below B w0 w2/\B<=w2.heap.size:=⟨h.1.trans (hb.mono h.2),Nat.le_trans h.2 hb.size⟩
theorem ktA {w1 w0:World} {B:Nat} (h:Below B w0 w1/\B<=w1.heap.size) (o:Obj):Below B w0 (w1.alloc o)/\B<=(w1.alloc o).heap.size:=ktB h (bD (Below.refl _ _) o)
theorem kt1 {w1 w2 w0:World} {p:Addr} {v:Value} {B:Nat} (h:w1.cell? p=some v/\Below B w0 w1/\B<=w1.heap.size) (hb:Below w1.heap.size w1 w2):w2.cell? p=some v/\Below B w0 w2/\B<=w2.heap.size:=
 ⟨(hb.cell (World.block_lt_of_cell? w1 p h.1)).trans h.1,ktB h.2 hb⟩
theorem kt1A {w1 w0:World} {p:Addr} {v:Value} {B:Nat} (h:w1.cell? p=some v/\Below B w0 w1/\B<=w1.heap.size) (o:Obj):(w1.alloc o).cell? p=some v/\Below B w0 (w1.alloc o)/\B<=(w1.alloc o).heap.size:=kt1 h (bD (Below.refl _ _) o)
theorem ktT {P Q:Prop} (h:P/\Q):Q:=h.2
theorem pickT (c n:Int) (h:1<=n):∃k:Nat,gA c n=(k:Int)/\(k:Int)<n:=⟨(gA c n).toNat,(Int.toNat_of_nonneg (vU c n h).1).symm,by rw[Int.toNat_of_nonneg (vU c n h).1];exact(vU c n h).2⟩
theorem blockTells_any (s:ByteArray) (v:Value) (raw:List (Int×Int)) (room:Int) (a:ByteArray) (which x at':Int) (w:World) (hE:iF w) (_hs:s.size<=maxLen) (hr:RdP w v raw) (hwf:WfP raw) (hr1: -9223372036854775808<=room) (hr2:room<=9223372036854775807) (_ha:a.size<=maxLen) (hw1: -9223372036854775808<=which) (hw2:which<=9223372036854775807) (hx1: -9223372036854775808<=x) (hx2:x<=9223372036854775807) (ha1: -9223372036854775808<=at') (ha2:at'<=9223372036854775807):
  Calls Tryz.prog 3 #[.string s,v,.int .i64 room,.string a,.int .i64 which,.int .i64 x,.int .i64 at'] w fun e w'=>e=.returned (.bool true)/\Below w.heap.size w w':=by
 unfold maxLen at _hs _ha;obtain⟨m,hmi,hm1,hm2⟩:=yI s.size 40 (by decide);have hmi2:min (s.size:Int) 40=(m:Int):=by rw[<-hmi,Int.min_def];split<;>split<;>omega
 obtain⟨X,hX⟩:∃X,X=s.extract 0 m:=⟨_,rfl⟩;have hXs:X.size<=40:=by rw[hX];simp;omega
 have HX:=hX.symm;obtain⟨ma,hma,hma1,hma2⟩:=yI a.size 40 (by decide);have hma3:min (a.size:Int) 40=(ma:Int):=by rw[<-hma,Int.min_def];split<;>split<;>omega
 obtain⟨Y,hY⟩:∃Y,Y=a.extract 0 ma:=⟨_,rfl⟩;have hYs:Y.size<=40:=by rw[hY];simp;omega
 have HY:=hY.symm;clear hX hY;obtain⟨pr,hpr,hpr1⟩:=pickT room 60 (by decide);obtain⟨pa,hpa,hpa1⟩:=pickT at' 20 (by decide);have k1:=fun W=>ZT room 60 W hr1 hr2 (by decide) (by decide)
 have k2:=fun W=>ZT at' 20 W ha1 ha2 (by decide) (by decide)
 simp only[hpr] at k1;simp only[hpa] at k2;obtain⟨R,hR⟩:∃R,R=1+pr:=⟨_,rfl⟩;have n1:IntKind.i64.wrap (1+(pr:Int))=(R:Int):=by rw[IntKind.wrap_i64];omega
 have n2:1+(pr:Int)=(R:Int):=by omega
 have n3:IntKind.i64.wrap (R:Int)=(R:Int):=by rw[IntKind.wrap_i64];omega
 have hRb:R<=60:=by omega
 clear hR hpr hpa;go_enter Tryz.func3,Tryz.ntmps3;go_wp2_with fail;refine(FH _ hE).mono ?_;rintro e w1 ⟨rfl,h1⟩;have hE1:=hE.below h1;have hrr:=hr.below h1;clear hE hr;go_upto_region 2 with fail;obtain⟨B3,hB3⟩:∃B3,B3=w1.heap.size:=⟨_,rfl⟩;have hS0:Below B3 w1 w1.drew/\B3<=w1.drew.heap.size:=⟨(Below.refl B3 w1).drew,by rw[hB3];exact Nat.le_refl _⟩;have hru3:=fun W (h:Below B3 w1 W/\B3<=W.heap.size)=>LX v raw 200 W (hrr.below (by rw[<-hB3];exact h.1)) hwf (by decide) (by decide)
 have HB3:=hid hB3;clear hB3 hrr hwf
 go_cut [44,45,46] (fun c44 c45 c46 wx=>∃(ab:Nat) (t2:ByteArray),c44=.slice (some ⟨ab,0,none⟩) 2 2/\c45=.int .i64 2/\c46=.int .i64 0/\Arr wx ab 9 [.string X,.string t2]/\t2.size<=200/\Below B3 w1 wx/\B3<=wx.heap.size)
 case first=>
  go_region_held3 (fun w'=>Below B3 w1 w'/\B3<=w'.heap.size)
   (first
    |with_reducible assumption
    |with_reducible exact ktB (by assumption) (by assumption)
    |with_reducible exact ktA (by assumption) _)
   (first
    |(go_at_call 10;with_reducible refine(hru3 _ (by assumption)).mono ?_;rintro e w2 ⟨t2,rfl,ht2,h2⟩))
  all_goals
   go_wp2_with fail;go_meet;exact⟨w2.heap.size,t2,rfl,rfl,rfl,Arr.new w2 9 [.string X,.string t2],by omega,by assumption⟩
 case rest=>
 obtain⟨ab,t2,rfl,rfl,rfl,harr,hts2,h03,h03s⟩:=hcut;have h03':Below w1.heap.size w1 wc:=by rw[<-HB3.out];exact h03
 have h05:Below w.heap.size w wc:=bV h1 h03';have hE3:=hE1.below h03';obtain⟨wA,rfl⟩:∃wA:World,wA=wc:=⟨_,rfl⟩;clear h03 h03s h03' h1 HX hmi hmi2 hm1 hm2 hS0 hru3 HB3 hE1;go_wp2_with fail
 go_loopg [46] 2 (fun g i wr=>∃k:Nat,k<=2/\g=2-k/\i=.int .i64 k/\Below wA.heap.size wA wr)
 case atStart=>exact⟨0,by omega,rfl,rfl,Below.refl _ _⟩
 case round=>
  obtain⟨k,hk,hg,rfl,hbel⟩:=hrel;have HG:=hid hg;clear hg
  by_cases hlt:k<2
  ·obtain⟨t,ht,hc⟩:∃t:ByteArray,t.size<=200/\wr.cell? ⟨ab,k,none⟩=some (.string t):=by
    have har:=harr.below hbel harr.lt;rcases(show k=0\/k=1 by omega) with rfl|rfl
    ·exact⟨X,by omega,har.cell (i:=0) rfl⟩
    ·exact⟨t2,hts2,har.cell (i:=1) rfl⟩
   have hd:decide ((k:Int)<2)=true:=by simp;omega
   go_wp2_with fail;refine(k1 _).mono ?_;rintro e wr' ⟨rfl,rfl⟩;have hrow:=Arr.new wr 3 [.int .i64 room,.int .i64 (R:Int),.int .i64 360];change Arr (wr.alloc (.cells #[.int .i64 room,.int .i64 (R:Int),.int .i64 360] 3)) _ _ _ at hrow;have hB1:=bD hbel (.cells #[.int .i64 room,.int .i64 (R:Int),.int .i64 360] 3);clear hbel hc;go_wp2_with fail;generalize wr.alloc (.cells #[.int .i64 room,.int .i64 (R:Int),.int .i64 360] 3)=w5 at*
   obtain⟨rb,hrb⟩:∃rb,rb=wr.heap.size:=⟨_,rfl⟩;rw[<-hrb] at hrow ⊢;clear hrb
   go_loopg [56] 3 (fun g i wx=>∃j:Nat,j<=3/\g=3-j/\i=.int .i64 j/\Below w5.heap.size w5 wx)
   case atStart=>exact⟨0,by omega,rfl,rfl,Below.refl _ _⟩
   case round=>
    obtain⟨j,hj,hg2,rfl,hbj⟩:=hrel;obtain⟨wx,rfl⟩:∃W:World,W=wr:=⟨_,rfl⟩;have HG2:=hid hg2;clear hg2
    by_cases hjl:j<3
    ·obtain⟨mm,hmm1,hmm2,cm⟩:∃mm:Int,-9223372036854775808<=mm/\mm<=9223372036854775807/\wx.cell? ⟨rb,j,none⟩=some (.int .i64 mm):=by
      have har:=hrow.below hbj hrow.lt;rcases(show j=0\/j=1\/j=2 by omega) with rfl|rfl|rfl
      ·exact⟨room,hr1,hr2,har.cell (i:=0) rfl⟩
      ·exact⟨(R:Int),by omega,by omega,har.cell (i:=1) rfl⟩
      ·exact⟨360,by decide,by decide,har.cell (i:=2) rfl⟩
     have hd2:decide ((j:Int)<3)=true:=by simp;omega
     have e1:=fun W=>AA t mm W (by omega)
     have e2:=fun W=>aTs t mm W (by omega) hmm1 hmm2
     unfold zQ eL at e1 e2;generalize mP t mm=BL at e1 e2;generalize eZ t mm=E1 at e1 e2;generalize mkS (aD BL)=D at e1 e2;generalize BL.length=N at e1 e2;have y1:(D.toList != D.toList)=false:=bne_self_eq_false _;have y2:(E1 != E1)=false:=bne_self_eq_false _;go_wp2_with fail;refine(e1 _).mono ?_;rintro e w6 ⟨rfl,h6,-⟩;have hX6:=Arr.new w6 29 [.string D,.int .i64 (N:Int)];change Arr (w6.alloc (.cells #[.string D,.int .i64 (N:Int)] 29)) _ _ _ at hX6;have h6:=bD (bV hbj h6) (.cells #[.string D,.int .i64 (N:Int)] 29);clear cm hbj e1;go_wp2_with fail
     generalize w6.alloc (.cells #[.string D,.int .i64 (N:Int)] 29)=w7 at*
     refine(e2 _).mono ?_;rintro e w8 ⟨rfl,h8,-⟩;have hX8:=(hX6.below h8 hX6.lt).alloc (.cells #[.string D,.int .i64 (N:Int)] 29);have hY8:=Arr.new w8 29 [.string D,.int .i64 (N:Int)];change Arr (w8.alloc (.cells #[.string D,.int .i64 (N:Int)] 29)) _ _ _ at hY8;have h8:=bD (bV h6 h8) (.cells #[.string D,.int .i64 (N:Int)] 29);have d0:=hX8.cell (i:=0) rfl;have d1:=hX8.cell (i:=1) rfl;have b0:=hY8.cell (i:=0) rfl;have b1:=hY8.cell (i:=1) rfl;clear e2 h6 hX6 hX8 hY8;go_wp2_with fail;have hg2:=HG2.out
     go_roundg (3-(j+1))
     case measure=>omega
     case rel=>exact⟨j+1,by omega,rfl,by go_num,h8⟩
    ·have hd2:decide ((j:Int)<3)=false:=by simp;omega
     have hB5:=bV hB1 hbj;have e3:=fun W=>aTs t 360 W (by omega) (by decide) (by decide)
     unfold zQ eL at e3;have hlen:=aOv (t:=t) (n:=360);generalize mP t 360=BL at e3 hlen;generalize eZ t 360=E3 at e3 hlen;obtain⟨D,hD⟩:∃D,D=mkS (aD BL):=⟨_,rfl⟩;have hDs:D.size=(BL.length+7)/8:=by rw[hD,cP,gY]
     rw[<-hD] at e3;generalize BL.length=N at e3 hlen hDs;clear hD hrow hB1 hbj;go_wp2_with fail;refine(e3 _).mono ?_;rintro e w9 ⟨rfl,h9,hO⟩;have hlen:=hlen hO;have hDs:D.size<=3501:=by omega
     have hX9:=Arr.new w9 29 [.string D,.int .i64 (N:Int)];change Arr (w9.alloc (.cells #[.string D,.int .i64 (N:Int)] 29)) _ _ _ at hX9;have h9:=bD (bV hB5 h9) (.cells #[.string D,.int .i64 (N:Int)] 29);clear hO hlen e3 hB5;go_upto_region 14 with fail;generalize w9.alloc (.cells #[.string D,.int .i64 (N:Int)] 29)=w10 at*
     obtain⟨ob,hob⟩:∃ob,ob=w9.heap.size:=⟨_,rfl⟩;rw[<-hob] at hX9 ⊢;have hS0:=kt1 (B:=w10.heap.size) (w0:=w10) ⟨hX9.cell (i:=0) rfl,Below.refl _ _,Nat.le_refl _⟩ (Below.refl w10.heap.size w10).drew;have htu:=fun W=>aT0 D which x W (by omega) hw1 hw2 hx1 hx2
     clear hob hX9
     go_cut [98,99,100] (fun c98 c99 c100 wx=>∃(ub:Nat) (t3:ByteArray),c98=.slice (some ⟨ub,0,none⟩) 3 3/\c99=.int .i64 3/\c100=.int .i64 0/\Arr wx ub 9 [.string Y,.string D,.string t3]/\t3.size<=D.size/\Below w10.heap.size w10 wx/\w10.heap.size<=wx.heap.size)
     case first=>
      clear h9
      go_region_held3 (fun w'=>w'.cell? ⟨ob,0,none⟩=some (.string D)/\Below w10.heap.size w10 w'/\w10.heap.size<=w'.heap.size)
       (first
        |with_reducible assumption
        |with_reducible exact kt1 (by assumption) (by assumption)
        |with_reducible exact kt1A (by assumption) _)
       (first
        |(go_at_call 14;refine(htu _).mono ?_;rintro e w11 ⟨t3,rfl,ht3,h11⟩))
      all_goals
       go_wp2_with fail;go_meet;exact⟨w11.heap.size,t3,rfl,rfl,rfl,Arr.new w11 9 [.string Y,.string D,.string t3],ht3,ktT (by assumption)⟩
     case rest=>
     obtain⟨ub,t3,rfl,rfl,rfl,hrow3,ht3,h12,-⟩:=hcut;obtain⟨wB,rfl⟩:∃wB:World,wB=wc:=⟨_,rfl⟩;have hB:=bV h9 h12;have hEB:=hE3.below hB;clear h9 h12 hS0 htu;go_wp2_with fail
     go_loopg [100] 3 (fun g i wx=>∃j:Nat,j<=3/\g=3-j/\i=.int .i64 j/\Below wB.heap.size wB wx)
     case atStart=>exact⟨0,by omega,rfl,rfl,Below.refl _ _⟩
     case round=>
      obtain⟨i1,hi1,hg3,rfl,hb1⟩:=hrel;obtain⟨wx,rfl⟩:∃W:World,W=wr:=⟨_,rfl⟩;have HG3:=hid hg3;clear hg3
      by_cases hil:i1<3
      ·obtain⟨u,hu,cu⟩:∃u:ByteArray,u.size<=3501/\wx.cell? ⟨ub,i1,none⟩=some (.string u):=by
        have har:=hrow3.below hb1 hrow3.lt;rcases(show i1=0\/i1=1\/i1=2 by omega) with rfl|rfl|rfl
        ·exact⟨Y,by omega,har.cell (i:=0) rfl⟩
        ·exact⟨D,by omega,har.cell (i:=1) rfl⟩
        ·exact⟨t3,by omega,har.cell (i:=2) rfl⟩
       have hd3:decide ((i1:Int)<3)=true:=by simp;omega
       go_wp2_with fail;refine(k2 _).mono ?_;rintro e wx' ⟨rfl,rfl⟩;have hrow4:=Arr.new wx 3 [.int .i64 0,.int .i64 at',.int .i64 (pa:Int)];change Arr (wx.alloc (.cells #[.int .i64 0,.int .i64 at',.int .i64 (pa:Int)] 3)) _ _ _ at hrow4;have hb2:=bD hb1 (.cells #[.int .i64 0,.int .i64 at',.int .i64 (pa:Int)] 3);clear hb1 cu;go_wp2_with fail;generalize wx.alloc (.cells #[.int .i64 0,.int .i64 at',.int .i64 (pa:Int)] 3)=w13 at*
       obtain⟨pb,hpb⟩:∃pb,pb=wx.heap.size:=⟨_,rfl⟩;rw[<-hpb] at hrow4 ⊢;clear hpb
       go_loopg [109] 3 (fun g i wy=>∃j:Nat,j<=3/\g=3-j/\i=.int .i64 j/\Below w13.heap.size w13 wy)
       case atStart=>exact⟨0,by omega,rfl,rfl,Below.refl _ _⟩
       case round=>
        obtain⟨i2,hi2,hg4,rfl,hb3⟩:=hrel;obtain⟨wy,rfl⟩:∃W:World,W=wr:=⟨_,rfl⟩;have HG4:=hid hg4;clear hg4
        by_cases hil2:i2<3
        ·obtain⟨p,hp1,hp2,cp⟩:∃p:Int,-9223372036854775808<=p/\p<=9223372036854775807/\wy.cell? ⟨pb,i2,none⟩=some (.int .i64 p):=by
          have har:=hrow4.below hb3 hrow4.lt;rcases(show i2=0\/i2=1\/i2=2 by omega) with rfl|rfl|rfl
          ·exact⟨0,by decide,by decide,har.cell (i:=0) rfl⟩
          ·exact⟨at',ha1,ha2,har.cell (i:=1) rfl⟩
          ·exact⟨(pa:Int),by omega,by omega,har.cell (i:=2) rfl⟩
         have hd4:decide ((i2:Int)<3)=true:=by simp;omega
         go_wp2_with fail;refine(k1 _).mono ?_;rintro e wy' ⟨rfl,rfl⟩;have hrow5:=Arr.new wy 3 [.int .i64 room,.int .i64 (R:Int),.int .i64 360];change Arr (wy.alloc (.cells #[.int .i64 room,.int .i64 (R:Int),.int .i64 360] 3)) _ _ _ at hrow5;have hb4:=bD hb3 (.cells #[.int .i64 room,.int .i64 (R:Int),.int .i64 360] 3);clear hb3 cp;go_wp2_with fail;generalize wy.alloc (.cells #[.int .i64 room,.int .i64 (R:Int),.int .i64 360] 3)=w14 at*
         obtain⟨qb,hqb⟩:∃qb,qb=wy.heap.size:=⟨_,rfl⟩;rw[<-hqb] at hrow5 ⊢;clear hqb
         go_loopg [119] 3 (fun g i wz=>∃j:Nat,j<=3/\g=3-j/\i=.int .i64 j/\Below w14.heap.size w14 wz)
         case atStart=>exact⟨0,by omega,rfl,rfl,Below.refl _ _⟩
         case round=>
          obtain⟨i3,hi3,hg5,rfl,hb5⟩:=hrel;obtain⟨wz,rfl⟩:∃W:World,W=wr:=⟨_,rfl⟩;have HG5:=hid hg5;clear hg5
          by_cases hil3:i3<3
          ·obtain⟨mm,hmm1,hmm2,cm⟩:∃mm:Int,-9223372036854775808<=mm/\mm<=9223372036854775807/\wz.cell? ⟨qb,i3,none⟩=some (.int .i64 mm):=by
            have har:=hrow5.below hb5 hrow5.lt;rcases(show i3=0\/i3=1\/i3=2 by omega) with rfl|rfl|rfl
            ·exact⟨room,hr1,hr2,har.cell (i:=0) rfl⟩
            ·exact⟨(R:Int),by omega,by omega,har.cell (i:=1) rfl⟩
            ·exact⟨360,by decide,by decide,har.cell (i:=2) rfl⟩
           have hd5:decide ((i3:Int)<3)=true:=by simp;omega
           have hEz:=hEB.below (bV hb2 (bV hb4 hb5));have d1:=MW u p mm wz hEz (by omega) hp1 hp2 hmm1 hmm2;have d2:=fun W=>aTt u p mm W (by omega) hp1 hp2 hmm1 hmm2
           unfold EV wT at d1 d2;generalize (if(cL u.data.toList p mm).2.2.2=0 then p else 0)=A0 at d1 d2;generalize (cL u.data.toList p mm).2.2.2=E1 at d1 d2;generalize (cL u.data.toList p mm).1=T at d1 d2;generalize (cL u.data.toList p mm).2.1=y at d1 d2;generalize (cL u.data.toList p mm).2.2.1=z at d1 d2;have y1:(T.toList != T.toList)=false:=bne_self_eq_false _;have y2:(E1 != E1)=false:=bne_self_eq_false _;have y3:(y != y)=false:=bne_self_eq_false _;have y4:(A0 != A0)=false:=bne_self_eq_false _;have y5:(z != z)=false:=bne_self_eq_false _;go_wp2_with fail;refine d1.mono ?_
           rintro e w6 ⟨rfl,h6⟩;have hX6:=Arr.new w6 36 [.string T,.int .u32 y,.int .i64 A0,.int .i64 z];change Arr (w6.alloc (.cells #[.string T,.int .u32 y,.int .i64 A0,.int .i64 z] 36)) _ _ _ at hX6;have h6:=bD (bV hb5 h6) (.cells #[.string T,.int .u32 y,.int .i64 A0,.int .i64 z] 36);clear cm hb5 d1 hEz;go_wp2_with fail;generalize w6.alloc (.cells #[.string T,.int .u32 y,.int .i64 A0,.int .i64 z] 36)=w7 at*
           refine(d2 _).mono ?_;rintro e w8 ⟨rfl,h8⟩;have hX8:=(hX6.below h8 hX6.lt).alloc (.cells #[.string T,.int .u32 y,.int .i64 A0,.int .i64 z] 36);have hY8:=Arr.new w8 36 [.string T,.int .u32 y,.int .i64 A0,.int .i64 z];change Arr (w8.alloc (.cells #[.string T,.int .u32 y,.int .i64 A0,.int .i64 z] 36)) _ _ _ at hY8;have h8:=bD (bV h6 h8) (.cells #[.string T,.int .u32 y,.int .i64 A0,.int .i64 z] 36);have d0:=hX8.cell (i:=0) rfl;have d1:=hX8.cell (i:=1) rfl;have d3:=hX8.cell (i:=2) rfl;have d4:=hX8.cell (i:=3) rfl;have b0:=hY8.cell (i:=0) rfl;have b1:=hY8.cell (i:=1) rfl
           have b2:=hY8.cell (i:=2) rfl;have b3:=hY8.cell (i:=3) rfl;clear d2 h6 hX6 hX8 hY8;go_wp2_with fail;have hg5:=HG5.out
           go_roundg (3-(i3+1))
           case measure=>omega
           case rel=>exact⟨i3+1,by omega,rfl,by go_num,h8⟩
          ·have hd5:decide ((i3:Int)<3)=false:=by simp;omega
           go_wp2_with fail;have hg4:=HG4.out
           go_roundg (3-(i2+1))
           case measure=>omega
           case rel=>exact⟨i2+1,by omega,rfl,by go_num,bV hb4 hb5⟩
        ·have hd4:decide ((i2:Int)<3)=false:=by simp;omega
         go_wp2_with fail;have hg3:=HG3.out
         go_roundg (3-(i1+1))
         case measure=>omega
         case rel=>exact⟨i1+1,by omega,rfl,by go_num,bV hb2 hb3⟩
      ·have hd3:decide ((i1:Int)<3)=false:=by simp;omega
       go_wp2_with fail;have hg:=HG.out
       go_roundg (2-(k+1))
       case measure=>omega
       case rel=>exact⟨k+1,by omega,rfl,by go_num,bV hB hb1⟩
  ·have hd:decide ((k:Int)<2)=false:=by simp;omega
   go_wp2_with fail;go_ret;exact⟨rfl,h05.trans (hbel.mono h05.size)⟩
end Go.Proofs.YtiifmcicleljjaaGreatDoor
