/-
  The walk of the statement BlockHeads.
-/
import Derived.Test.YtiifmcicleljjaaGreatDoorM16kZ
import Derived.Test.YtiifmcicleljjaaGreatDoorP02dZ
import Derived.Test.YtiifmcicleljjaaGreatDoorZ22
set_option maxRecDepth 100000
set_option maxHeartbeats 12800000
namespace Go.Proofs.YtiifmcicleljjaaGreatDoor
open Go.RowKit Go Go.Shelf
theorem seven7 {w1 w2:World} {p1 p2 p3 p4 p5 p6 p7:Addr} {v1 v2 v3 v4 v5 v6 v7:Value} {B:Nat} {w0:World} (h:w1.cell? p1=some v1/\w1.cell? p2=some v2/\w1.cell? p3=some v3/\w1.cell? p4=some v4/\w1.cell? p5=some v5/\w1.cell? p6=some v6/\w1.cell? p7=some v7/\Below B w0 w1/\B<=w1.heap.size) (hb:Below w1.heap.size w1 w2):
  w2.cell? p1=some v1/\w2.cell? p2=some v2/\w2.cell? p3=some v3/\w2.cell? p4=some v4/\w2.cell? p5=some v5/\w2.cell? p6=some v6/\w2.cell? p7=some v7/\Below B w0 w2/\B<=w2.heap.size:=by
 obtain⟨h1,h2,h3,h4,h5,h6,h7,hx,hy⟩:=h;have k:∀{p:Addr} {v:Value},w1.cell? p=some v->w2.cell? p=some v:=fun{p} {v} hp=>(hb.cell (World.block_lt_of_cell? w1 p hp)).trans hp
 exact⟨k h1,k h2,k h3,k h4,k h5,k h6,k h7,hx.trans (hb.mono hy),Nat.le_trans hy hb.size⟩
theorem s8H {P1 P2 P3 P4 P5 P6 P7 P8 P9:Prop} (h:P1/\P2/\P3/\P4/\P5/\P6/\P7/\P8/\P9):P8:=h.2.2.2.2.2.2.2.1
theorem str_ne2 {s t:ByteArray} (h:s≠t):(s.toList==t.toList)=false:=by
 rw[beq_eq_false_iff_ne];intro e;apply h;rw[Lib.toList_data,Lib.toList_data] at e
 cases s;cases t
 simpa using e
theorem blockHeads_any (s t:ByteArray) (w:World) (hE:iF w) (_hs:s.size<=maxLen) (_ht:t.size<=maxLen):
  Calls Tryz.prog 8 #[.string s,.string t] w fun e w'=>e=.returned (.bool true)/\Below w.heap.size w w':=by
 unfold maxLen at _hs _ht;obtain⟨mx,hmi,hm1,hm2⟩:=yI s.size 50 (by decide);have hmi2:min (s.size:Int) 50=(mx:Int):=by rw[<-hmi,Int.min_def];split<;>split<;>omega
 obtain⟨my,hmj,hm3,hm4⟩:=yI t.size 50 (by decide);have hmj2:min (t.size:Int) 50=(my:Int):=by rw[<-hmj,Int.min_def];split<;>split<;>omega
 obtain⟨X,hX⟩:∃X,X=s.extract 0 mx:=⟨_,rfl⟩;obtain⟨Y,hY⟩:∃Y,Y=t.extract 0 my:=⟨_,rfl⟩;have hXs:X.size<=50:=by rw[hX];simp;omega
 have hYs:Y.size<=50:=by rw[hY];simp;omega
 have HX:=hX.symm;have HY:=hY.symm;clear hX hY
 by_cases hX0:X.size=0
 ·have z1:=vA (s:=X) (List.length_eq_zero_iff.1 (by simpa using hX0));clear hX0;go_enter Tryz.func8,Tryz.ntmps8;go_wp2_with fail;refine(FH _ hE).mono ?_;rintro e w1 ⟨rfl,h1⟩;go_wp2_with fail;go_ret;exact⟨rfl,h1⟩
 have hXp:0<X.size:=by omega
 have z1:=rY hXp
 by_cases hY0:Y.size=0
 ·have z2:=vA (s:=Y) (List.length_eq_zero_iff.1 (by simpa using hY0));clear hX0 hXp hY0;go_enter Tryz.func8,Tryz.ntmps8;go_wp2_with fail;refine(FH _ hE).mono ?_;rintro e w1 ⟨rfl,h1⟩;go_wp2_with fail;go_ret;exact⟨rfl,h1⟩
 have hYp:0<Y.size:=by omega
 have z2:=rY hYp;have hrx:=(oS X.data.toList.length X.data.toList (Nat.le_refl _)).1;rw[show X.data.toList.length=X.size by simp] at hrx;have hry:=(oS Y.data.toList.length Y.data.toList (Nat.le_refl _)).1;rw[show Y.data.toList.length=Y.size by simp] at hry;have e1:=fun W=>FF X 360 W (by omega) (wY hXp (by decide) (by decide) (by omega))
 have e2:=fun W=>FF Y 360 W (by omega) (wY hYp (by decide) (by decide) (by omega))
 have hpk:=fun W=>aR7 X W (by omega)
 have hsum:=fun W=>FA X W (by omega)
 have hsq:=fun W=>aN0 (mkS (bC X.data.toList)) W (by rw[cP];omega)
 have hmp:=fun W=>aPk (mkS (bC X.data.toList)) W (by rw[cP];omega)
 rw[fW] at hmp;clear hX0 hY0;go_enter Tryz.func8,Tryz.ntmps8;go_wp2_with fail;refine(FH _ hE).mono ?_;rintro e w1 ⟨rfl,h1⟩;clear hE;go_wp2_with fail;refine(e1 _).mono ?_;rintro e w2 ⟨rfl,h2,hOx⟩;have h2:=bV h1 h2;clear e1 h1;obtain⟨P,a,m,o,n,hI⟩:=BIn.of hXp (by omega) hOx;have hm361:m.length<=361:=by
  have:=(LW (mkS P)).1;rw[<-hI.hm,cP,hI.hP] at this;omega
 have hpx:(bC X.data.toList).length<=360:=by omega
 have hln:=(zR hXp hpx hOx).1;have hinj:=fun oy (h:mkS (aD (cB X))=mkS (aD (cB Y)))=>blkT_inj hXp hYp hOx oy hpx (by omega) h
 obtain⟨D,hD⟩:∃D,D=mkS (aD (cB X)):=⟨_,rfl⟩;have hDL:D.data.toList=aD (cB X):=by rw[hD,fW]
 obtain⟨⟨g1,g2⟩,⟨g3,g4⟩,⟨g5,g6⟩,⟨g7,g8⟩,⟨g9,g10⟩,g11⟩:=heads_facts hI hm361 hDL;have hDs:D.size<=3501:=by rw[hD,cP,gY];omega
 have hDl:D.data.toList.length=D.size:=by simp
 rw[hDl] at g1 g3 g5 g7 g9;obtain⟨U,hU⟩:∃U,U=(fZ a).length:=⟨_,rfl⟩;have hUb:U<=272:=by rw[hU];exact CD a
 rw[<-hU] at g5 g6 g7 g8;obtain⟨V,hV⟩:∃V,V=96+U:=⟨_,rfl⟩;obtain⟨V2,hV2⟩:∃V2,V2=99+U:=⟨_,rfl⟩;rw[<-hV] at g5 g6;rw[<-hV2] at g7 g8;have hsame:=fun W=>sameYes_any D 96 (fZ P) W (by omega) (by have:=CD P;omega) g11
 have hgt1:=fun W=>sT D 48 32 W (by omega) (by decide) (by decide) (by decide)
 rw[g1,g2] at hgt1;have hgt2:=fun W=>sT D 80 16 W (by omega) (by decide) (by decide) (by decide)
 rw[g3,g4] at hgt2;have hgt3:=fun W=>sT D (V:Int) 3 W (by omega) (by decide) (by omega) (by omega)
 rw[g5,g6] at hgt3;have hgt4:=fun W=>sT D (V2:Int) 15 W (by omega) (by decide) (by omega) (by omega)
 rw[g7,g8] at hgt4;have hmag:=fun W=>aSt D 0 48 0x314159265359 W (by omega) (by decide) (by decide) (by decide) (by decide)
 rw[decide_eq_true (show 0+48<=8*D.size/\aE D.data.toList ((0:Nat):Int) 48=0x314159265359 from⟨by have:=fQ g9;omega,g10⟩)] at hmag;obtain⟨Q,hQ⟩:∃Q,Q=(m.length+9)/10:=⟨_,rfl⟩;rw[<-hQ] at hgt4;obtain⟨Z,hZ⟩:∃Z,Z=(fG X.data.toList).toNat:=⟨_,rfl⟩;have hZb:Z<4294967296:=by rw[hZ];exact(fG X.data.toList).isLt
 rw[<-hZ] at hgt1 hsum;rw[<-hI.hP] at hpk hsq hmp;rw[hI.hA,<-hI.ho,hI.hE,<-hI.hm] at hsq;have hma:=fun W=>aPk (mkS a) W (by rw[cP];have:=hI.a256;omega)
 rw[fW] at hma;unfold eL at hma hmp hsame;rw[<-hU] at hma;have ho16:=hI.o16;obtain⟨N,hN⟩:∃N,N=(cB X).length:=⟨_,rfl⟩;have hYX:X=Y->mkS (aD (cB Y))=D/\(cB Y).length=N:=fun h=>by subst h;exact⟨hD.symm,hN.symm⟩
 rw[<-hD] at hinj ⊢;rw[<-hN] at hln ⊢;generalize mkS (aD (fZ a))=Ba at hma;generalize mkS (aD (fZ P))=Bp at hmp hsame;generalize (fZ P).length=np at hmp hsame;generalize mkS P=Pk at hpk hsq hmp;generalize mkS a=Ak at hsq hma;have hX2:=Arr.new w2 29 [.string D,.int .i64 (N:Int)];change Arr (w2.alloc (.cells #[.string D,.int .i64 (N:Int)] 29)) _ _ _ at hX2;have h2:=bD h2 (.cells #[.string D,.int .i64 (N:Int)] 29);have p1:IntKind.i64.wrap (96+(U:Int))=(V:Int):=by rw[IntKind.wrap_i64];omega
 have p2:96+(U:Int)=(V:Int):=by omega
 have p3:IntKind.i64.wrap (V:Int)=(V:Int):=by rw[IntKind.wrap_i64];omega
 have p4:IntKind.i64.wrap (99+(U:Int))=(V2:Int):=by rw[IntKind.wrap_i64];omega
 have p5:99+(U:Int)=(V2:Int):=by omega
 have p6:IntKind.i64.wrap (V2:Int)=(V2:Int):=by rw[IntKind.wrap_i64];omega
 have p7:IntKind.u32.wrap (Z:Int)=(Z:Int):=by rw[IntKind.wrap_u32];omega
 have p8:(Z:Int)%4294967296=(Z:Int):=by omega
 have p9:IntKind.i64.wrap (o:Int)=(o:Int):=by rw[IntKind.wrap_i64];omega
 have p10:IntKind.i64.wrap (Q:Int)=(Q:Int):=by rw[IntKind.wrap_i64];omega
 obtain⟨ml,hml⟩:∃ml,ml=m.length:=⟨_,rfl⟩;have hQ9:((ml:Int)+9).tdiv 10=(Q:Int):=by rw[Int.tdiv_eq_ediv_of_nonneg (by omega)];omega
 have hQ8:((ml:Int)+9)/10=(Q:Int):=by omega
 have p11:IntKind.i64.wrap ((ml:Int)+9)=(ml:Int)+9:=by rw[IntKind.wrap_i64];omega
 clear hD hDL g1 g2 g3 g4 g5 g6 g7 g8 g9 g10 g11 hDl hU hV hV2 hQ hZ hN hpx hOx hI hrx hry hm361 hUb;go_wp2_with fail;obtain⟨ab,hab⟩:∃ab,ab=w2.heap.size:=⟨_,rfl⟩;rw[<-hab] at hX2 ⊢;generalize w2.alloc (.cells #[.string D,.int .i64 (N:Int)] 29)=w3 at*
 clear hab;refine(e2 _).mono ?_;rintro e w4 ⟨rfl,h4,hOy⟩;have hinj:=hinj hOy;obtain⟨D2,hD2⟩:∃D2,D2=mkS (aD (cB Y)):=⟨_,rfl⟩;obtain⟨N2,hN2⟩:∃N2,N2=(cB Y).length:=⟨_,rfl⟩;rw[<-hD2] at hinj hYX ⊢;rw[<-hN2] at hYX ⊢;have hX4:=(hX2.below h4 hX2.lt).alloc (.cells #[.string D2,.int .i64 (N2:Int)] 29);have hY4:=Arr.new w4 29 [.string D2,.int .i64 (N2:Int)];change Arr (w4.alloc (.cells #[.string D2,.int .i64 (N2:Int)] 29)) _ _ _ at hY4;have h4:=bD (bV h2 h4) (.cells #[.string D2,.int .i64 (N2:Int)] 29);clear e2 hOy hD2 hN2 h2 hX2;go_wp2_with fail;obtain⟨cb,hcb⟩:∃cb,cb=w4.heap.size:=⟨_,rfl⟩
 rw[<-hcb] at hY4 ⊢;generalize w4.alloc (.cells #[.string D2,.int .i64 (N2:Int)] 29)=w5 at*
 clear hcb;refine(hpk _).mono ?_;rintro e w6 ⟨rfl,h6⟩;have hX6:=hX4.below h6 hX4.lt;have hY6:=hY4.below h6 hY4.lt;have h6:=bV h4 h6;clear hX4 hY4 h4;go_wp2_with fail;refine(hsq _).mono ?_;rintro e w7 ⟨v,rfl,hrv,h7,-⟩;obtain⟨sa,sc,rfl,-,-,-⟩:=hrv.open;rw[<-hml] at*
 have hX8:=(hX6.below h7 hX6.lt).alloc (.cells #[.string Ak,.int .i64 (o:Int),.slice sa ml sc] 50);have hY8:=(hY6.below h7 hY6.lt).alloc (.cells #[.string Ak,.int .i64 (o:Int),.slice sa ml sc] 50);have hZ8:=Arr.new w7 50 [.string Ak,.int .i64 (o:Int),.slice sa ml sc];change Arr (w7.alloc (.cells #[.string Ak,.int .i64 (o:Int),.slice sa ml sc] 50)) _ _ _ at hZ8;have h8:=bD (bV h6 h7) (.cells #[.string Ak,.int .i64 (o:Int),.slice sa ml sc] 50);clear hsq hX6 hY6 h6 h7 hrv hml;have b0:=hX8.cell (i:=0) rfl;have b1:=hX8.cell (i:=1) rfl;have d0:=hY8.cell (i:=0) rfl;have d1:=hY8.cell (i:=1) rfl
 have q0:=hZ8.cell (i:=0) rfl;have q1:=hZ8.cell (i:=1) rfl;have q2:=hZ8.cell (i:=2) rfl;go_wp2_with fail;generalize w7.alloc (.cells #[.string Ak,.int .i64 (o:Int),.slice sa ml sc] 50)=w8 at*
 obtain⟨sb,hsb⟩:∃sb,sb=w7.heap.size:=⟨_,rfl⟩;rw[<-hsb] at hZ8 q0 q1 q2 ⊢;clear hsb hX8 hY8 hZ8;refine(hgt1 _).mono ?_;rintro e w8' ⟨rfl,rfl⟩;clear hgt1;go_wp2_with fail;refine(hgt2 _).mono ?_;rintro e w8' ⟨rfl,rfl⟩;clear hgt2;have hfl:∀W,(Instr.field 29 (.agg #[.string Ba,.int .i64 (U:Int)]) 1).run Tryz.prog W=.ok (.int .i64 (U:Int)) W:=fun _=>by first|rfl|kernel_rfl
 go_upto_region 11 with fail;have hS0:=seven7 (B:=w8'.heap.size) (w0:=w8') ⟨b0,b1,d0,d1,q0,q1,q2,Below.refl _ _,Nat.le_refl _⟩ (Below.refl w8'.heap.size w8').drew;clear b0 b1 d0 d1 q0 q1 q2
 go_cut [18,19] (fun c18 c19 wx=>c18=.int .u64 2/\c19=.int .i64 0/\wx.cell? ⟨ab,0,none⟩=some (.string D)/\wx.cell? ⟨ab,1,none⟩=some (.int .i64 (N:Int))/\wx.cell? ⟨cb,0,none⟩=some (.string D2)/\wx.cell? ⟨cb,1,none⟩=some (.int .i64 (N2:Int))/\wx.cell? ⟨sb,0,none⟩=some (.string Ak)/\wx.cell? ⟨sb,1,none⟩=some (.int .i64 (o:Int))/\wx.cell? ⟨sb,2,none⟩=some (.slice sa ml sc)/\Below w8'.heap.size w8' wx/\w8'.heap.size<=wx.heap.size)
 case first=>
  as_aux_lemma=>
   go_region_held3 (fun wx=>wx.cell? ⟨ab,0,none⟩=some (.string D)/\wx.cell? ⟨ab,1,none⟩=some (.int .i64 (N:Int))/\wx.cell? ⟨cb,0,none⟩=some (.string D2)/\wx.cell? ⟨cb,1,none⟩=some (.int .i64 (N2:Int))/\wx.cell? ⟨sb,0,none⟩=some (.string Ak)/\wx.cell? ⟨sb,1,none⟩=some (.int .i64 (o:Int))/\wx.cell? ⟨sb,2,none⟩=some (.slice sa ml sc)/\Below w8'.heap.size w8' wx/\w8'.heap.size<=wx.heap.size)
    (first
     |with_reducible assumption
     |with_reducible exact seven7 (by assumption) (by assumption))
    (first
     |(go_at_call 24;refine(hma _).mono ?_;rintro e w9 ⟨rfl,hb9⟩)
     |(go_at_call 23;refine(hgt3 _).mono ?_;rintro e w9' ⟨rfl,rfl⟩))
   go_wp2_with fail;go_meet;exact⟨rfl,rfl,by assumption⟩
 case rest=>
 obtain⟨rfl,rfl,hS1⟩:=hcut;clear hS0 hgt3;have hS1:=seven7 hS1 (Below.refl wc.heap.size wc).drew;go_upto_region 12 with fail
 go_cut [20,21] (fun c20 c21 wx=>c20=.int .u64 (Q:Int)/\c21=.int .i64 0/\wx.cell? ⟨ab,0,none⟩=some (.string D)/\wx.cell? ⟨ab,1,none⟩=some (.int .i64 (N:Int))/\wx.cell? ⟨cb,0,none⟩=some (.string D2)/\wx.cell? ⟨cb,1,none⟩=some (.int .i64 (N2:Int))/\wx.cell? ⟨sb,0,none⟩=some (.string Ak)/\wx.cell? ⟨sb,1,none⟩=some (.int .i64 (o:Int))/\wx.cell? ⟨sb,2,none⟩=some (.slice sa ml sc)/\Below w8'.heap.size w8' wx/\w8'.heap.size<=wx.heap.size)
 case first=>
  as_aux_lemma=>
   go_region_held3 (fun wx=>wx.cell? ⟨ab,0,none⟩=some (.string D)/\wx.cell? ⟨ab,1,none⟩=some (.int .i64 (N:Int))/\wx.cell? ⟨cb,0,none⟩=some (.string D2)/\wx.cell? ⟨cb,1,none⟩=some (.int .i64 (N2:Int))/\wx.cell? ⟨sb,0,none⟩=some (.string Ak)/\wx.cell? ⟨sb,1,none⟩=some (.int .i64 (o:Int))/\wx.cell? ⟨sb,2,none⟩=some (.slice sa ml sc)/\Below w8'.heap.size w8' wx/\w8'.heap.size<=wx.heap.size)
    (first
     |with_reducible assumption
     |with_reducible exact seven7 (by assumption) (by assumption))
    (first
     |(go_at_call 24;refine(hma _).mono ?_;rintro e w9 ⟨rfl,hb9⟩)
     |(go_at_call 23;refine(hgt4 _).mono ?_;rintro e w9' ⟨rfl,rfl⟩))
   go_wp2_with fail;go_meet;exact⟨rfl,rfl,by assumption⟩
 case rest=>
 obtain⟨rfl,rfl,hS2⟩:=hcut;clear hS1 hgt4 hma;have hS2:=seven7 hS2 (Below.refl wc.heap.size wc).drew;clear hfl p1 p2 p3 p4 p5 p6 HX HY hmi hmi2 hm1 hm2 hmj hmj2 hm3 hm4 hXs hYs hXp hYp z1 z2 hDs hln h2 h4 h6;go_upto_region 13 with fail
 by_cases hXY:X=Y
 ·obtain⟨rfl,rfl⟩:=hYX hXY;subst hXY;have y1:(X.toList==X.toList)=true:=beq_self_eq_true _;have y2:(D2.toList==D2.toList)=true:=beq_self_eq_true _;clear hinj hYX
  go_cut [4] (fun c4 wx=>c4=.bool true/\Below w8'.heap.size w8' wx)
  case first=>
   as_aux_lemma=>
    simp only[List.append_eq,List.cons_append,List.nil_append]
    go_region_held3 (fun wx=>wx.cell? ⟨ab,0,none⟩=some (.string D2)/\wx.cell? ⟨ab,1,none⟩=some (.int .i64 (N2:Int))/\wx.cell? ⟨cb,0,none⟩=some (.string D2)/\wx.cell? ⟨cb,1,none⟩=some (.int .i64 (N2:Int))/\wx.cell? ⟨sb,0,none⟩=some (.string Ak)/\wx.cell? ⟨sb,1,none⟩=some (.int .i64 (o:Int))/\wx.cell? ⟨sb,2,none⟩=some (.slice sa ml sc)/\Below w8'.heap.size w8' wx/\w8'.heap.size<=wx.heap.size)
     (first
      |with_reducible assumption
      |with_reducible exact seven7 (by assumption) (by assumption))
     (first
      |(go_at_call 24;refine(hmp _).mono ?_;rintro e w9 ⟨rfl,hb9⟩)
      |(go_at_call 25;refine(hmag _).mono ?_;rintro e w9 ⟨rfl,hb9⟩)
      |(go_at_call 20;refine(hsum _).mono ?_;rintro e w9 ⟨rfl,hb9⟩)
      |(go_at_call 22;refine(hpk _).mono ?_;rintro e w9 ⟨rfl,hb9⟩)
      |(go_at_call 26;refine(hsame _).mono ?_;rintro e w9 ⟨rfl,hb9⟩))
    go_wp2_with fail;go_meet;exact⟨rfl,s8H (by assumption)⟩
  case rest=>
  obtain⟨rfl,h16⟩:=hcut;have h16:=bV h8 h16;go_wp2_with fail;go_ret;exact⟨rfl,h16⟩
 ·have y1:=str_ne2 hXY;have y2:=str_ne2 (fun h=>hXY (hinj h));clear hinj hYX
  go_cut [4] (fun c4 wx=>c4=.bool true/\Below w8'.heap.size w8' wx)
  case first=>
   as_aux_lemma=>
    simp only[List.append_eq,List.cons_append,List.nil_append]
    go_region_held3 (fun wx=>wx.cell? ⟨ab,0,none⟩=some (.string D)/\wx.cell? ⟨ab,1,none⟩=some (.int .i64 (N:Int))/\wx.cell? ⟨cb,0,none⟩=some (.string D2)/\wx.cell? ⟨cb,1,none⟩=some (.int .i64 (N2:Int))/\wx.cell? ⟨sb,0,none⟩=some (.string Ak)/\wx.cell? ⟨sb,1,none⟩=some (.int .i64 (o:Int))/\wx.cell? ⟨sb,2,none⟩=some (.slice sa ml sc)/\Below w8'.heap.size w8' wx/\w8'.heap.size<=wx.heap.size)
     (first
      |with_reducible assumption
      |with_reducible exact seven7 (by assumption) (by assumption))
     (first
      |(go_at_call 24;refine(hmp _).mono ?_;rintro e w9 ⟨rfl,hb9⟩)
      |(go_at_call 25;refine(hmag _).mono ?_;rintro e w9 ⟨rfl,hb9⟩)
      |(go_at_call 20;refine(hsum _).mono ?_;rintro e w9 ⟨rfl,hb9⟩)
      |(go_at_call 22;refine(hpk _).mono ?_;rintro e w9 ⟨rfl,hb9⟩)
      |(go_at_call 26;refine(hsame _).mono ?_;rintro e w9 ⟨rfl,hb9⟩))
    go_wp2_with fail;go_meet;exact⟨rfl,s8H (by assumption)⟩
  case rest=>
  obtain⟨rfl,h16⟩:=hcut;have h16:=bV h8 h16;go_wp2_with fail;go_ret;exact⟨rfl,h16⟩
end Go.Proofs.YtiifmcicleljjaaGreatDoor
