/-
  The walk of the statement BlockBack.
-/
import Derived.Test.YtiifmcicleljjaaGreatDoorZ22
import Derived.Test.YtiifmcicleljjaaGreatDoorZ23
set_option maxRecDepth 100000
set_option maxHeartbeats 12800000
namespace Go.Proofs.YtiifmcicleljjaaGreatDoor
open Go.RowKit Go Go.Shelf
theorem four4 {w1 w2:World} {p1 p2 p3 p4:Addr} {v1 v2 v3 v4:Value} {B:Nat} {w0:World}
  (h:w1.cell? p1=some v1/\w1.cell? p2=some v2/\w1.cell? p3=some v3/\w1.cell? p4=some v4/\Below B w0 w1/\B<=w1.heap.size) (hb:Below w1.heap.size w1 w2):
  w2.cell? p1=some v1/\w2.cell? p2=some v2/\w2.cell? p3=some v3/\w2.cell? p4=some v4/\Below B w0 w2/\B<=w2.heap.size:=by
 obtain⟨h1,h2,h3,h4,h6,h7⟩:=h;have k:∀{p:Addr} {v:Value},w1.cell? p=some v->w2.cell? p=some v:=fun{p} {v} hp=>(hb.cell (World.block_lt_of_cell? w1 p hp)).trans hp
 exact⟨k h1,k h2,k h3,k h4,h6.trans (hb.mono h7),Nat.le_trans h7 hb.size⟩
theorem four4A {w1 w2:World} {b1 b2 o1 o2 o3 o4:Nat} {v1 v2 v3 v4:Value} {B:Nat} {w0:World}
  (h:w1.cell? ⟨b1,o1,none⟩=some v1/\w1.cell? ⟨b1,o2,none⟩=some v2/\w1.cell? ⟨b2,o3,none⟩=some v3/\w1.cell? ⟨b2,o4,none⟩=some v4/\Below B w0 w1/\B<=w1.heap.size) (hb:Below B w1 w2) (k1:b1<B) (k2:b2<B):
  w2.cell? ⟨b1,o1,none⟩=some v1/\w2.cell? ⟨b1,o2,none⟩=some v2/\w2.cell? ⟨b2,o3,none⟩=some v3/\w2.cell? ⟨b2,o4,none⟩=some v4/\Below B w0 w2/\B<=w2.heap.size:=
 ⟨(hb.cell (p:=⟨b1,o1,none⟩) k1).trans h.1,(hb.cell (p:=⟨b1,o2,none⟩) k1).trans h.2.1,(hb.cell (p:=⟨b2,o3,none⟩) k2).trans h.2.2.1,(hb.cell (p:=⟨b2,o4,none⟩) k2).trans h.2.2.2.1,h.2.2.2.2.1.trans hb,Nat.le_trans h.2.2.2.2.2 hb.size⟩
theorem set2B {B a:Nat} (h:B<=a) (w:World) (x y:Value):Below B w ((w.setCell ⟨a,0,none⟩ x).setCell ⟨a,1,none⟩ y):=((Below.refl B w).setCell (p:=⟨a,0,none⟩) h x).setCell (p:=⟨a,1,none⟩) h y
theorem s5B {P1 P2 P3 P4 P5 P6:Prop} (h:P1/\P2/\P3/\P4/\P5/\P6):P5:=h.2.2.2.2.1
theorem s10B {P1 P2 P3 P4 P5 P6 P7 P8 P9 P10 P11:Prop} (h:P1/\P2/\P3/\P4/\P5/\P6/\P7/\P8/\P9/\P10/\P11):P10:=h.2.2.2.2.2.2.2.2.2.1
theorem s6B {P1 P2 P3 P4 P5 P6:Prop} (h:P1/\P2/\P3/\P4/\P5/\P6):P6:=h.2.2.2.2.2
theorem row3 (w:World) (A B C:List Bool):qI (w.alloc (.cells #[.string (mkS (aD A)),.int .i64 (A.length:Int),.string (mkS (aD B)),.int .i64 (B.length:Int),.string (mkS (aD C)),.int .i64 (C.length:Int)] 29)) (.slice (some ⟨w.heap.size,0,none⟩) 3 3) [A,B,C]:=by
 have h:=Arr.new w 29 [.string (mkS (aD A)),.int .i64 (A.length:Int),.string (mkS (aD B)),.int .i64 (B.length:Int),.string (mkS (aD C)),.int .i64 (C.length:Int)];refine⟨_,3,rfl,Nat.le_refl _,by decide,fun _=>⟨w.heap.size,0,rfl,h.lt,fun j l hj=>?_⟩⟩
 match j,hj with
 |0,hj=>
  obtain rfl:A=l:=by simpa using hj
  exact⟨h.cell (i:=0) rfl,h.cell (i:=1) rfl⟩
 |1,hj=>
  obtain rfl:B=l:=by simpa using hj
  exact⟨h.cell (i:=2) rfl,h.cell (i:=3) rfl⟩
 |2,hj=>
  obtain rfl:C=l:=by simpa using hj
  exact⟨h.cell (i:=4) rfl,h.cell (i:=5) rfl⟩
 |j+3,hj=>simp at hj
theorem encE_l0 {t:ByteArray} {n:Int} (h0:0<t.size) (h1:1<=n) (h2:n<=360) (h:n<((bC t.data.toList).length:Int)):eZ t n=4:=by
 unfold eZ;rw[if_neg (by omega),if_pos h]
theorem nine9 {w1 w2:World} {p1 p2 p3 p4 p5 p6 p7 p8 p9:Addr} {v1 v2 v3 v4 v5 v6 v7 v8 v9:Value} {B:Nat} {w0:World} (h:w1.cell? p1=some v1/\w1.cell? p2=some v2/\w1.cell? p3=some v3/\w1.cell? p4=some v4/\w1.cell? p5=some v5/\w1.cell? p6=some v6/\w1.cell? p7=some v7/\w1.cell? p8=some v8/\w1.cell? p9=some v9/\Below B w0 w1/\B<=w1.heap.size) (hb:Below w1.heap.size w1 w2):
  w2.cell? p1=some v1/\w2.cell? p2=some v2/\w2.cell? p3=some v3/\w2.cell? p4=some v4/\w2.cell? p5=some v5/\w2.cell? p6=some v6/\w2.cell? p7=some v7/\w2.cell? p8=some v8/\w2.cell? p9=some v9/\Below B w0 w2/\B<=w2.heap.size:=by
 obtain⟨h1,h2,h3,h4,h5,h6,h7,h8,h9,hx,hy⟩:=h;have k:∀{p:Addr} {v:Value},w1.cell? p=some v->w2.cell? p=some v:=fun{p} {v} hp=>(hb.cell (World.block_lt_of_cell? w1 p hp)).trans hp
 exact⟨k h1,k h2,k h3,k h4,k h5,k h6,k h7,k h8,k h9,hx.trans (hb.mono hy),Nat.le_trans hy hb.size⟩
theorem keepBB {w1 w2 w0:World} {B:Nat} (h:Below B w0 w1/\B<=w1.heap.size) (hb:Below w1.heap.size w1 w2):Below B w0 w2/\B<=w2.heap.size:=⟨h.1.trans (hb.mono h.2),Nat.le_trans h.2 hb.size⟩
theorem keepBBA {w1 w0:World} {B:Nat} (h:Below B w0 w1/\B<=w1.heap.size) (o:Obj):Below B w0 (w1.alloc o)/\B<=(w1.alloc o).heap.size:=keepBB h (bD (Below.refl _ _) o)
theorem blockBack_any (s:ByteArray) (v:Value) (raw:List (Int×Int)) (v1:Value) (l1:List Int) (v2:Value) (l2:List Int) (w:World) (hE:iF w) (_hs:s.size<=maxLen) (hr:RdP w v raw) (hwf:WfP raw) (hr1:RdI w v1 l1) (wf1:WfI l1) (hr2:RdI w v2 l2) (wf2:WfI l2):
  Calls Tryz.prog 4 #[.string s,v,v1,v2] w fun e w'=>e=.returned (.bool true)/\Below w.heap.size w w':=by
 unfold maxLen at _hs;obtain⟨m,hmi,hm1,hm2⟩:=yI s.size 60 (by decide);have hmi2:min (s.size:Int) 60=(m:Int):=by rw[<-hmi,Int.min_def];split<;>split<;>omega
 obtain⟨X,hX⟩:∃X,X=s.extract 0 m:=⟨_,rfl⟩;have hXs:X.size<=60:=by rw[hX];simp;omega
 have HX:=hX.symm;clear hX;go_enter Tryz.func4,Tryz.ntmps4;go_wp2_with fail;refine(FH _ hE).mono ?_;rintro e w1 ⟨rfl,h1⟩;have hE1:=hE.below h1;have hrr:=hr.below h1;have hq1:=hr1.below h1;have hq2:=hr2.below h1;clear hE hr hr1 hr2;go_upto_region 2 with fail;obtain⟨B3,hB3⟩:∃B3,B3=w1.heap.size:=⟨_,rfl⟩;have hS0:Below B3 w1 w1.drew/\B3<=w1.drew.heap.size:=⟨(Below.refl B3 w1).drew,by rw[hB3];exact Nat.le_refl _⟩;have hru3:=fun W (h:Below B3 w1 W/\B3<=W.heap.size)=>LX v raw 300 W (hrr.below (by rw[<-hB3];exact h.1)) hwf (by decide) (by decide)
 have HB3:=hid hB3;clear hB3 hrr hwf
 go_cut [34,35,36] (fun c34 c35 c36 wx=>∃(ab:Nat) (t2:ByteArray),c34=.slice (some ⟨ab,0,none⟩) 2 2/\c35=.int .i64 2/\c36=.int .i64 0/\Arr wx ab 9 [.string X,.string t2]/\t2.size<=300/\Below B3 w1 wx/\B3<=wx.heap.size)
 case first=>
  go_region_held3 (fun w'=>Below B3 w1 w'/\B3<=w'.heap.size)
   (first
    |with_reducible assumption
    |with_reducible exact keepBB (by assumption) (by assumption)
    |with_reducible exact keepBBA (by assumption) _)
   (first
    |(go_at_call 10;with_reducible refine(hru3 _ (by assumption)).mono ?_;rintro e w2 ⟨t2,rfl,ht2,h2⟩))
  all_goals
   go_wp2_with fail;go_meet;exact⟨w2.heap.size,t2,rfl,rfl,rfl,Arr.new w2 9 [.string X,.string t2],by omega,by assumption⟩
 case rest=>
 obtain⟨ab,t2,rfl,rfl,rfl,harr,hts2,h03,h03s⟩:=hcut;have h03':Below w1.heap.size w1 wc:=by rw[<-HB3.out];exact h03
 have h05:Below w.heap.size w wc:=bV h1 h03';have hE3:=hE1.below h03';have hq1:=hq1.below h03';have hq2:=hq2.below h03';clear h03 h03s h03' h1 HX hmi hmi2 hm1 hm2 hS0 hru3 HB3 hE1;go_wp2_with fail
 go_loopg [36] 2 (fun g i wr=>∃k:Nat,k<=2/\g=2-k/\i=.int .i64 k/\Below wc.heap.size wc wr)
 case atStart=>exact⟨0,by omega,rfl,rfl,Below.refl _ _⟩
 case round=>
  obtain⟨k,hk,hg,rfl,hbel⟩:=hrel;have HG:=hid hg;clear hg
  by_cases hlt:k<2
  ·obtain⟨t,ht,hc⟩:∃t:ByteArray,t.size<=300/\wr.cell? ⟨ab,k,none⟩=some (.string t):=by
    have har:=harr.below hbel harr.lt;rcases(show k=0\/k=1 by omega) with rfl|rfl
    ·exact⟨X,by omega,har.cell (i:=0) rfl⟩
    ·exact⟨t2,hts2,har.cell (i:=1) rfl⟩
   have hd:decide ((k:Int)<2)=true:=by simp;omega
   by_cases h0:t.size=0
   ·have z2:=vA (s:=t) (List.length_eq_zero_iff.1 (by simpa using h0));clear h0;go_wp2_with fail;have hg:=HG.out
    go_roundg (2-(k+1))
    case measure=>omega
    case rel=>exact⟨k+1,by omega,rfl,by go_num,hbel⟩
   ·have h0p:0<t.size:=by omega
    have z2:=rY h0p;have hln:=fun W=>ND t W (by omega)
    have hrl:=oS t.data.toList.length t.data.toList (Nat.le_refl _);have htl:t.data.toList.length=t.size:=by simp
    obtain⟨P,hP⟩:∃P,P=(bC t.data.toList).length:=⟨_,rfl⟩;have hP0:0<P:=by rw[hP];exact List.length_pos_iff.2 (hrl.2.1 (fun e=>by rw[e] at htl;simp at htl;omega))
    have hP6:P<=600:=by rw[hP];have:=hrl.1;omega
    rw[<-hP] at hln;have e1:=fun W=>AA t P W (by omega)
    have e2:=fun W=>AA t 360 W (by omega)
    unfold zQ eL at e1 e2;obtain⟨BL,hBL⟩:∃BL,BL=mP t P:=⟨_,rfl⟩;obtain⟨CL,hCL⟩:∃CL,CL=mP t 360:=⟨_,rfl⟩;obtain⟨E1,hE1⟩:∃E1,E1=eZ t P:=⟨_,rfl⟩;obtain⟨E2,hE2⟩:∃E2,E2=eZ t 360:=⟨_,rfl⟩;have hlen:=aOv (t:=t) (n:=(P:Int));rw[<-hBL] at e1 hlen;rw[<-hE1] at e1 hlen;rw[<-hCL,<-hE2] at e2;have HBL:=hid hBL;have HCL:=hid hCL;have HE1:=hid hE1;have HE2:=hid hE2;have HP:=hid hP;obtain⟨A,hA⟩:∃A,A=jO (l1.take 40):=⟨_,rfl⟩;obtain⟨C,hC⟩:∃C,C=jO (l2.take 40):=⟨_,rfl⟩;have hAl:A.length<=40:=by rw[hA];unfold jO;rw[List.length_map,List.length_take];omega
    have hCl:C.length<=40:=by rw[hC];unfold jO;rw[List.length_map,List.length_take];omega
    have hb1:=fun W (h:Below wc.heap.size wc W)=>aBs v1 l1 40 W (hq1.below h) (fun x hx=>wf1 x hx) (by decide)
    have hb2:=fun W (h:Below wc.heap.size wc W)=>aBs v2 l2 40 W (hq2.below h) (fun x hx=>wf2 x hx) (by decide)
    rw[show(40:Int).toNat=40 from rfl,<-hA] at hb1;rw[show(40:Int).toNat=40 from rfl,<-hC] at hb2;clear hBL hCL hE1 hE2 hP hrl htl h0 hA hC;go_wp2_with fail;refine(hln _).mono ?_;rintro e w4 ⟨rfl,h4⟩;have h4:=bV hbel h4;go_wp2_with fail;refine(e1 _).mono ?_;rintro e w5 ⟨rfl,h5,hO1⟩;have hlen:=hlen hO1;have hO1':=hO1;have HO:=hid hO1;have h5:=bV h4 h5;have hX5:=Arr.new w5 29 [.string (mkS (aD BL)),.int .i64 (BL.length:Int)];change Arr (w5.alloc (.cells #[.string (mkS (aD BL)),.int .i64 (BL.length:Int)] 29)) _ _ _ at hX5
    have h5:=bD h5 (.cells #[.string (mkS (aD BL)),.int .i64 (BL.length:Int)] 29);clear hO1 hO1' e1 hln h4 hbel hc;go_wp2_with fail;generalize w5.alloc (.cells #[.string (mkS (aD BL)),.int .i64 (BL.length:Int)] 29)=w6 at*
    obtain⟨bb,hbb⟩:∃bb,bb=w5.heap.size:=⟨_,rfl⟩;rw[<-hbb] at hX5 ⊢;clear hbb;refine(e2 _).mono ?_;rintro e w7 ⟨rfl,h7,-⟩;have hX7:=hX5.below h7 hX5.lt;have hY7:=Arr.new w7 29 [.string (mkS (aD CL)),.int .i64 (CL.length:Int)];change Arr (w7.alloc (.cells #[.string (mkS (aD CL)),.int .i64 (CL.length:Int)] 29)) _ _ _ at hY7;have hX7:=hX7.alloc (.cells #[.string (mkS (aD CL)),.int .i64 (CL.length:Int)] 29);have h7:=bD (bV h5 h7) (.cells #[.string (mkS (aD CL)),.int .i64 (CL.length:Int)] 29);clear e2 h5 hX5;go_wp2_with fail
    generalize w7.alloc (.cells #[.string (mkS (aD CL)),.int .i64 (CL.length:Int)] 29)=w8 at*
    obtain⟨cb,hcb⟩:∃cb,cb=w7.heap.size:=⟨_,rfl⟩;rw[<-hcb] at hY7 ⊢;clear hcb;refine(hb1 _ h7).mono ?_;rintro e w9 ⟨rfl,h9⟩;have hX9:=(hX7.below h9 hX7.lt).alloc (.cells #[.string (mkS (aD A)),.int .i64 (A.length:Int)] 29);have hY9:=(hY7.below h9 hY7.lt).alloc (.cells #[.string (mkS (aD A)),.int .i64 (A.length:Int)] 29);have hZ9:=Arr.new w9 29 [.string (mkS (aD A)),.int .i64 (A.length:Int)];change Arr (w9.alloc (.cells #[.string (mkS (aD A)),.int .i64 (A.length:Int)] 29)) _ _ _ at hZ9;have h9:=bD (bV h7 h9) (.cells #[.string (mkS (aD A)),.int .i64 (A.length:Int)] 29)
    clear h7 hX7 hY7 hb1;go_upto_region 10 with fail;generalize w9.alloc (.cells #[.string (mkS (aD A)),.int .i64 (A.length:Int)] 29)=w10 at*
    obtain⟨zb,hzb⟩:∃zb,zb=w9.heap.size:=⟨_,rfl⟩;rw[<-hzb] at hZ9 ⊢;clear hzb;have b0:=hX9.cell (i:=0) rfl;have b1:=hX9.cell (i:=1) rfl;have a0:=hZ9.cell (i:=0) rfl;have a1:=hZ9.cell (i:=1) rfl;have kb:=hX9.lt;have kz:=hZ9.lt;have hfl:[A,BL,C].flatten.length<=900000:=by simp;omega
    have hcat:=fun W vv (h:qI W vv [A,BL,C])=>CF vv [A,BL,C] W h hfl
    unfold eL at hcat;obtain⟨F,hF⟩:∃F,F=[A,BL,C].flatten:=⟨_,rfl⟩;rw[<-hF] at hcat;have HF:=hid hF;obtain⟨D,hD⟩:∃D,D=mkS (aD F):=⟨_,rfl⟩;rw[<-hD] at hcat;have HD:=hid hD;clear hF hD hfl
    go_cut [18,19] (fun c18 c19 wx=>∃z,c18=.pointer (some ⟨z,0,none⟩)/\c19=.int .i64 0/\Arr wx z 29 [.string D,.int .i64 (F.length:Int)]/\Below w10.heap.size w10 wx)
    case first=>
     have hS0:=four4 (B:=w10.heap.size) (w0:=w10) ⟨a0,a1,b0,b1,Below.refl _ _,Nat.le_refl _⟩ (Below.refl w10.heap.size w10).drew;clear a0 a1 b0 b1 hX9 hY9 hZ9;have hw2:=fun(w':World) (h:Below w10.heap.size w10 w')=>hb2 w' (bV h9 h)
     clear hb2 h9
     go_region_held3 (fun w'=>w'.cell? ⟨zb,0,none⟩=some (.string (mkS (aD A)))/\w'.cell? ⟨zb,1,none⟩=some (.int .i64 (A.length:Int))/\w'.cell? ⟨bb,0,none⟩=some (.string (mkS (aD BL)))/\w'.cell? ⟨bb,1,none⟩=some (.int .i64 (BL.length:Int))/\Below w10.heap.size w10 w'/\w10.heap.size<=w'.heap.size)
      (first
       |with_reducible assumption
       |with_reducible exact four4 (by assumption) (by assumption)
       |with_reducible exact four4 (by assumption) (bD (Below.refl _ _) _)
       |with_reducible exact four4A (by assumption) (EJ (by assumption)) kz kb
       |with_reducible exact four4A (by assumption) (set2B (by first|exact Nat.le_refl _|assumption|omega) _ _ _) kz kb)
      (first
       |(go_at_call 18;refine(hw2 _ (s5B (by assumption))).mono ?_;rintro e w11 ⟨rfl,hb11⟩;have hs11:w10.heap.size<=w11.heap.size:=Nat.le_trans (s6B (by assumption)) hb11.size;try(have hN1:Arr w11 w10.heap.size 29 [.string ⟨#[]⟩,.int .i64 0]:=Arr.below (w:=(w10.alloc (.cells #[.string ⟨#[]⟩,.int .i64 0] 29)).drew) (Arr.new w10 29 [.string ⟨#[]⟩,.int .i64 0]) hb11 (by simp)))
       |(go_at_call 19;have hr1:=row3 w11 A BL C;have hr2:=row3 (w11.alloc (.cells #[.string ⟨#[]⟩,.int .i64 0] 29)) A BL C;rw[World.size_alloc] at hr2;(first|refine(hcat _ _ hr1).mono ?_|refine(hcat _ _ hr2).mono ?_|refine(hcat _ _ (hr1.below (bD (Below.refl _ _) _))).mono ?_);rintro e w12 ⟨rfl,hb12⟩;have hs12:w10.heap.size<=w12.heap.size:=Nat.le_trans (s6B (by assumption)) hb12.size;first|(have hN2:Arr w12 w10.heap.size 29 [.string ⟨#[]⟩,.int .i64 0]:=Arr.below (hN1.alloc (.cells #[.string (mkS (aD A)),.int .i64 (A.length:Int),.string (mkS (aD BL)),.int .i64 (BL.length:Int),.string (mkS (aD C)),.int .i64 (C.length:Int)] 29)) hb12 (hN1.alloc _).lt;have c0:=hN2.cell (i:=0) rfl;have c1:=hN2.cell (i:=1) rfl;have f0:=hN2.free 0;have f1:=hN2.free 1)|(have hN0:=(Arr.new w11 29 [.string ⟨#[]⟩,.int .i64 0]).alloc (.cells #[.string (mkS (aD A)),.int .i64 (A.length:Int),.string (mkS (aD BL)),.int .i64 (BL.length:Int),.string (mkS (aD C)),.int .i64 (C.length:Int)] 29);have hN2:Arr w12 w11.heap.size 29 [.string ⟨#[]⟩,.int .i64 0]:=Arr.below hN0 hb12 hN0.lt;have c0:=hN2.cell (i:=0) rfl;have c1:=hN2.cell (i:=1) rfl;have f0:=hN2.free 0;have f1:=hN2.free 1)|(have hN0:=Arr.new (w11.alloc (.cells #[.string (mkS (aD A)),.int .i64 (A.length:Int),.string (mkS (aD BL)),.int .i64 (BL.length:Int),.string (mkS (aD C)),.int .i64 (C.length:Int)] 29)) 29 [.string ⟨#[]⟩,.int .i64 0];rw[World.size_alloc] at hN0;have hN2:Arr w12 (w11.heap.size+1) 29 [.string ⟨#[]⟩,.int .i64 0]:=Arr.below hN0 hb12 hN0.lt;have c0:=hN2.cell (i:=0) rfl;have c1:=hN2.cell (i:=1) rfl;have f0:=hN2.free 0;have f1:=hN2.free 1)|skip))
     all_goals
      go_wp2_with fail;go_meet
      first
       |exact⟨_,rfl,rfl,(hN2.set 0 _).set 1 _,s5B (by assumption)⟩
       |exact⟨w12.heap.size,rfl,rfl,Arr.new w12 29 [.string D,.int .i64 (F.length:Int)],s5B (by assumption)⟩
    case rest=>
    obtain⟨z,rfl,rfl,hC11,h11⟩:=hcut;have hX11:=hX9.below h11 hX9.lt;have hY11:=hY9.below h11 hY9.lt;have hZ11:=hZ9.below h11 hZ9.lt;have hb11:=bV h9 h11;have hE11:=hE3.below hb11;clear a0 a1 b0 b1 hb2 hcat hX9 hY9 hZ9 h9 h11
    by_cases hP360:360<P
    ·have x1:E1=1:=by
      rw[HE1.out];unfold eZ;rw[if_pos (by omega)]
     have x2:E2=4:=by rw[HE2.out];exact encE_l0 h0p (by decide) (by decide) (by rw[<-HP.out];omega)
     subst x1;subst x2;have z3:decide ((P:Int)>360)=true:=decide_eq_true (by omega);have z4:decide (360<(P:Int))=true:=decide_eq_true (by omega);have z5:decide (360<P)=true:=decide_eq_true hP360;clear HE1 HE2;go_wp2_with fail;have hg:=HG.out
     go_roundg (2-(k+1))
     case measure=>omega
     case rel=>exact⟨k+1,by omega,rfl,by go_num,hb11⟩
    have x1:eZ t P=0:=wY h0p (by omega) (by omega) (by rw[<-HP.out];omega);have x2:eZ t 360=0:=wY h0p (by decide) (by decide) (by rw[<-HP.out];omega);have hO:=HO.out (by rw[HE1.out];exact x1);obtain rfl:E1=0:=by rw[HE1.out];exact x1
    obtain rfl:E2=0:=by rw[HE2.out];exact x2
    have y1:BL=cB t:=by rw[HBL.out,EM x1]
    have y2:CL=BL:=by rw[HCL.out,EM x2,y1]
    have hst:=YF A BL C;have hFe:A++BL++C=F:=by rw[HF.out];simp
    rw[hFe] at hst;have hbk:=EI (room:=(P:Int)) h0p hO (by rw[<-HP.out];omega) (by omega) (y1▸hst);have hpt:=fun(v':Int) (h1:1<=v') (h2:v'<(P:Int))=>ME (room:=v') (fG t.data.toList).isLt h0p hO h1 (by omega) (by rw[<-HP.out];omega) (y1▸hst)
    rw[<-HP.out] at hpt;have hDl:D.data.toList=aD F:=by rw[HD.out,fW]
    rw[<-hDl] at hbk hpt;have hFl:F.length=A.length+BL.length+C.length:=by rw[<-hFe];simp;omega
    have hDs:D.size<=12000:=by rw[HD.out,cP,gY];omega
    have hsum:=fun W=>FA t W (by omega)
    obtain⟨Z,hZ⟩:∃Z,Z=(fG t.data.toList).toNat:=⟨_,rfl⟩;rw[<-y1] at hbk;rw[<-hZ] at hbk hsum;obtain⟨N,hN⟩:∃N,N=BL.length:=⟨_,rfl⟩;obtain⟨G,hG⟩:∃G,G=A.length:=⟨_,rfl⟩;obtain⟨Q,hQ⟩:∃Q,Q=G+N:=⟨_,rfl⟩;rw[y2] at hY11;obtain⟨Bd,hBd⟩:∃Bd,Bd=mkS (aD BL):=⟨_,rfl⟩;rw[<-hN] at hbk hX11 hY11 hlen hFl;rw[<-hG] at hbk hpt hZ11 hAl hFl;rw[<-hQ] at hbk;rw[<-hBd] at hX11 hY11;have n1:IntKind.i64.wrap ((G:Int)+(N:Int))=(Q:Int):=by rw[IntKind.wrap_i64];omega
    have n2:(G:Int)+(N:Int)=(Q:Int):=by omega
    have n3:IntKind.i64.wrap (Q:Int)=(Q:Int):=by rw[IntKind.wrap_i64];omega
    have z3:decide ((P:Int)>360)=false:=decide_eq_false (by omega);have z4:decide (360<(P:Int))=false:=decide_eq_false (by omega);have z5:decide (360<P)=false:=decide_eq_false hP360;have HBK:=hid hbk;have HPT:=hid hpt;have c0:=hC11.cell (i:=0) rfl;have a1:=hZ11.cell (i:=1) rfl;clear hbk hpt hst hFe hFl hDl y1 y2 x1 x2 hO HO HE1 HE2 HBL HCL HF HD hZ hN hG hQ hBd;go_wp2_with fail;refine(aBm D (G:Int) (P:Int) _ hE11 hDs (by omega) (by omega) (by omega) (by omega) HBK.out).mono ?_;rintro e w14 ⟨rfl,h14⟩
    have hX15:=(hX11.below h14 hX11.lt).alloc (.cells #[.string t,.int .u32 (Z:Int),.int .i64 (G:Int),.int .i64 (Q:Int)] 36);have hY15:=(hY11.below h14 hY11.lt).alloc (.cells #[.string t,.int .u32 (Z:Int),.int .i64 (G:Int),.int .i64 (Q:Int)] 36);have hZ15:=(hZ11.below h14 hZ11.lt).alloc (.cells #[.string t,.int .u32 (Z:Int),.int .i64 (G:Int),.int .i64 (Q:Int)] 36);have hC15:=(hC11.below h14 hC11.lt).alloc (.cells #[.string t,.int .u32 (Z:Int),.int .i64 (G:Int),.int .i64 (Q:Int)] 36);have hW15:=Arr.new w14 36 [.string t,.int .u32 (Z:Int),.int .i64 (G:Int),.int .i64 (Q:Int)]
    change Arr (w14.alloc (.cells #[.string t,.int .u32 (Z:Int),.int .i64 (G:Int),.int .i64 (Q:Int)] 36)) _ _ _ at hW15;have h15:=bD (bV hb11 h14) (.cells #[.string t,.int .u32 (Z:Int),.int .i64 (G:Int),.int .i64 (Q:Int)] 36);clear hX11 hY11 hZ11 hC11 hE11 hb11 h14 c0 a1;go_upto_region 15 with fail;generalize w14.alloc (.cells #[.string t,.int .u32 (Z:Int),.int .i64 (G:Int),.int .i64 (Q:Int)] 36)=w15 at*
    obtain⟨xb,hxb⟩:∃xb,xb=w14.heap.size:=⟨_,rfl⟩;rw[<-hxb] at hW15 ⊢;clear hxb;have hS0:=nine9 (B:=w15.heap.size) (w0:=w15) ⟨hX15.cell (i:=0) rfl,hX15.cell (i:=1) rfl,hY15.cell (i:=0) rfl,hY15.cell (i:=1) rfl,hW15.cell (i:=0) rfl,hW15.cell (i:=1) rfl,hW15.cell (i:=2) rfl,hW15.cell (i:=3) rfl,hZ15.cell (i:=1) rfl,Below.refl _ _,Nat.le_refl _⟩ (Below.refl w15.heap.size w15).drew;have hE15:=hE3.below h15;have q1:(t.toList==t.toList)=true:=beq_self_eq_true _;have q2:(Bd.toList==Bd.toList)=true:=beq_self_eq_true _
    go_cut [116] (fun c116 wx=>c116=.bool false/\Below w15.heap.size w15 wx)
    case first=>
     clear hX15 hY15 hW15 hC15 hZ15
     go_region_held3 (fun w'=>w'.cell? ⟨bb,0,none⟩=some (.string Bd)/\w'.cell? ⟨bb,1,none⟩=some (.int .i64 (N:Int))/\w'.cell? ⟨cb,0,none⟩=some (.string Bd)/\w'.cell? ⟨cb,1,none⟩=some (.int .i64 (N:Int))/\w'.cell? ⟨xb,0,none⟩=some (.string t)/\w'.cell? ⟨xb,1,none⟩=some (.int .u32 (Z:Int))/\w'.cell? ⟨xb,2,none⟩=some (.int .i64 (G:Int))/\w'.cell? ⟨xb,3,none⟩=some (.int .i64 (Q:Int))/\w'.cell? ⟨zb,1,none⟩=some (.int .i64 (G:Int))/\Below w15.heap.size w15 w'/\w15.heap.size<=w'.heap.size)
      (first
       |with_reducible assumption
       |with_reducible exact nine9 (by assumption) (by assumption))
      (first
       |(go_at_call 20;refine(hsum _).mono ?_;rintro e w16 ⟨rfl,hb16⟩))
     have hfin:Below w15.heap.size w15 w16:=s10B (by assumption);clear hb16;go_wp2_with fail;go_meet;exact⟨rfl,hfin⟩
    case rest=>
    obtain⟨rfl,h16⟩:=hcut;have hZ16:=hZ15.below h16 hZ15.lt;have hC16:=hC15.below h16 hC15.lt;have hE16:=hE15.below h16;have h16:=bV h15 h16;have c0:=hC16.cell (i:=0) rfl;have a1:=hZ16.cell (i:=1) rfl;clear hX15 hY15 hW15 hC15 hZ15 hE15 h15 hS0 q1 q2 hsum
    by_cases hP1:1<P
    ·have z6:decide ((P:Int)>1)=true:=decide_eq_true (by omega);have z7:decide (1<(P:Int))=true:=decide_eq_true (by omega);have z8:decide (1<P)=true:=decide_eq_true hP1;have n4:IntKind.i64.wrap ((P:Int)-1)=(P:Int)-1:=by rw[IntKind.wrap_i64];omega
     have hpt:=congrArg (fun d=>d.2.2.2) (HPT.out ((P:Int)-1) (by omega) (by omega));rw[if_pos (by omega)] at hpt;have e3:=fun W=>xH t ((P:Int)-1) 4 W (by omega) (encE_l0 h0p (by omega) (by omega) (by rw[<-HP.out];omega)) (by decide)
     go_wp2_with fail;refine(FG D (G:Int) ((P:Int)-1) _ hE16 hDs (by omega) (by omega) (by omega) (by omega) hpt (by decide)).mono ?_;rintro e w17 ⟨⟨x,y,z',rfl⟩,h17⟩;have h17:=bD (bV h16 h17) (.cells #[.string x,.int .u32 y,.int .i64 0,.int .i64 z'] 36);clear c0 a1 hZ16 hC16 hE16 h16 hpt HPT HBK;go_wp2_with fail;generalize w17.alloc (.cells #[.string x,.int .u32 y,.int .i64 0,.int .i64 z'] 36)=w18 at*
     refine(e3 _).mono ?_;rintro e w19 ⟨rfl,h19⟩;have h19:=bD (bV h17 h19) (.cells #[.string ⟨#[]⟩,.int .i64 0] 29);clear e3 h17;go_wp2_with fail;have hg:=HG.out
     go_roundg (2-(k+1))
     case measure=>omega
     case rel=>exact⟨k+1,by omega,rfl,by go_num,h19⟩
    ·have z6:decide ((P:Int)>1)=false:=decide_eq_false (by omega);have z7:decide (1<(P:Int))=false:=decide_eq_false (by omega);have z8:decide (1<P)=false:=decide_eq_false hP1;clear c0 a1 hZ16 hC16 hE16 HPT HBK;go_wp2_with fail;have hg:=HG.out
     go_roundg (2-(k+1))
     case measure=>omega
     case rel=>exact⟨k+1,by omega,rfl,by go_num,h16⟩
  ·have hd:decide ((k:Int)<2)=false:=by simp;omega
   go_wp2_with fail;go_ret;exact⟨rfl,h05.trans (hbel.mono h05.size)⟩
end Go.Proofs.YtiifmcicleljjaaGreatDoor
