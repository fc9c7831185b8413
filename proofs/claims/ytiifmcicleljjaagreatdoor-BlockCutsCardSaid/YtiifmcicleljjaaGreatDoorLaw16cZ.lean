/-
  The walk of the statement BlockCuts.
-/
import Derived.Test.YtiifmcicleljjaaGreatDoorZ22
set_option maxRecDepth 100000
set_option maxHeartbeats 12800000
namespace Go.Proofs.YtiifmcicleljjaaGreatDoor
open Go.RowKit Go Go.Shelf
theorem dec_zero16 (s:ByteArray) (room E:Int) (w:World) (hE:iF w) (hs:s.size<=12000) (hr1: -9223372036854775808<=room) (hr2:room<=9223372036854775807) (h:(cL s.data.toList 0 room).2.2.2=E):
  Calls Tryz.prog 15 #[.string s,.int .i64 0,.int .i64 room] w fun e w'=>(∃(x:ByteArray) (y z:Int),e=.returned (.tuple #[.agg #[.string x,.int .u32 y,.int .i64 0,.int .i64 z],.int .i64 E]))/\Below w.heap.size w w':=by
 refine(MW s 0 room w hE hs (by decide) (by decide) hr1 hr2).mono ?_;rintro e w' ⟨h1,h2⟩;obtain⟨x,y,z,E',hD⟩:∃x y z E',cL s.data.toList 0 room=(x,y,z,E'):=⟨_,_,_,_,rfl⟩;rw[hD] at h h1;obtain rfl:E'=E:=h;refine⟨⟨x,y,z,?_⟩,h2⟩;rw[h1];unfold wT;split<;>rfl
theorem kp2 {w1 w2:World} {p1 p2:Addr} {v1 v2:Value} {B:Nat} {w0:World} (h:w1.cell? p1=some v1/\w1.cell? p2=some v2/\Below B w0 w1/\B<=w1.heap.size) (hb:Below w1.heap.size w1 w2):
  w2.cell? p1=some v1/\w2.cell? p2=some v2/\Below B w0 w2/\B<=w2.heap.size:=by
 obtain⟨h1,h2,h6,h7⟩:=h;have k:∀{p:Addr} {v:Value},w1.cell? p=some v->w2.cell? p=some v:=fun{p} {v} hp=>(hb.cell (World.block_lt_of_cell? w1 p hp)).trans hp
 exact⟨k h1,k h2,h6.trans (hb.mono h7),Nat.le_trans h7 hb.size⟩
theorem kp2A {w1 w2:World} {b1 o1 o2:Nat} {v1 v2:Value} {B:Nat} {w0:World} (h:w1.cell? ⟨b1,o1,none⟩=some v1/\w1.cell? ⟨b1,o2,none⟩=some v2/\Below B w0 w1/\B<=w1.heap.size) (hb:Below B w1 w2) (k1:b1<B):
  w2.cell? ⟨b1,o1,none⟩=some v1/\w2.cell? ⟨b1,o2,none⟩=some v2/\Below B w0 w2/\B<=w2.heap.size:=
 ⟨(hb.cell (p:=⟨b1,o1,none⟩) k1).trans h.1,(hb.cell (p:=⟨b1,o2,none⟩) k1).trans h.2.1,h.2.2.1.trans hb,Nat.le_trans h.2.2.2 hb.size⟩
theorem kp2S {w1:World} {b1 o1 o2:Nat} {v1 v2:Value} {B:Nat} {w0:World} (h:w1.cell? ⟨b1,o1,none⟩=some v1/\w1.cell? ⟨b1,o2,none⟩=some v2/\Below B w0 w1/\B<=w1.heap.size) (k1:b1<B) (x0 x1 x2 x3:Value):
  ((((w1.setCell ⟨B,0,none⟩ x0).setCell ⟨B,1,none⟩ x1).setCell ⟨B,2,none⟩ x2).setCell ⟨B,3,none⟩ x3).cell? ⟨b1,o1,none⟩=some v1/\((((w1.setCell ⟨B,0,none⟩ x0).setCell ⟨B,1,none⟩ x1).setCell ⟨B,2,none⟩ x2).setCell ⟨B,3,none⟩ x3).cell? ⟨b1,o2,none⟩=some v2/\
   Below B w0 ((((w1.setCell ⟨B,0,none⟩ x0).setCell ⟨B,1,none⟩ x1).setCell ⟨B,2,none⟩ x2).setCell ⟨B,3,none⟩ x3)/\B<=((((w1.setCell ⟨B,0,none⟩ x0).setCell ⟨B,1,none⟩ x1).setCell ⟨B,2,none⟩ x2).setCell ⟨B,3,none⟩ x3).heap.size:=
 kp2A h (((((Below.refl B w1).setCell (p:=⟨B,0,none⟩) (Nat.le_refl _) x0).setCell (p:=⟨B,1,none⟩) (Nat.le_refl _) x1).setCell (p:=⟨B,2,none⟩) (Nat.le_refl _) x2).setCell (p:=⟨B,3,none⟩) (Nat.le_refl _) x3) k1
theorem s2B {P1 P2 P3 P4:Prop} (h:P1/\P2/\P3/\P4):P3:=h.2.2.1
theorem flipTo_yes {s:List UInt8} {a v n:Nat} (h:v.testBit n=true):jV s a v (n+1)=nM (jV s a v n) (a+n):=by
 show(if v.testBit n then _ else _)=_;rw[if_pos h]
theorem flipTo_no {s:List UInt8} {a v n:Nat} (h:v.testBit n=false):jV s a v (n+1)=jV s a v n:=by
 show(if v.testBit n then _ else _)=_;rw[if_neg (by rw[h];decide)]
theorem flipB_set {s:List UInt8} {k p r:Nat} {y:UInt8} (hp:k/8=p) (hr:k%8=r) (hy:s[p]? =some y):nM s k=s.set p (UInt8.ofNat (y.toNat^^^(128>>>r))):=by
 unfold nM;rw[hp,hr,List.getD_eq_getElem?_getD,hy];rfl
theorem blockCuts_any (s:ByteArray) (at':Int) (T:Int) (w:World) (hE:iF w) (_hs:s.size<=maxLen) (ha1: -9223372036854775808<=at') (ha2:at'<=9223372036854775807) (hT1:0<=T) (hT2:T<4294967296):
  Calls Tryz.prog 5 #[.string s,.int .i64 at',.int .u32 T] w fun e w'=>e=.returned (.bool true)/\Below w.heap.size w w':=by
 unfold maxLen at _hs;obtain⟨m,hmi,hm1,hm2⟩:=yI s.size 50 (by decide);have hmi2:min (s.size:Int) 50=(m:Int):=by rw[<-hmi,Int.min_def];split<;>split<;>omega
 obtain⟨t,ht⟩:∃t,t=s.extract 0 m:=⟨_,rfl⟩;have hts:t.size<=50:=by rw[ht];simp;omega
 have HT:=ht.symm;clear ht;obtain⟨T,rfl⟩:∃T':Nat,T=(T':Int):=⟨T.toNat,by omega⟩
 by_cases h0:t.size=0
 ·have z1:=vA (s:=t) (List.length_eq_zero_iff.1 (by simpa using h0));clear h0;go_enter Tryz.func5,Tryz.ntmps5;go_wp2_with fail;refine(FH _ hE).mono ?_;rintro e w1 ⟨rfl,h1⟩;go_wp2_with fail;go_ret;exact⟨rfl,h1⟩
 have h0p:0<t.size:=by omega
 have z1:=rY h0p;have hrl:=(oS t.data.toList.length t.data.toList (Nat.le_refl _)).1;rw[show t.data.toList.length=t.size by simp] at hrl;have e1:=fun W=>FF t 360 W (by omega) (wY h0p (by decide) (by decide) (by omega))
 have hpk1:=fun(n:Int) (h1:1<=n) (h2:n<=1000000000) W=>ZT at' n W ha1 ha2 h1 h2
 go_enter Tryz.func5,Tryz.ntmps5;go_wp2_with fail;refine(FH _ hE).mono ?_;rintro e w1 ⟨rfl,h1⟩;have hE1:=hE.below h1;go_wp2_with fail;refine(e1 _).mono ?_;rintro e w2 ⟨rfl,h2,hO⟩;have hfs:=fun hk=>aS2 (T:=T) hk h0p (by omega) hO
 have hfm:=fun k hk=>aS3 (k:=k) hk h0p (by omega) hO
 have hct:=fun k hk=>YL (room:=360) h0p hO (by omega) (by decide) (k:=k) hk
 have hln:=zR h0p (by omega) hO;obtain⟨L,hL⟩:∃L,L=aD (cB t):=⟨_,rfl⟩;have hLl:L.length=((cB t).length+7)/8:=by rw[hL,gY]
 obtain⟨N,hN⟩:∃N,N=(cB t).length:=⟨_,rfl⟩;rw[<-hN] at hct hln hLl ⊢;rw[<-hL] at hfs hfm hct ⊢;obtain⟨Q,hQ⟩:∃Q,Q=(N+7)/8:=⟨_,rfl⟩;have hDs:(mkS L).size=Q:=by rw[cP,hLl,hQ]
 have hN2:100<N/\N<=28000:=by omega
 have hQ2:12<Q/\Q<=3501:=by omega
 have hfs:=hfs (by omega);obtain⟨D,hD⟩:∃D,D=mkS L:=⟨_,rfl⟩;rw[<-hD] at hDs ⊢;have n1:IntKind.i64.wrap ((N:Int)+7)=(N:Int)+7:=by rw[IntKind.wrap_i64];omega
 have n2:((N:Int)+7).tdiv 8=(Q:Int):=by rw[Int.tdiv_eq_ediv_of_nonneg (by omega)];omega
 have n3:IntKind.i64.wrap (Q:Int)=(Q:Int):=by rw[IntKind.wrap_i64];omega
 have n4:((N:Int)+7)/8=(Q:Int):=by omega
 have n5:decide ((N:Int)<100)=false:=decide_eq_false (by omega);have n6:decide (N<100)=false:=decide_eq_false (by omega);have HDS:=hid hDs;have hX:=Arr.new w2 29 [.string D,.int .i64 (N:Int)];change Arr (w2.alloc (.cells #[.string D,.int .i64 (N:Int)] 29)) _ _ _ at hX;have hb2:=bD (bV h1 h2) (.cells #[.string D,.int .i64 (N:Int)] 29);have HD:=hid hD;clear hrl e1 hln hLl hL hN hQ hD h1 h2 h0 h0p hO;have d0:=hX.cell (i:=0) rfl;have d1:=hX.cell (i:=1) rfl;have nD:((D.size:Int) != (Q:Int))=false:=by rw[bne_eq_false_iff_eq];omega
 have nD2:(D.size != Q)=false:=by rw[bne_eq_false_iff_eq];exact hDs
 clear hDs;go_upto_region 8 with fail;obtain⟨bb,hbb⟩:∃bb,bb=w2.heap.size:=⟨_,rfl⟩;rw[<-hbb] at hX d0 d1 ⊢;generalize w2.alloc (.cells #[.string D,.int .i64 (N:Int)] 29)=w3 at*
 have hbl:=hX.lt;have hE3:=hE.below hb2;have hj:=hpk1 (Q:Int) (by omega) (by omega);obtain⟨k1,k2⟩:=vU at' (Q:Int) (by omega);obtain⟨j,hjj⟩:∃j:Nat,gA at' (Q:Int)=(j:Int):=⟨_,(Int.toNat_of_nonneg k1).symm⟩;rw[hjj] at hj;have hjQ:j<Q:=by omega
 have j1:j<=D.size:=by have:=HDS.out;omega
 have j2:(j:Int)<=(D.size:Int):=by omega
 have j3:(0:Int)<=(j:Int):=by omega
 have hdj:(cL (D.extract 0 j).data.toList 0 360).2.2.2=2:=by
  rw[aBn,HD.out,fW];exact hct j (by omega)
 have hdec:=fun W (h:W.cell? ⟨bb,0,none⟩=some (.string D)/\W.cell? ⟨bb,1,none⟩=some (.int .i64 (N:Int))/\Below w3.heap.size w3 W/\w3.heap.size<=W.heap.size)=>dec_zero16 (D.extract 0 j) 360 2 W (hE3.below h.2.2.1) (by rw[ByteArray.size_extract];have:=HDS.out;omega) (by decide) (by decide) hdj
 clear hbb hE hE1 hjj k1 k2 hct hdj nD nD2 n5 n6
 go_cut [12] (fun c12 wx=>c12=.int .i64 2/\Below w3.heap.size w3 wx)
 case first=>
  have hS0:=kp2 (B:=w3.heap.size) (w0:=w3) ⟨d0,d1,Below.refl _ _,Nat.le_refl _⟩ (Below.refl w3.heap.size w3).drew;clear d0 d1
  go_region_held3 (fun w'=>w'.cell? ⟨bb,0,none⟩=some (.string D)/\w'.cell? ⟨bb,1,none⟩=some (.int .i64 (N:Int))/\Below w3.heap.size w3 w'/\w3.heap.size<=w'.heap.size)
   (first
    |with_reducible assumption
    |with_reducible exact kp2 (by assumption) (by assumption)
    |with_reducible exact kp2 (by assumption) (bD (Below.refl _ _) _)
    |with_reducible exact kp2A (by assumption) (EJ (by assumption)) hbl
    |with_reducible exact kp2S (by assumption) hbl _ _ _ _)
   (first
    |(go_at_call 11;refine(hj _).mono ?_;rintro e w4 ⟨rfl,rfl⟩)
    |(go_at_call 15;refine(hdec _ (by assumption)).mono ?_;rintro e w5 ⟨⟨x5,y5,z5,rfl⟩,hb5⟩;first|(have hN:Arr w5 w3.heap.size 36 [.string ⟨#[]⟩,.int .u32 0,.int .i64 0,.int .i64 0]:=Arr.below (w:=(w3.alloc (.cells #[.string ⟨#[]⟩,.int .u32 0,.int .i64 0,.int .i64 0] 36)).drew) (Arr.new w3 36 [.string ⟨#[]⟩,.int .u32 0,.int .i64 0,.int .i64 0]) hb5 (by simp);have c0:=hN.cell (i:=0) rfl;have c1:=hN.cell (i:=1) rfl;have c2:=hN.cell (i:=2) rfl;have c3:=hN.cell (i:=3) rfl;have f0:=hN.free 0;have f1:=hN.free 1;have f2:=hN.free 2;have f3:=hN.free 3)|(have hs5:w3.heap.size<=w5.heap.size:=hb5.size)))
  all_goals
   go_wp2_with fail;go_meet;exact⟨rfl,s2B (by assumption)⟩
 case rest=>
 obtain⟨rfl,hb4⟩:=hcut;have hX4:=hX.below hb4 hbl;have hb4w:=bV hb2 hb4;have hE4:=hE3.below hb4;have d0:=hX4.cell (i:=0) rfl;obtain⟨cap,w5,hcv,hc1,hc2,hA5,hb5,hz5⟩:=DX wc D (by have:=HDS.out;omega);have hX5:=hX4.below hb5 hX4.lt;have hb5w:=bV hb4w hb5;have hE5:=hE4.below hb5;obtain⟨ub,hub⟩:∃ub,ub=wc.heap.size:=⟨_,rfl⟩;have hubl:ub<w5.heap.size:=by omega
 have hbu:bb<ub:=by have:=hX4.lt;omega
 rw[<-hub] at hcv hA5;have hDL:D.data.toList=L:=by rw[HD.out,fW]
 rw[hDL] at hA5;have hLs:L.length=D.size:=by rw[<-hDL];simp
 have HLs:=hid hLs;have hb5u:Below w.heap.size w w5:=hb5w;have hwu:w.heap.size<=ub:=by rw[hub];exact hb4w.size
 clear hX hE3 hb2 hdec hj hub hb4 hb4w hE4 hX4 hb5 hz5 hLs hb5w j1 j2 j3 hDL;go_wp2_with fail
 go_loopg [14] 32 (fun g s14 wr=>∃i:Nat,i<=32/\g=32-i/\s14=.int .i64 (i:Int)/\ByA wr ub (jV L 48 T i)/\Below ub w5 wr)
 case atStart=>exact⟨0,by omega,rfl,rfl,hA5,Below.refl _ _⟩
 case round=>
  obtain⟨i,hi,hg,rfl,hA,hbel⟩:=hrel;have HG:=hid hg;clear hg hA5
  by_cases hlt:i<32
  ·have v1:decide ((i:Int)<32)=true:=decide_eq_true (by omega);obtain⟨V,hV⟩:∃V,V=T/2^i:=⟨_,rfl⟩;obtain⟨b,hb⟩:∃b,b=V%2:=⟨_,rfl⟩;have hbb:b=(T.testBit i).toNat:=by rw[hb,hV,IU]
   have hVb:V<4294967296:=by rw[hV];exact Nat.lt_of_le_of_lt (Nat.div_le_self _ _) (by omega)
   have s1:(T:Int)/2^i=(V:Int):=by rw[hV];exact yG T i
   have s2:(V:Int).tmod 2=(b:Int):=by rw[hb];exact Int.ofNat_tmod V 2
   have s3:(V:Int)%2=(b:Int):=by omega
   have s4:IntKind.u32.wrap (V:Int)=(V:Int):=by rw[IntKind.wrap_u32];omega
   have s5:(V:Int)%4294967296=(V:Int):=by omega
   have s6:IntKind.u32.wrap (b:Int)=(b:Int):=by rw[IntKind.wrap_u32];omega
   have s7:min i 32=i:=by omega
   have s8:(b:Int)%4294967296=(b:Int):=by omega
   clear hV hb
   cases hT:T.testBit i with
   |false=>
    rw[hT] at hbb;have hbb:b=0:=hbb;have z2:((b:Int)==1)=false:=by rw[beq_eq_false_iff_ne];omega
    have z3:(b==1)=false:=by rw[beq_eq_false_iff_ne];omega
    have HF:=hid (flipTo_no (s:=L) (a:=48) hT);clear hbb hT;go_wp2_with fail;have hg:=HG.out
    go_roundg (32-(i+1))
    case measure=>omega
    case rel=>exact⟨i+1,by omega,rfl,by go_num,by rw[HF.out];exact hA,hbel⟩
   |true=>
    rw[hT] at hbb;have hbb:b=1:=hbb;have z2:((b:Int)==1)=true:=by rw[beq_iff_eq];omega
    have z3:(b==1)=true:=by rw[beq_iff_eq];omega
    obtain⟨k8,hk8⟩:∃k8,k8=i/8:=⟨_,rfl⟩;obtain⟨p,hp⟩:∃p,p=6+k8:=⟨_,rfl⟩;obtain⟨r,hr⟩:∃r,r=i%8:=⟨_,rfl⟩;have m2:(i:Int).tdiv 8=(k8:Int):=by rw[hk8];exact Int.ofNat_tdiv i 8
    have m3:IntKind.i64.wrap (k8:Int)=(k8:Int):=by rw[IntKind.wrap_i64];omega
    have m4:(i:Int)/8=(k8:Int):=by omega
    have m5:(i:Int).tmod 8=(r:Int):=by rw[hr];exact Int.ofNat_tmod i 8
    have m6:IntKind.i64.wrap (r:Int)=(r:Int):=by rw[IntKind.wrap_i64];omega
    have m7:(i:Int)%8=(r:Int):=by omega
    have m8:min r 8=r:=by omega
    have m9:IntKind.i64.wrap (6+(k8:Int))=(p:Int):=by rw[IntKind.wrap_i64];omega
    have m10:6+(k8:Int)=(p:Int):=by omega
    have m11:IntKind.i64.wrap (p:Int)=(p:Int):=by rw[IntKind.wrap_i64];omega
    have hpD:p<D.size:=by have:=HDS.out;omega
    have hpI:(p:Int)<(D.size:Int):=by omega
    have hpl:p<(jV L 48 T i).length:=by rw[wS,HLs.out];exact hpD
    obtain⟨Y,hY⟩:∃Y,(jV L 48 T i)[p]? =some Y:=⟨_,List.getElem?_eq_getElem hpl⟩;have c1:=hA.2.1 p Y hY;have f1:=hA.2.2 p hpl;have hfl:=ZV Y r;have hset:=flipB_set (s:=jV L 48 T i) (k:=48+i) (p:=p) (r:=r) (by omega) (by omega) hY;rw[<-flipTo_yes hT] at hset;obtain⟨Y2,hY2⟩:∃Y2,Y2=UInt8.ofNat (Y.toNat^^^(128>>>r)):=⟨_,rfl⟩;rw[<-hY2] at hfl hset;have hyb:=Y.toNat_lt;obtain⟨yv,hyv⟩:∃yv,yv=Y.toNat:=⟨_,rfl⟩;rw[<-hyv] at c1 hfl hyb;have HS:=hid hset;clear hbb hT hk8 hp hr hpl hY hY2 hyv hset hpk1;go_wp2_with fail
    go_still_tail 15,(by kernel_rfl)
    change wpList _ _ _ _ _ wr.drew;have c2:wr.drew.cell? ⟨ub,p,none⟩=some (.int .u8 (yv:Int)):=c1;have f2:wr.drew.frozen? ⟨ub,p,none⟩=false:=f1;have hA2:=(hA.drew).set p Y2;have hbel2:=(hbel.drew).setCell (p:=⟨ub,p,none⟩) (Nat.le_refl _) (.int .u8 (Y2.toNat:Int));clear c1 f1 hA hbel;generalize wr.drew=w6 at*
    go_wp2_with fail;have hg:=HG.out
    go_roundg (32-(i+1))
    case measure=>omega
    case rel=>exact⟨i+1,by omega,rfl,by go_num,by rw[HS.out];exact hA2,hbel2⟩
  ·have v1:decide ((i:Int)<32)=false:=decide_eq_false (by omega);have hi32:i=32:=by omega
   subst hi32;obtain⟨F,hF⟩:∃F,F=jV L 48 T 32:=⟨_,rfl⟩;rw[<-hF] at hA hfs;have hFl:F.length=D.size:=by rw[hF,wS];exact HLs.out
   have hbk:=lQ (hA.rdB (cap:=cap) (by rw[hFl];exact hc1) hc2);rw[hFl] at hbk;have hEr:iF wr:=(hbel.cell (p:=⟨0,0,none⟩) (by show 0<ub;omega)).trans hE5;have hXr:=hX5.below hbel hbu;have hbr:Below w.heap.size w wr:=hb5u.trans (hbel.mono hwu);obtain⟨E5,hE5e⟩:∃E5:Int,E5=if T=0 then 0 else 7:=⟨_,rfl⟩;rw[<-hE5e] at hfs;have HE5:=hid hE5e;have hk:=fun W=>hpk1 48 (by decide) (by decide) W
   obtain⟨k1,k2⟩:=vU at' 48 (by decide);obtain⟨K,hK⟩:∃K:Nat,gA at' 48=(K:Int):=⟨_,(Int.toNat_of_nonneg k1).symm⟩;simp only[hK] at hk;have hK48:K<48:=by omega
   clear hF hA hE5 hX5 hbel hb5u hwu hbu hubl hE5e hK k1 k2 hpk1 hcv;go_wp2_with fail;refine(dec_zero16 (mkS F) 360 E5 wr hEr (by rw[cP,hFl];have:=HDS.out;omega) (by decide) (by decide) hfs).mono ?_;rintro e w7 ⟨⟨x,y,z,rfl⟩,hb7⟩;have hX8:=(hXr.below hb7 hXr.lt).alloc (.cells #[.string x,.int .u32 y,.int .i64 0,.int .i64 z] 36);have hb8:=bD (bV hbr hb7) (.cells #[.string x,.int .u32 y,.int .i64 0,.int .i64 z] 36);have hE8:=(hEr.below hb7).below (bD (Below.refl _ _) (.cells #[.string x,.int .u32 y,.int .i64 0,.int .i64 z] 36))
   obtain⟨cap2,w9,hcv2,hd1,hd2,hA9,hb9,hz9⟩:=DX (w7.alloc (.cells #[.string x,.int .u32 y,.int .i64 0,.int .i64 z] 36)) D (by have:=HDS.out;omega);have d0:=hX8.cell (i:=0) rfl;have hb9w:=bV hb8 hb9;have hE9:=hE8.below hb9;obtain⟨vb,hvb⟩:∃vb,vb=(w7.alloc (.cells #[.string x,.int .u32 y,.int .i64 0,.int .i64 z] 36)).heap.size:=⟨_,rfl⟩;have hvw:w.heap.size<=vb:=by rw[hvb];exact hb8.size
   have hv0:0<vb:=by rw[hvb];simp
   rw[<-hvb] at hcv2 hA9;rw[show D.data.toList=L by rw[HD.out,fW]] at hA9;obtain⟨p,hp⟩:∃p,p=K/8:=⟨_,rfl⟩;obtain⟨r,hr⟩:∃r,r=K%8:=⟨_,rfl⟩;have m2:(K:Int).tdiv 8=(p:Int):=by rw[hp];exact Int.ofNat_tdiv K 8
   have m3:IntKind.i64.wrap (p:Int)=(p:Int):=by rw[IntKind.wrap_i64];omega
   have m4:(K:Int)/8=(p:Int):=by omega
   have m5:(K:Int).tmod 8=(r:Int):=by rw[hr];exact Int.ofNat_tmod K 8
   have m6:IntKind.i64.wrap (r:Int)=(r:Int):=by rw[IntKind.wrap_i64];omega
   have m7:(K:Int)%8=(r:Int):=by omega
   have m8:min r 8=r:=by omega
   have hpD:p<D.size:=by have:=HDS.out;omega
   have hpI:(p:Int)<(D.size:Int):=by omega
   have hpl:p<L.length:=by rw[HLs.out];exact hpD
   obtain⟨Y,hY⟩:∃Y,L[p]? =some Y:=⟨_,List.getElem?_eq_getElem hpl⟩;have c1:=hA9.2.1 p Y hY;have f1:=hA9.2.2 p hpl;have hfl:=ZV Y r;have hset:=flipB_set (s:=L) (k:=K) hp.symm hr.symm hY;obtain⟨Y2,hY2⟩:∃Y2,Y2=UInt8.ofNat (Y.toNat^^^(128>>>r)):=⟨_,rfl⟩;rw[<-hY2] at hfl hset;have hyb:=Y.toNat_lt;obtain⟨yv,hyv⟩:∃yv,yv=Y.toNat:=⟨_,rfl⟩;rw[<-hyv] at c1 hfl hyb;have hG:=hfm K hK48;rw[hset] at hG;have HG3:=hid hG;clear hvb hfs hfm hset hG hp hr hpl hY hY2 hyv hXr hEr hX8 hb8 hE8 hbr hbk hz9 hb9 hb7;go_wp2_with fail;refine(hk _).mono ?_;rintro e w9' ⟨rfl,rfl⟩;clear hk;go_wp2_with fail
   go_still_tail 13,(by kernel_rfl)
   change wpList _ _ _ _ _ w9.drew;have c2:w9.drew.cell? ⟨vb,p,none⟩=some (.int .u8 (yv:Int)):=c1;have f2:w9.drew.frozen? ⟨vb,p,none⟩=false:=f1;have hA2:=(hA9.drew).set p Y2;have hbA:=(hb9w.drew).setCell (p:=⟨vb,p,none⟩) hvw (.int .u8 (Y2.toNat:Int));have hEA:iF (w9.drew.setCell ⟨vb,p,none⟩ (.int .u8 (Y2.toNat:Int))):=((((Below.refl vb w9).drew).setCell (p:=⟨vb,p,none⟩) (Nat.le_refl _) (.int .u8 (Y2.toNat:Int))).cell (p:=⟨0,0,none⟩) hv0).trans hE9;clear c1 f1 hA9 hb9w hE9;generalize w9.drew=w10 at*
   have hbk2:=lQ (hA2.rdB (cap:=cap2) (by rw[List.length_set,HLs.out];exact hd1) hd2);rw[List.length_set,HLs.out] at hbk2;go_wp2_with fail;refine(dec_zero16 (mkS (L.set p Y2)) 360 3 _ hEA (by rw[cP,List.length_set,HLs.out];have:=HDS.out;omega) (by decide) (by decide) HG3.out).mono ?_;rintro e w11 ⟨⟨x',y',z',rfl⟩,hb11⟩;have hbf:=bD (bV hbA hb11) (.cells #[.string x',.int .u32 y',.int .i64 0,.int .i64 z'] 36);have hEE:=HE5.out;clear hA2 hbA hEA hbk2 hb11
   by_cases hT0:T=0
   ·rw[if_pos hT0] at hEE;subst hT0;subst hEE;go_wp2_with fail;go_ret;exact⟨rfl,hbf⟩
   ·rw[if_neg hT0] at hEE;subst hEE;have v5:((T:Int)==0)=false:=by rw[beq_eq_false_iff_ne];omega
    have v6:(T==0)=false:=by rw[beq_eq_false_iff_ne];exact hT0
    go_wp2_with fail;go_ret;exact⟨rfl,hbf⟩
end Go.Proofs.YtiifmcicleljjaaGreatDoor
