/-
  The walk of the statement IndexScan.
-/
import Derived.Test.YtihbnmlinkbnkaaGreatDoorM19tZ
import Derived.Test.YtihbnmlinkbnkaaGreatDoorZ43
import Derived.Test.YtihbnmlinkbnkaaGreatDoorZ44
set_option linter.unusedVariables false
set_option linter.unusedSimpArgs false
set_option maxRecDepth 100000
set_option maxHeartbeats 12800000
namespace Go.Proofs.YtihbnmlinkbnkaaGreatDoor
open Go.RowKit Go Go.Shelf
theorem two2B {w1 w2:World} {p1 p2:Addr} {v1 v2:Value} {B:Nat} {w0:World} (h:w1.cell? p1=some v1/\w1.cell? p2=some v2/\Below B w0 w1/\B<=w1.heap.size) (hb:Below B w1 w2) (k1:p1.block<B) (k2:p2.block<B):
  w2.cell? p1=some v1/\w2.cell? p2=some v2/\Below B w0 w2/\B<=w2.heap.size:=
 ⟨(hb.cell k1).trans h.1,(hb.cell k2).trans h.2.1,h.2.2.1.trans hb,Nat.le_trans h.2.2.2 hb.size⟩
theorem set4B {w W:World} {z B:Nat} {x0 x1 x2 x3:Value} (hA:Arr W z 46 [x0,x1,x2,x3]) (hz:B<=z) (hb:Below B w W) (y0 y1 y2 y3:Value):
  Arr ((((W.setCell ⟨z,0,none⟩ y0).setCell ⟨z,1,none⟩ y1).setCell ⟨z,2,none⟩ y2).setCell ⟨z,3,none⟩ y3) z 46 [y0,y1,y2,y3]/\
  Below B w ((((W.setCell ⟨z,0,none⟩ y0).setCell ⟨z,1,none⟩ y1).setCell ⟨z,2,none⟩ y2).setCell ⟨z,3,none⟩ y3):=
 ⟨(((hA.set 0 _).set 1 _).set 2 _).set 3 _,(((hb.setCell (p:=⟨z,0,none⟩) hz _).setCell (p:=⟨z,1,none⟩) hz _).setCell (p:=⟨z,2,none⟩) hz _).setCell (p:=⟨z,3,none⟩) hz _⟩
theorem decOk19 (s:ByteArray) (a room:Int) (w:World) {x:ByteArray} {y z:Int} (hE:dU w) (hs:s.size<=120000) (ha1: -9223372036854775808<=a) (ha2:a<=9223372036854775807) (hr1: -9223372036854775808<=room) (hr2:room<=9223372036854775807) (h:cO s.data.toList a room=(x,y,z,0)):
  Calls Tryz.prog 49 #[.string s,.int .i64 a,.int .i64 room] w fun e w'=>e=.returned (.tuple #[.agg #[.string x,.int .u32 y,.int .i64 a,.int .i64 z],.int .i64 0])/\Below w.heap.size w w':=by
 refine(bCp s a room w hE hs ha1 ha2 hr1 hr2).mono ?_;rintro e w' ⟨h1,h2⟩;rw[h,aH1] at h1;exact⟨h1,h2⟩
theorem indexScan_any (s:ByteArray) (v:Value) (raw:List (Int×Int)) (level many which x:Int) (w:World) (hE:dU w) (_hs:s.size<=maxLen) (hr:RdP w v raw) (hwf:WfP raw) (hl1: -9223372036854775808<=level) (hl2:level<=9223372036854775807) (hm1: -9223372036854775808<=many) (hm2:many<=9223372036854775807) (hw1: -9223372036854775808<=which) (hw2:which<=9223372036854775807) (hx1: -9223372036854775808<=x) (hx2:x<=9223372036854775807):
  Calls Tryz.prog 7 #[.string s,v,.int .i64 level,.int .i64 many,.int .i64 which,.int .i64 x] w fun e w'=>e=.returned (.bool true)/\Below w.heap.size w w':=by
 go_enter Tryz.func7,Tryz.ntmps7;go_wp2_with fail;refine(bHn _ hE).mono ?_;rintro e w1 ⟨rfl,h1⟩;have hE1:=hE.below h1;have hr1:=hr.below h1;clear hE hr;go_wp2_with fail;refine(bHj s v raw level many _ hr1 hwf hl1 hl2 hm1 hm2).mono ?_;rintro e w2 ⟨a,rfl,ha,h2⟩;have hE2:=hE1.below h2;have h02:=aW h1 h2;have hasz:=ha.facts.1;clear h1 h2 hE1 hr1 hwf ha;go_wp2_with fail;refine(bHo a which x _ (by omega) hw1 hw2 hx1 hx2).mono ?_;rintro e w3 ⟨t2,rfl,ht2,h3⟩;have hE3:=hE2.below h3;have h03:=aW h02 h3;have hM:=Arr.new w3 9 [.string a,.string t2]
 change Arr (w3.alloc (.cells #[.string a,.string t2] 9)) _ _ _ at hM;have hbb:Below w3.heap.size w3 (w3.alloc (.cells #[.string a,.string t2] 9)):=bD (Below.refl _ _) _;have hE4:=hE3.below hbb;have h04:=aW h03 hbb;clear h02 h3 hE2 hE3 h03 hbb;go_wp2_with fail;obtain⟨Z,hZ⟩:∃Z,Z=w3.heap.size:=⟨_,rfl⟩;generalize w3.alloc (.cells #[.string a,.string t2] 9)=w4 at*
 rw[<-hZ] at hM ⊢;clear hZ
 go_loopg [16,17,18,19,20,21,22,23,37] 2 (fun g _s16 _s17 _s18 _s19 _s20 _s21 _s22 _s23 s37 wr=>∃k:Nat,k<=2/\g=2-k/\s37=.int .i64 (k:Int)/\Arr wr Z 9 [.string a,.string t2]/\dU wr/\Below w.heap.size w wr)
 case atStart=>exact⟨0,by decide,rfl,rfl,hM,hE4,h04⟩
 case round=>
 obtain⟨k,hk,hg,rfl,hMr,hEr,hbel⟩:=hrel;have HK:=hid hg;clear hg hM hE4 h04
 by_cases hlt:k<2
 rotate_left
 ·have t1:decide ((k:Int)<2)=false:=aE (by omega);have t1':decide (k<2)=false:=aE (by omega);clear HK hMr;go_wp2_with fail;go_ret;exact⟨rfl,hbel⟩
 have t1:decide ((k:Int)<2)=true:=aG (by omega);have t1':decide (k<2)=true:=aG (by omega);obtain⟨u,hu,hus⟩:∃u:ByteArray,([.string a,.string t2]:List Value)[k]? =some (.string u)/\u.size<=18000:=by
  rcases k with _|_|k
  ·exact⟨_,rfl,hasz⟩
  ·exact⟨_,rfl,by omega⟩
  ·omega
 have c0:=hMr.cell hu;have hsc:=fun W h=>GK u W h (by omega)
 have hrd:=fun W h=>aJk u W h (by omega)
 clear hu
 by_cases h0:(cI u.data.toList).2=0
 rotate_left
 ·have hbad:=bDn h0;rw[hbad] at hsc hrd;rw[show gU 0 []=[] from rfl,List.map_nil] at hsc;rw[List.map_nil] at hrd;obtain⟨E,hEe⟩:∃E,E=(cI u.data.toList).2:=⟨_,rfl⟩;rw[<-hEe] at hsc hrd h0;have y1:(E != 0)=true:=bne_iff_ne.2 h0;have y2:(E==0)=false:=beq_eq_false_iff_ne.2 h0;clear hEe hbad h0;go_wp2_with fail;refine(hsc _ hEr).mono ?_;rintro e w5 ⟨v5,rfl,hv5,h5⟩;obtain⟨p5,c5,hv5',-⟩:=nS (l:=[]) hv5;subst hv5';have hE5:=hEr.below h5;have hM5:=hMr.below h5 hMr.lt;have h05:=aW hbel h5;clear hsc hEr hMr hbel h5 hv5 c0;go_wp2_with fail;refine(hrd _ hE5).mono ?_;rintro e w6 ⟨rfl,h6⟩
  have hE6:=hE5.below h6;have hM6:=hM5.below h6 hM5.lt;have h06:=aW h05 h6;clear hrd hE5 hM5 h05 h6;go_wp2_with fail
  go_loopg [21,22,23] 0 (fun g s21 _s22 _s23 wz=>g=0/\s21=.int .i64 0/\wz=w6)
  case atStart=>exact⟨rfl,rfl,rfl⟩
  case round=>
  obtain⟨hg,rfl,rfl⟩:=hrel;go_wp2_with fail;have hg:=HK.out
  go_roundg (2-(k+1))
  case measure=>omega
  case rel=>exact⟨k+1,by omega,rfl,by go_num,hM6,hE6,h06⟩
 have hrs:eY u.data.toList=(cI u.data.toList).1:=by unfold eY;rw[aB h0]
 have hpl:=GC u;have hgood:=fun p (h:p∈eY u.data.toList)=>aJh p h
 have hri:jA (gU 0 (eY u.data.toList)):=by rw[hrs];exact scan_ok h0
 rw[h0] at hsc hrd;have hget:=fun i p=>scanE_get (eY u.data.toList) 0 i p
 have hpart:=fun i p=>catT_part (P:=eY u.data.toList) (i:=i) (p:=p)
 have htot:lG (gU 0 (eY u.data.toList))=((iH ((eY u.data.toList).map Prt.t)).size:Int):=by
  unfold lG;rw[aB hri,scanE_sum,catT_len]
 have hll:=NK (eY u.data.toList) 0;have hts:=bDj u.data.toList (eY u.data.toList).length;rw[List.take_length] at hts;obtain⟨P,hP⟩:∃P,P=eY u.data.toList:=⟨_,rfl⟩;rw[<-hP] at hpl hgood hri hsc hrd hget hpart htot hll hts;obtain⟨L,hL⟩:∃L,L=gU 0 P:=⟨_,rfl⟩;rw[<-hL] at hri hsc hget htot hll;obtain⟨T,hT⟩:∃T,T=iH (P.map Prt.t):=⟨_,rfl⟩;rw[<-hT] at hrd hpart htot hts;have hTl:T.data.toList.length=T.size:=by simp
 have hL6:L.length<=1000000:=by omega
 have hrt:=fun v W h=>DB v L W h hL6
 rw[aG hri] at hrt;have htt:=fun v W h=>VO v L W h hL6
 rw[htot] at htt;have hTb:T.size<=4000000000:=by omega
 have HLL:=hid hll;have y3:((T.size:Int) != (T.size:Int))=false:=bne_self_eq_false _;have y4:(T.size != T.size)=false:=bne_self_eq_false _;clear hrs hP hL hT hri htot hts hTl h0 hll;go_wp2_with fail;refine(hsc _ hEr).mono ?_;rintro e w5 ⟨v5,rfl,hv5,h5⟩;have hE5:=hEr.below h5;have hM5:=hMr.below h5 hMr.lt;have h05:=aW hbel h5;clear hsc hEr hMr hbel h5 c0;go_wp2_with fail;refine(hrd _ hE5).mono ?_;rintro e w6 ⟨rfl,h6⟩;have hE6:=hE5.below h6;have hM6:=hM5.below h6 hM5.lt;have hv6:=hv5.below h6;have h06:=aW h05 h6;clear hrd hE5 hM5 h05 h6 hv5;obtain⟨p5,c5,rfl,hc5,hm5,-⟩:=nS hv6
 go_wp2_with fail;refine(hrt _ _ hv6).mono ?_;rintro e w7 ⟨rfl,h7⟩;have hE7:=hE6.below h7;have hM7:=hM6.below h7 hM6.lt;have hv7:=hv6.below h7;have h07:=aW h06 h7;clear hrt hE6 hM6 h06 h7 hv6;go_wp2_with fail;refine(htt _ _ hv7).mono ?_;rintro e w8 ⟨rfl,h8⟩;have hE8:=hE7.below h8;have hM8:=hM7.below h8 hM7.lt;have hv8:=hv7.below h8;have h08:=aW h07 h8;clear htt hE7 hM7 h07 h8 hv7;obtain⟨p5',c5',hv5',-,-,hA⟩:=nS hv8;obtain⟨rfl,rfl⟩:p5=p5'/\c5=c5':=by injection hv5' with q1 q2 q3;exact⟨q1,q3⟩
 unfold maxLen at hm5;clear hv8 hv5';go_wp2_with fail
 go_loopg [21,22,23] L.length (fun g s21 _s22 _s23 wz=>∃i:Nat,i<=L.length/\g=L.length-i/\s21=.int .i64 (i:Int)/\Below w8.heap.size w8 wz)
 case atStart=>exact⟨0,Nat.zero_le _,rfl,rfl,Below.refl _ _⟩
 case round=>
 obtain⟨i,hi,hg,rfl,hbz⟩:=hrel;have HI:=hid hg;clear hg
 by_cases hil:i<L.length
 rotate_left
 ·have t2:decide ((i:Int)<(L.length:Int))=false:=aE (by omega);have hMz:=hM8.below hbz hM8.lt;have hEz:=hE8.below hbz;have h0z:=aW h08 hbz;clear HI hA hbz hM8 hE8 h08;go_wp2_with fail;have hg:=HK.out
  go_roundg (2-(k+1))
  case measure=>omega
  case rel=>exact⟨k+1,by omega,rfl,by go_num,hMz,hEz,h0z⟩
 have t2:decide ((i:Int)<(L.length:Int))=true:=aG (by omega);obtain⟨b,off,rfl,hb,hc⟩:=hA (by omega);obtain⟨p,hp⟩:∃p,P[i]? =some p:=⟨_,List.getElem?_eq_getElem (by have:=HLL.out;omega)⟩;obtain⟨d0,d1,d2,d3,d4⟩:=hc i _ (hget i p hp);obtain⟨g1,g2,g3,g4⟩:=hgood p (List.mem_of_getElem? hp);obtain⟨f1,f2,f3,f4,f5,f6⟩:=(show zP u.data.toList p from⟨g1,g2,g3,g4⟩).facts;obtain⟨r1,r2⟩:=hpart i p hp;obtain⟨F,hF⟩:∃F,F=vE (P.take i):=⟨_,rfl⟩;rw[<-hF] at r1 r2 d2;rw[Int.zero_add] at d2;obtain⟨G,hG⟩:∃G,G=F+p.t.size:=⟨_,rfl⟩;rw[<-hG] at r1 r2;have hul:u.data.toList.length=u.size:=by simp
 have hdec:=fun W h=>decOk19 u p.a p.r W h (by omega) (by omega) (by omega) (by omega) (by omega) g1
 obtain⟨A,hAa⟩:∃A:Nat,p.a=(A:Int):=⟨p.a.toNat,by omega⟩;obtain⟨R,hRr⟩:∃R:Nat,p.r=(R:Int):=⟨p.r.toNat,by omega⟩;obtain⟨Y,hYy⟩:∃Y,Y=p.y:=⟨_,rfl⟩;obtain⟨Zq,hZq⟩:∃Zq,Zq=p.z:=⟨_,rfl⟩;obtain⟨t,ht⟩:∃t,t=p.t:=⟨_,rfl⟩;rw[hAa,hRr,<-hYy,<-hZq,<-ht] at hdec;dsimp only at d0 d1 d2 d3 d4;rw[hAa] at d0;rw[hRr] at d1;rw[<-ht] at d3 r1 hG;rw[<-hYy] at d4;have n1:IntKind.i64.wrap ((F:Int)+(t.size:Int))=(G:Int):=by rw[show(F:Int)+(t.size:Int)=(G:Int) by omega];exact lE G (by omega)
 have n2:(F:Int)+(t.size:Int)=(G:Int):=by omega
 have n11:IntKind.i64.wrap (G:Int)=(G:Int):=lE G (by omega);have n12:decide (T.size<G)=false:=aE (by omega);have n13:F<=G:=by omega
 have n14:G<=T.size:=by omega
 have n3:decide ((F:Int)<0)=false:=aE (by omega);have n4:decide ((G:Int)>(T.size:Int))=false:=aE (by omega);have n5:decide ((T.size:Int)<(G:Int))=false:=aE (by omega);have n6:(F:Int)<=(G:Int):=by omega
 have n7:(G:Int)<=(T.size:Int):=by omega
 have n8:(t.toList==t.toList)=true:=by simp
 have n9:(Y != Y)=false:=bne_self_eq_false _;have n10:(0:Int)<=(F:Int):=by omega
 have q0:=(hbz.cell (p:=⟨b,off+i*5,none⟩) hb).trans d0;have q1:=(hbz.cell (p:=⟨b,off+i*5+1,none⟩) hb).trans d1;have hEz:=hE8.below hbz;have hbB:b<wr.heap.size:=Nat.lt_of_lt_of_le hb hbz.size;have HC:=hid (show w8.cell? ⟨b,off+i*5+2,none⟩=some (.int .i64 (F:Int))/\w8.cell? ⟨b,off+i*5+3,none⟩=some (.int .i64 (t.size:Int))/\w8.cell? ⟨b,off+i*5+4,none⟩=some (.int .u32 Y) from⟨d2,d3,d4⟩);clear hA hc hget hgood hpart hp d0 d1 d2 d3 d4 g1 g2 g3 g4 f1 f2 f3 f4 f5 f6 r2 hF hG hul hAa hRr hYy hZq ht hpl HLL;go_wp2_with fail
 go_cut [22,23] (fun c22 c23 wx=>∃z,c22=.pointer (some ⟨z,0,none⟩)/\c23=.int .i64 0/\Arr wx z 46 [.string t,.int .u32 Y,.int .i64 (A:Int),.int .i64 Zq]/\Below wr.heap.size wr wx)
 case first=>
  have hS0:=two2B (w1:=wr) (w2:=wr.drew) (B:=wr.heap.size) (w0:=wr) ⟨q0,q1,Below.refl _ _,Nat.le_refl _⟩ (Below.refl wr.heap.size wr).drew hbB hbB;clear HI HK HC hM8 hE8 h08 n1 n2 n3 n4 n5 n6 n7 n8 n9 n10 r1 q0 q1;refine wp_region_held_drew (S:=fun wx=>wx.cell? ⟨b,off+i*5,none⟩=some (.int .i64 (A:Int))/\wx.cell? ⟨b,off+i*5+1,none⟩=some (.int .i64 (R:Int))/\Below wr.heap.size wr wx/\wr.heap.size<=wx.heap.size) (by kernel_rfl) hS0 (fun hHeld=>?_)
  iterate 11
   refine fV 0 0 (by simp only[List.size_toArray,List.length_cons,List.length_nil,Nat.reduceAdd,Nat.reduceSub]<;>rfl) (by simp only[List.getElem?_toArray,List.getElem?_cons_succ,List.getElem?_cons_zero];rfl) (by kernel_rfl) (by exact fun _ _ _ h=>h) (by first|exact Or.inr ⟨by rfl,rfl⟩|(refine Or.inl ⟨by rfl,?_⟩;intro w' hSw;(try dsimp only at hSw);(try go_simp);try with_reducible rfl)) (by assumption) ?_
   try simp only[Act.put,List.setIfInBounds_toArray,List.set_cons_zero,List.set_cons_succ]
  refine wpAnyH_ready (rs:=[11,15]) (by kernel_rfl) (by simp) ?_;refine AllReadyH.cons rfl (fun K hK=>?_) (AllReadyH.cons rfl (fun K hK=>?_) AllReadyH.nil)
  ·go_simp;refine(hdec _ (hEz.below hHeld.2.2.1)).mono ?_;rintro e wa ⟨rfl,ha⟩
   (try go_wp2_with fail)
   have hA1:=two2B hHeld (ha.mono hHeld.2.2.2) hbB hbB;refine hK.out _ _ hA1 (fun _=>?_)
   try simp only[Act.put,List.setIfInBounds_toArray,List.set_cons_zero,List.set_cons_succ]
   clear hK K
   iterate 3
    refine fV 0 0 (by simp only[List.size_toArray,List.length_cons,List.length_nil,Nat.reduceAdd,Nat.reduceSub]<;>rfl) (by simp only[List.getElem?_toArray,List.getElem?_cons_succ,List.getElem?_cons_zero];rfl) (by kernel_rfl) (by exact fun _ _ _ h=>h) (by first|exact Or.inr ⟨by rfl,rfl⟩|(refine Or.inl ⟨by rfl,?_⟩;intro w' hSw;(try dsimp only at hSw);(try go_simp);try with_reducible rfl)) (by assumption) ?_
    try simp only[Act.put,List.setIfInBounds_toArray,List.set_cons_zero,List.set_cons_succ]
   refine dJ (i:=15) (by kernel_rfl) rfl (fun K hK=>?_);go_simp;have hA2:=two2B hA1 ((Below.refl _ wa).alloc hA1.2.2.2 (.cells #[.string ⟨#[]⟩,.int .u32 0,.int .i64 0,.int .i64 0] 46)) hbB hbB;have hN:=Arr.new wa 46 [.string ⟨#[]⟩,.int .u32 0,.int .i64 0,.int .i64 0];refine hK.out _ _ hA2 (fun _=>?_)
   try simp only[Act.put,List.setIfInBounds_toArray,List.set_cons_zero,List.set_cons_succ]
   clear hK K;change Arr (wa.alloc (.cells #[.string ⟨#[]⟩,.int .u32 0,.int .i64 0,.int .i64 0] 46)) _ _ _ at hN;have hzB:wr.heap.size<=wa.heap.size:=hA1.2.2.2;generalize wa.alloc (.cells #[.string ⟨#[]⟩,.int .u32 0,.int .i64 0,.int .i64 0] 46)=wb at*
   have z0:=hN.cell (i:=0) rfl;have z1:=hN.cell (i:=1) rfl;have z2:=hN.cell (i:=2) rfl;have z3:=hN.cell (i:=3) rfl;have y0:=hN.free 0;have y1:=hN.free 1;have y2:=hN.free 2;have y3:=hN.free 3;refine dJ (i:=16) (by kernel_rfl) rfl (fun K hK=>?_);go_simp;obtain⟨k1,k2⟩:=set4B hN hzB hA2.2.2.1 (.string t) (.int .u32 Y) (.int .i64 (A:Int)) (.int .i64 Zq);have hA3:=two2B hA2 (set4B hN hzB (Below.refl _ _) (.string t) (.int .u32 Y) (.int .i64 (A:Int)) (.int .i64 Zq)).2 hbB hbB;refine hK.out _ _ hA3 (fun _=>?_)
   try simp only[Act.put,List.setIfInBounds_toArray,List.set_cons_zero,List.set_cons_succ]
   clear hK K;refine dJ (i:=17) (by kernel_rfl) rfl (fun K hK=>?_);go_simp;refine hK.out _ _ hA3 (fun _=>?_)
   try simp only[Act.put,List.setIfInBounds_toArray,List.set_cons_zero,List.set_cons_succ]
   clear hK K;refine wpAnyH_done (by kernel_rfl) ?_ _;go_wp2_with fail;go_meet;exact⟨_,rfl,rfl,k1,k2⟩
  ·go_simp;have hA1:=two2B hHeld (show Below wr.heap.size wr.drew (wr.alloc (.cells #[.string ⟨#[]⟩,.int .u32 0,.int .i64 0,.int .i64 0] 46)).drew from(Below.refl _ wr.drew).alloc hHeld.2.2.2 (.cells #[.string ⟨#[]⟩,.int .u32 0,.int .i64 0,.int .i64 0] 46)) hbB hbB;have hN:=Arr.new wr 46 [.string ⟨#[]⟩,.int .u32 0,.int .i64 0,.int .i64 0];refine hK.out _ _ hA1 (fun _=>?_)
   try simp only[Act.put,List.setIfInBounds_toArray,List.set_cons_zero,List.set_cons_succ]
   clear hK K;change Arr (wr.alloc (.cells #[.string ⟨#[]⟩,.int .u32 0,.int .i64 0,.int .i64 0] 46)).drew wr.heap.size _ _ at hN;generalize (wr.alloc (.cells #[.string ⟨#[]⟩,.int .u32 0,.int .i64 0,.int .i64 0] 46)).drew=wb at*
   refine dJ (i:=11) (by kernel_rfl) rfl (fun K hK=>?_);go_simp;refine(hdec _ (hEz.below hA1.2.2.1)).mono ?_;rintro e wa ⟨rfl,ha⟩
   (try go_wp2_with fail)
   have hA2:=two2B hA1 (ha.mono hA1.2.2.2) hbB hbB;have hN:=hN.below ha hN.lt;refine hK.out _ _ hA2 (fun _=>?_)
   try simp only[Act.put,List.setIfInBounds_toArray,List.set_cons_zero,List.set_cons_succ]
   clear hK K
   iterate 3
    refine fV 0 1 (by simp only[List.size_toArray,List.length_cons,List.length_nil,Nat.reduceAdd,Nat.reduceSub]<;>rfl) (by simp only[List.getElem?_toArray,List.getElem?_cons_succ,List.getElem?_cons_zero];rfl) (by kernel_rfl) (by exact fun _ _ _ h=>h) (by first|exact Or.inr ⟨by rfl,rfl⟩|(refine Or.inl ⟨by rfl,?_⟩;intro w' hSw;(try dsimp only at hSw);(try go_simp);try with_reducible rfl)) (by assumption) ?_
    try simp only[Act.put,List.setIfInBounds_toArray,List.set_cons_zero,List.set_cons_succ]
   have z0:=hN.cell (i:=0) rfl;have z1:=hN.cell (i:=1) rfl;have z2:=hN.cell (i:=2) rfl;have z3:=hN.cell (i:=3) rfl;have y0:=hN.free 0;have y1:=hN.free 1;have y2:=hN.free 2;have y3:=hN.free 3;refine dJ (i:=16) (by kernel_rfl) rfl (fun K hK=>?_);go_simp;obtain⟨k1,k2⟩:=set4B hN (Nat.le_refl _) hA2.2.2.1 (.string t) (.int .u32 Y) (.int .i64 (A:Int)) (.int .i64 Zq);have hA3:=two2B hA2 (set4B hN (Nat.le_refl _) (Below.refl _ _) (.string t) (.int .u32 Y) (.int .i64 (A:Int)) (.int .i64 Zq)).2 hbB hbB;refine hK.out _ _ hA3 (fun _=>?_)
   try simp only[Act.put,List.setIfInBounds_toArray,List.set_cons_zero,List.set_cons_succ]
   clear hK K;refine dJ (i:=17) (by kernel_rfl) rfl (fun K hK=>?_);go_simp;refine hK.out _ _ hA3 (fun _=>?_)
   try simp only[Act.put,List.setIfInBounds_toArray,List.set_cons_zero,List.set_cons_succ]
   clear hK K;refine wpAnyH_done (by kernel_rfl) ?_ _;go_wp2_with fail;go_meet;exact⟨_,rfl,rfl,k1,k2⟩
 case rest=>
 obtain⟨z,rfl,rfl,hBz,hbx⟩:=hcut;have e2:=(hbx.cell (p:=⟨b,off+i*5+2,none⟩) hbB).trans ((hbz.cell (p:=⟨b,off+i*5+2,none⟩) hb).trans HC.out.1);have e3:=(hbx.cell (p:=⟨b,off+i*5+3,none⟩) hbB).trans ((hbz.cell (p:=⟨b,off+i*5+3,none⟩) hb).trans HC.out.2.1);have e4:=(hbx.cell (p:=⟨b,off+i*5+4,none⟩) hbB).trans ((hbz.cell (p:=⟨b,off+i*5+4,none⟩) hb).trans HC.out.2.2);have x0:=hBz.cell (i:=0) rfl;have x1:=hBz.cell (i:=1) rfl;have h8c:=hbz.trans (hbx.mono hbz.size);have hrw:T.extract F G=t:=r1;clear HC q0 q1 hEz hdec hBz hbx hbz;go_wp2_with fail
 go_quiet (fail)
 go_wp2_with fail;have hg:=HI.out
 go_roundg (L.length-(i+1))
 case measure=>omega
 case rel=>exact⟨i+1,by omega,rfl,by go_num,below_drewN h8c _⟩
end Go.Proofs.YtihbnmlinkbnkaaGreatDoor
