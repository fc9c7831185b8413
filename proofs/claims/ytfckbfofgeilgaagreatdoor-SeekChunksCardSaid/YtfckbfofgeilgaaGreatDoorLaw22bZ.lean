/-
  The walk of the statement SeekChunks.
-/
import Derived.Test.YtfckbfofgeilgaaGreatDoorZ40
import Derived.Test.YtfckbfofgeilgaaGreatDoorZ44
set_option linter.unusedVariables false
set_option linter.unusedSimpArgs false
set_option maxRecDepth 100000
set_option maxHeartbeats 12800000
namespace Go.Proofs.YtfckbfofgeilgaaGreatDoor
open Go.RowKit Go Go.Shelf
theorem chunk_next (T X:ByteArray) (m:Nat) (hX:X=T.extract 0 X.size) (hl:X.size<=T.size):X++bLq T X.size m=T.extract 0 (min (X.size+m) T.size)/\(X++bLq T X.size m).size=min (X.size+m) T.size:=by
 have e:X++bLq T X.size m=T.extract 0 (min (X.size+m) T.size):=by
  unfold bLq;rw[show X++T.extract X.size (min (X.size+m) T.size)=T.extract 0 X.size++T.extract X.size (min (X.size+m) T.size) by rw[<-hX],bO7 _ (Nat.zero_le _) (by omega)]
 exact⟨e,by rw[e,bO5 _ _ _ (by omega)];omega⟩
theorem ch_put {W W1 w0:World} {dz A B:Nat} {l:List Value} {l1 l2 l3:lC} {x0 x1 x2 x3 x4 x5 x6 y0 y1 u0 u1 v0 v1 v2 v3 v4 v5 v6:Value} (hD:Arr W dz 40 l) (hA:Arr W A 47 [y0,y1]) (hB:Arr W B 40 [x0,x1,x2,x3,x4,x5,x6]) (lA:dz<A) (lB:dz<B) (hab:A≠B) (hb:Below w0.heap.size w0 W) (hdz:w0.heap.size<=dz) (p1:RdR W v1 l1) (p2:RdR W v4 l2) (p3:RdR W v5 l3)
  (a1:v1.ownBlock≠some A\/l1.flatten=[]) (a2:v4.ownBlock≠some A\/l2.flatten=[]) (a3:v5.ownBlock≠some A\/l3.flatten=[]) (b1:v1.ownBlock≠some B\/l1.flatten=[]) (b2:v4.ownBlock≠some B\/l2.flatten=[]) (b3:v5.ownBlock≠some B\/l3.flatten=[])
  (hW:W1=bLn ((W.setCell ⟨A,0,none⟩ u0).setCell ⟨A,1,none⟩ u1) B v0 v1 v2 v3 v4 v5 v6):Arr W1 dz 40 l/\Arr W1 A 47 [u0,u1]/\Arr W1 B 40 [v0,v1,v2,v3,v4,v5,v6]/\RdR W1 v1 l1/\RdR W1 v4 l2/\RdR W1 v5 l3/\Below w0.heap.size w0 W1:=by
 have k:bK6 W W1 A B:=by
  rw[hW];exact(((((((((bK6.of A B (Below.refl W.heap.size W)).put ⟨A,0,none⟩ (.inl rfl) u0).put ⟨A,1,none⟩ (.inl rfl) u1).put ⟨B,0,none⟩ (.inr (.inl rfl)) v0).put ⟨B,1,none⟩ (.inr (.inl rfl)) v1).put ⟨B,2,none⟩ (.inr (.inl rfl)) v2).put ⟨B,3,none⟩ (.inr (.inl rfl)) v3).put ⟨B,4,none⟩ (.inr (.inl rfl)) v4).put ⟨B,5,none⟩ (.inr (.inl rfl)) v5).put ⟨B,6,none⟩ (.inr (.inl rfl)) v6
 have h1:=bM7 (y:=B) v0 v1 v2 v3 v4 v5 v6 ((hA.set 0 u0).set 1 u1) (Ne.symm hab);have h2:=bLz v0 v1 v2 v3 v4 v5 v6 ((hB.other ⟨A,0,none⟩ hab u0).other ⟨A,1,none⟩ hab u1);have h3:=bL2 (y:=B) v0 v1 v2 v3 v4 v5 v6 ((hb.setCell (p:=⟨A,0,none⟩) (show w0.heap.size<=A by omega) u0).setCell (p:=⟨A,1,none⟩) (show w0.heap.size<=A by omega) u1) (by omega);rw[<-hW] at h1 h2 h3;clear hW;exact⟨k.arr hD (by omega) (by omega),h1,h2,bS8 p1 k a1 b1,bS8 p2 k a2 b2,bS8 p3 k a3 b3,h3⟩
theorem seekChunks_any (s:ByteArray) (v:Value) (raw:List (Int×Int)) (n0 n1 n2 n3:Int) (v2:Value) (lens:List Int) (w:World) (hE:dU w) (_hs:s.size<=maxLen) (hr:RdP w v raw) (hwf:WfP raw) (ha1: -9223372036854775808<=n0) (ha2:n0<=9223372036854775807) (hb1: -9223372036854775808<=n1) (hb2:n1<=9223372036854775807) (hc1: -9223372036854775808<=n2) (hc2:n2<=9223372036854775807) (hd1: -9223372036854775808<=n3) (hd2:n3<=9223372036854775807) (hr2:RdI w v2 lens) (hwf2:WfI lens):
  Calls Tryz.prog 4 #[.string s,v,.agg #[.int .i64 n0,.int .i64 n1,.int .i64 n2,.int .i64 n3],v2] w fun e w'=>e=.returned (.bool true)/\Below w.heap.size w w':=by
 have hN:=Arr.new w 23 [.int .i64 n0,.int .i64 n1,.int .i64 n2,.int .i64 n3];have hb0:=bD (Below.refl w.heap.size w) (.cells #[.int .i64 n0,.int .i64 n1,.int .i64 n2,.int .i64 n3] 23);change Arr (w.alloc (.cells #[.int .i64 n0,.int .i64 n1,.int .i64 n2,.int .i64 n3] 23)) _ _ _ at hN;obtain⟨rd,hrd,hrd2⟩:=bS7 n3 (n:=8) (by decide);obtain⟨rm,hrm,hrm2⟩:=bS7 n2 (n:=4) (by decide);have hp8:=fun W=>bS6 n3 8 W hd1 hd2 (by decide) (by decide)
 have hp4:=fun W=>bS6 n2 4 W hc1 hc2 (by decide) (by decide)
 rw[hrd] at hp8;rw[hrm] at hp4;clear hrd hrm;have hr0:=hr.below hb0;have hq0:=hr2.below hb0;have hE0:=hE.below hb0;obtain⟨va,vc,rfl,-,-,hvA⟩:=hr2.open;have hq':=hr2;clear hr hr2;go_enter Tryz.func4,Tryz.ntmps4;go_wp2_with fail;generalize w.alloc (.cells #[.int .i64 n0,.int .i64 n1,.int .i64 n2,.int .i64 n3] 23)=w0 at*
 have hbz:w.heap.size<=w.heap.size:=Nat.le_refl _;obtain⟨tn,htn⟩:=ex1 (w.heap.size);rw[<-htn] at hN ⊢;have HTN:=hid htn;clear htn hbz;refine(bS1 _ hE0).mono ?_;rintro e w1 ⟨rfl,h1⟩;have hN1:=hN.below h1 hN.lt;have hr1:=hr0.below h1;have hq1:=hq0.below h1;have hE1:=hE0.below h1;have hb1':=aW hb0 h1;clear hN hr0 hq0 hE0 hb0 h1;have c0:=hN1.cell (i:=0) rfl;have c1:=hN1.cell (i:=1) rfl;go_wp2_with fail;refine(bHj s v raw n0 n1 _ hr1 hwf ha1 ha2 hb1 hb2).mono ?_;rintro e w2 ⟨a,rfl,ha,h2⟩;obtain⟨f1,f2,-⟩:=ha.facts;obtain⟨f3,f4,f5⟩:=ha.desk
 have hgood:=fun p (h:p∈eY a.data.toList)=>aJh p h
 have hN2:=hN1.below h2 hN1.lt;have hq2:=hq1.below h2;have hE2:=hE1.below h2;have hb2':=aW hb1' h2;clear hN1 hr1 hq1 hE1 hb1' h2 hwf c0 c1 ha;have hrd':=fun W h=>aJk a W h (by omega)
 have hop:=fun W h=>bOk a (1+(rm:Int)) (1+(rd:Int)) W h (by omega) (by omega) (by omega)
 rw[f2] at hrd' hop;generalize eY a.data.toList=P at*
 obtain⟨T,hT⟩:=ex1 (iH (P.map Prt.t));rw[<-hT] at hrd' f5;have HT:=hid hT;clear hT;go_wp2_with fail;refine(hrd' _ hE2).mono ?_;rintro e w3 ⟨rfl,h3⟩;have hN3:=hN2.below h3 hN2.lt;have hq3:=hq2.below h3;have hE3:=hE2.below h3;have hb3':=aW hb2' h3;clear hN2 hq2 hE2 hb2' h3;have c3:=hN3.cell (i:=3) rfl;have c2:=hN3.cell (i:=2) rfl;have m1:IntKind.i64.wrap (1+(rd:Int))=1+(rd:Int):=by rw[IntKind.wrap_i64];omega
 have m2:IntKind.i64.wrap (1+(rm:Int))=1+(rm:Int):=by rw[IntKind.wrap_i64];omega
 go_wp2_with fail;refine(hp8 _).mono ?_;rintro e w3 ⟨rfl,rfl⟩;go_wp2_with fail;refine(hp4 _).mono ?_;rintro e w3 ⟨rfl,rfl⟩;go_wp2_with fail;refine(hop _ hE3).mono ?_;rintro e w4 hq;obtain⟨v4,rfl,dd,h4⟩:=hq.ok;have hq4:=hq3.below h4;have hE4:=hE3.below h4;have hb4':=aW hb3' h4;have g0:bK7 P (1+(rm:Int)) (bLk (1+(rd:Int)).toNat):=bPx f4 (by omega) (by rw[<-HT.out];omega) (by omega) (by omega);have hRs:(bLk (1+(rd:Int)).toNat).Rs=List.replicate (rd+1) bK8:=by show List.replicate (1+(rd:Int)).toNat bK8=_;rw[show(1+(rd:Int)).toNat=rd+1 by omega]
 have hck:(bLk (1+(rd:Int)).toNat).clock=0/\(bLk (1+(rd:Int)).toNat).dec=0:=⟨rfl,rfl⟩;generalize bLk (1+(rd:Int)).toNat=S at*
 obtain⟨ai,ni,ci,ah,nh,ch,ar,cr,rfl,q1,q2,q3⟩:=dd.open;obtain⟨nr,hnr⟩:=ex1 (S.Rs.length);rw[<-hnr] at q3 ⊢;have HRS:=hid hRs;have HNR:=hid hnr;have HCK:=hid hck;clear hRs hnr hck hq dd h4 hq3 hE3 hb3' hN3 c2 c3 hop;have hbx:=bD (Below.refl w4.heap.size w4) (.cells #[.string a,.slice ai ni ci,.int .i64 (1+(rm:Int)),.int .i64 S.clock,.slice ah nh ch,.slice ar nr cr,.int .i64 S.dec] 40);have hD:=Arr.new w4 40 [.string a,.slice ai ni ci,.int .i64 (1+(rm:Int)),.int .i64 S.clock,.slice ah nh ch,.slice ar nr cr,.int .i64 S.dec]
 change Arr (w4.alloc (.cells #[.string a,.slice ai ni ci,.int .i64 (1+(rm:Int)),.int .i64 S.clock,.slice ah nh ch,.slice ar nr cr,.int .i64 S.dec] 40)) _ _ _ at hD;have q1:=q1.below hbx;have q2:=q2.below hbx;have q3:=q3.below hbx;have hq5:=hq4.below hbx;have hE5:=hE4.below hbx;have hb5:=aW hb4' hbx;have hdz:w.heap.size<=w4.heap.size:=hb4'.size;clear hq4 hE4 hb4' hbx;go_upto_region 6 with fail;generalize w4.alloc (.cells #[.string a,.slice ai ni ci,.int .i64 (1+(rm:Int)),.int .i64 S.clock,.slice ah nh ch,.slice ar nr cr,.int .i64 S.dec] 40)=w5 at*
 generalize w4.heap.size=dz at*
 go_wp2_with fail;have hnr1:nr=rd+1:=by rw[HNR.out,HRS.out,List.length_replicate]
 have HN1:=hid hnr1;clear hnr1
 go_loopg [8,16,17,18,19,20,21] 60 (fun g s8 s16 s17 _s18 _s19 _s20 _s21 wr=>∃(j:Nat) (X:ByteArray) (S1:Dk) (bi bh br:Option Addr) (mi di mh dh dr:Nat),g=60-j/\j<=60/\s8=.bool false/\s16=.string X/\s17=.int .i64 (j:Int)/\Hid (X=T.extract 0 X.size)/\X.size<=T.size/\bK7 P (1+(rm:Int)) S1/\(S1.clock<=6000*j/\S1.dec<=6000*j)/\Hid (S1.Rs=List.replicate (rd+1) bK8)/\Arr wr dz 40 [.string a,.slice bi mi di,.int .i64 (1+(rm:Int)),.int .i64 S1.clock,.slice bh mh dh,.slice br nr dr,.int .i64 S1.dec]/\(RdR wr (.slice bi mi di) ((gU 0 P).map bG)/\RdR wr (.slice bh mh dh) ((byB S1.Hs).map mX)/\RdR wr (.slice br nr dr) (S1.Rs.map bK3))/\Below w.heap.size w wr)
 case atStart=>exact⟨0,⟨#[]⟩,S,ai,ah,ar,ni,ci,nh,ch,cr,rfl,Nat.zero_le _,rfl,rfl,rfl,hid (bNl T (Nat.le_refl 0)).symm,Nat.zero_le _,g0,by have:=HCK.out;omega,HRS,hD,⟨q1,q2,q3⟩,hb5⟩
 case round=>
  obtain⟨j,X,S1,bi,bh,br,mi,di,mh,dh,dr,hg,hj,rfl,rfl,rfl,HX,hXs,hgS,hck,HR1,hDr,⟨r1,r2,r3⟩,hbr⟩:=hrel;have HG:=hid hg;clear hg q1 q2 q3 hq5 hE5 hD hb5 g0
  by_cases hin:j<60/\X.size<T.size
  ·obtain⟨hj60,hXl⟩:=hin;have t1:decide ((j:Int)<60)=true:=aG (by omega);have t2:decide ((X.size:Int)<(T.size:Int))=true:=aG (by omega);have t2n:decide (X.size<T.size)=true:=aG hXl
   go_upto_if 72 with fail
   go_cut [18] (fun c18 wx=>∃m:Nat,m<=119/\c18=.int .i64 (m:Int)/\wx=wr)
   case first=>
    by_cases hk:j<lens.length
    ·have t3:decide ((j:Int)<(lens.length:Int))=true:=aG (by omega);obtain⟨x,hx⟩:∃x,lens[j]? =some x:=⟨_,List.getElem?_eq_getElem hk⟩;obtain⟨lb,lo,rfl,hlb,hlc⟩:=hvA (by omega);have hlc:=(hbr.cell (p:=⟨lb,lo+j,none⟩) hlb).trans (hlc j x hx);obtain⟨hx1,hx2⟩:=hwf2.get hx;obtain⟨m,hmp,hm⟩:=bS7 x (n:=120) (by decide);have hm:m<=119:=by omega
     have hpk:=fun W=>bS6 x 120 W hx1 hx2 (by decide) (by decide)
     rw[hmp] at hpk;clear hvA hx hmp;go_wp2_with fail;refine(hpk _).mono ?_;rintro e wr ⟨rfl,rfl⟩;go_wp2_with fail;go_meet;exact⟨m,hm,rfl,rfl⟩
    ·have t3:decide ((j:Int)<(lens.length:Int))=false:=aE (by omega);have t3n:decide (j<lens.length)=false:=aE hk;go_wp2_with fail;go_meet;exact⟨50,by decide,rfl,rfl⟩
   case rest=>
    obtain⟨m,hm,rfl,hwc⟩:=hcut;have hwc:=hwc.symm;subst hwc;go_upto_region 15 with fail;obtain⟨q,hq⟩:=ex1 (j%(rd+1));have hqm:(j:Int).tmod (1+(rd:Int))=(q:Int):=by rw[Int.tmod_eq_emod_of_nonneg (by omega),show(1+(rd:Int))=((rd+1:Nat):Int) by omega,<-Int.natCast_emod,hq]
    have hqe:(j:Int)%(1+(rd:Int))=(q:Int):=by rw[show(1+(rd:Int))=((rd+1:Nat):Int) by omega,<-Int.natCast_emod,hq]
    have hqw:=tE q (by have:=Nat.mod_lt j (show rd+1>0 by omega);omega);have hnz:¬(1+(rd:Int))=0:=by omega
    have hy1:S1.Rs[q]? =some bK8:=by rw[HR1.out,List.getElem?_replicate,aB (by rw[hq];exact Nat.mod_lt j (show rd+1>0 by omega))]
    have hra:=fun W h1 h2=>bM0 (w:=W) (v:=bLa a (.slice bi mi di) (1+(rm:Int)) S1.clock (.slice bh mh dh) (.slice br nr dr) S1.dec) h1 hgS (by omega) (by omega) (by omega) h2 (by omega) hgood hy1 X.size m (by omega) (by omega)
    obtain⟨gS2,k1,k2,k3⟩:=bNc hgS hy1 X.size m (by omega) (by omega) (by omega);rw[<-HT.out] at hra;obtain⟨hX3,hX4⟩:=chunk_next T X m HX.out hXs;have hRS2:=hid (k3.trans HR1.out);have hnr2:(bLe P (1+(rm:Int)) S1 X.size m).Rs.length=nr:=by rw[k3,HR1.out,List.length_replicate,HN1.out]
    generalize bLe P (1+(rm:Int)) S1 X.size m=S2 at*
    obtain⟨X2,hX2⟩:=ex1 (bLq T X.size m);obtain⟨c2,hc2⟩:=ex1 (bLj T.size X.size m);rw[<-hX2,<-hc2] at hra;rw[<-hX2] at hX3 hX4;have HX3:=hid hX3;have HX4:=hid hX4;have HC2:=hid hc2;clear hq k3 hX2 hc2 hX3 hX4
    go_cut [19,20,21] (fun c19 c20 c21 wx=>∃(b19 b20:Nat) (ai2 ah2 ar2:Option Addr) (ni2 ci2 nh2 ch2 cr2:Nat),c19=.pointer (some ⟨b19,0,none⟩)/\c20=.pointer (some ⟨b20,0,none⟩)/\c21=.int .i64 0/\Arr wx dz 40 [.string a,.slice bi mi di,.int .i64 (1+(rm:Int)),.int .i64 S1.clock,.slice bh mh dh,.slice br nr dr,.int .i64 S1.dec]/\Arr wx b19 47 [.string X2,.int .i64 c2]/\Arr wx b20 40 [.string a,.slice ai2 ni2 ci2,.int .i64 (1+(rm:Int)),.int .i64 S2.clock,.slice ah2 nh2 ch2,.slice ar2 nr cr2,.int .i64 S2.dec]/\(RdR wx (.slice ai2 ni2 ci2) ((gU 0 P).map bG)/\RdR wx (.slice ah2 nh2 ch2) ((byB S2.Hs).map mX)/\RdR wx (.slice ar2 nr cr2) (S2.Rs.map bK3))/\((∀b,(Value.slice ai2 ni2 ci2).ownBlock=some b->dz<b)/\(∀b,(Value.slice ah2 nh2 ch2).ownBlock=some b->dz<b)/\∀b,(Value.slice ar2 nr cr2).ownBlock=some b->dz<b)/\Below w.heap.size w wx/\dz<b19/\dz<b20)
    case first=>
     have hSb:∀W:World,Arr W dz 40 [.string a,.slice bi mi di,.int .i64 (1+(rm:Int)),.int .i64 S1.clock,.slice bh mh dh,.slice br nr dr,.int .i64 S1.dec]->(fun wx:World=>wx.cell? ⟨dz,0,none⟩=some (.string a)/\wx.cell? ⟨dz,1,none⟩=some (.slice bi mi di)/\wx.cell? ⟨dz,2,none⟩=some (.int .i64 (1+(rm:Int)))/\wx.cell? ⟨dz,3,none⟩=some (.int .i64 S1.clock)/\wx.cell? ⟨dz,4,none⟩=some (.slice bh mh dh)/\wx.cell? ⟨dz,5,none⟩=some (.slice br nr dr)/\wx.cell? ⟨dz,6,none⟩=some (.int .i64 S1.dec)) W:=fun W h=>⟨h.cell (i:=0) rfl,h.cell (i:=1) rfl,h.cell (i:=2) rfl,h.cell (i:=3) rfl,h.cell (i:=4) rfl,h.cell (i:=5) rfl,h.cell (i:=6) rfl⟩
     have hd:=(Below.refl wr.heap.size wr).drew;have hD:=hDr.below hd hDr.lt;have r1:=r1.below hd;have r2:=r2.below hd;have r3:=r3.below hd;have hb:=aW hbr hd;refine wp_region_held_drew (S:=(fun wx:World=>wx.cell? ⟨dz,0,none⟩=some (.string a)/\wx.cell? ⟨dz,1,none⟩=some (.slice bi mi di)/\wx.cell? ⟨dz,2,none⟩=some (.int .i64 (1+(rm:Int)))/\wx.cell? ⟨dz,3,none⟩=some (.int .i64 S1.clock)/\wx.cell? ⟨dz,4,none⟩=some (.slice bh mh dh)/\wx.cell? ⟨dz,5,none⟩=some (.slice br nr dr)/\wx.cell? ⟨dz,6,none⟩=some (.int .i64 S1.dec))) (by kernel_rfl) (hSb _ hD) (fun hHeld=>?_);clear hd hDr hbr
     generalize wr.drew=wx0 at*
     refine bKf [0,1,2,3,4,5,6] ?_
     iterate 7
      refine bKg (by simp only[List.getElem?_toArray,List.getElem?_cons_succ,List.getElem?_cons_zero];rfl) (by kernel_rfl) (by exact fun _ _ _ h=>h) (by first|exact Or.inr ⟨by rfl,rfl⟩|(refine Or.inl ⟨by rfl,?_⟩;intro w' hSw;(try dsimp only at hSw);(try go_simp);try with_reducible rfl)) hHeld ?_
      try simp only[Act.put,List.setIfInBounds_toArray,List.set_cons_zero,List.set_cons_succ]
     refine bPj 7 12 13 (by kernel_rfl) rfl rfl rfl (fun K hK=>?_) (fun K hK=>?_) (fun K hK=>?_)
     ·go_simp;refine(hra wx0 ⟨_,_,_,rfl,r1,r2,r3⟩ (hE.below hb)).mono ?_;rintro e1 wx1 ⟨v2',rfl,dd,ff,hh⟩;obtain⟨ai2,ni2,ci2,ah2,nh2,ch2,ar2,cr2,rfl,p1,p2,p3⟩:=dd.open;rw[hnr2] at p3 ff ⊢;obtain⟨g1,g2,g3⟩:=ff _ _ _ _ _ _ _ rfl;have lD0:dz<wx0.heap.size:=hD.lt;have hD:=hD.below hh hD.lt;have ldz:∀b,wx0.heap.size<=b->dz<b:=fun b q=>by omega
      have hb:=aW hb hh;have d1:∀b,(Value.slice ai2 ni2 ci2).ownBlock=some b->dz<b:=fun b q=>ldz b (g1 b q)
      have d2:∀b,(Value.slice ah2 nh2 ch2).ownBlock=some b->dz<b:=fun b q=>ldz b (g2 b q)
      have d3:∀b,(Value.slice ar2 nr cr2).ownBlock=some b->dz<b:=fun b q=>ldz b (g3 b q)
      clear dd ff hh r1 r2 r3 g1 g2 g3 ldz
      (try go_wp2_with fail)
      refine hK.out _ _ (hSb _ hD) (fun _=>?_)
      try simp only[Act.put,List.setIfInBounds_toArray,List.set_cons_zero,List.set_cons_succ]
      clear hK K
      iterate 4
       refine fV 0 0 (by simp only[List.size_toArray,List.length_cons,List.length_nil,Nat.reduceAdd,Nat.reduceSub]<;>rfl) (by simp only[List.getElem?_toArray,List.getElem?_cons_succ,List.getElem?_cons_zero];rfl) (by kernel_rfl) (by exact fun _ _ _ h=>h) (by first|exact Or.inr ⟨by rfl,rfl⟩|(refine Or.inl ⟨by rfl,?_⟩;intro w' hSw;(try dsimp only at hSw);(try go_simp);try with_reducible rfl)) (hSb _ hD) ?_
       try simp only[Act.put,List.setIfInBounds_toArray,List.set_cons_zero,List.set_cons_succ]
      refine bL3 12 13 (by kernel_rfl) rfl rfl (fun K hK=>?_) (fun K hK=>?_)
      ·go_simp;have hbx:=bD (Below.refl wx1.heap.size wx1) (.cells #[.string ⟨#[]⟩,.int .i64 0] 47);have hA:=Arr.new wx1 47 [.string ⟨#[]⟩,.int .i64 0];change Arr (wx1.alloc (.cells #[.string ⟨#[]⟩,.int .i64 0] 47)) _ _ _ at hA;have lA:dz<wx1.heap.size:=hD.lt;have hD:=hD.below hbx hD.lt;have nA1:=(RdZ.of p1).out (b:=wx1.heap.size) (Nat.le_refl _);have nA2:=(RdZ.of p2).out (b:=wx1.heap.size) (Nat.le_refl _);have nA3:=(RdZ.of p3).out (b:=wx1.heap.size) (Nat.le_refl _);have p1:=p1.below hbx;have p2:=p2.below hbx;have p3:=p3.below hbx;have hb:=aW hb hbx;refine hK.out _ _ (hSb _ hD) (fun _=>?_)
       try simp only[Act.put,List.setIfInBounds_toArray,List.set_cons_zero,List.set_cons_succ]
       clear hK K;clear hbx;generalize wx1.alloc (.cells #[.string ⟨#[]⟩,.int .i64 0] 47)=wx2 at*
       generalize wx1.heap.size=b19 at*
       refine dJ (i:=13) (by kernel_rfl) rfl (fun K hK=>?_);go_simp;have hL0A:=hA.lt;have hbx:=bD (Below.refl wx2.heap.size wx2) (.cells #[.string ⟨#[]⟩,.slice none 0 0,.int .i64 0,.int .i64 0,.slice none 0 0,.slice none 0 0,.int .i64 0] 40);have hB:=Arr.new wx2 40 [.string ⟨#[]⟩,.slice none 0 0,.int .i64 0,.int .i64 0,.slice none 0 0,.slice none 0 0,.int .i64 0];change Arr (wx2.alloc (.cells #[.string ⟨#[]⟩,.slice none 0 0,.int .i64 0,.int .i64 0,.slice none 0 0,.slice none 0 0,.int .i64 0] 40)) _ _ _ at hB;have lB:dz<wx2.heap.size:=hD.lt;have hD:=hD.below hbx hD.lt
       have hA:=hA.below hbx hA.lt;have nB1:=(RdZ.of p1).out (b:=wx2.heap.size) (Nat.le_refl _);have nB2:=(RdZ.of p2).out (b:=wx2.heap.size) (Nat.le_refl _);have nB3:=(RdZ.of p3).out (b:=wx2.heap.size) (Nat.le_refl _);have p1:=p1.below hbx;have p2:=p2.below hbx;have p3:=p3.below hbx;have hq2:b19≠wx2.heap.size:=fun q=>by have:=hL0A;omega
       have hb:=aW hb hbx;refine hK.out _ _ (hSb _ hD) (fun _=>?_)
       try simp only[Act.put,List.setIfInBounds_toArray,List.set_cons_zero,List.set_cons_succ]
       clear hK K;clear hbx;generalize wx2.alloc (.cells #[.string ⟨#[]⟩,.slice none 0 0,.int .i64 0,.int .i64 0,.slice none 0 0,.slice none 0 0,.int .i64 0] 40)=wx3 at*
       generalize wx2.heap.size=b20 at*
       have hab:b19≠b20:=by first|exact hq2|exact Ne.symm hq2
       have e0:=hA.cell (i:=0) rfl;have e1':=hA.cell (i:=1) rfl;have f0:=hA.free 0;have f1':=hA.free 1;have la:=hA.lt;have lb:=hB.lt;have o0:=hB.cell (i:=0) rfl;have j0:=hB.free 0;have o1:=hB.cell (i:=1) rfl;have j1:=hB.free 1;have o2:=hB.cell (i:=2) rfl;have j2:=hB.free 2;have o3:=hB.cell (i:=3) rfl;have j3:=hB.free 3;have o4:=hB.cell (i:=4) rfl;have j4:=hB.free 4;have o5:=hB.cell (i:=5) rfl;have j5:=hB.free 5;have o6:=hB.cell (i:=6) rfl;have j6:=hB.free 6;refine dJ (i:=14) (by kernel_rfl) rfl (fun K hK=>?_);go_simp
       have hD1:=(hD.other ⟨b19,0,none⟩ (show b19≠dz by omega) (.string X2)).other ⟨b19,1,none⟩ (show b19≠dz by omega) (.int .i64 c2);refine hK.out _ _ (hSb _ hD1) (fun _=>?_)
       try simp only[Act.put,List.setIfInBounds_toArray,List.set_cons_zero,List.set_cons_succ]
       clear hK K;refine dJ (i:=15) (by kernel_rfl) rfl (fun K hK=>?_);go_simp;obtain⟨hD2,hA2,hB2,p1,p2,p3,hb2⟩:=ch_put hD hA hB lA lB hab hb hdz p1 p2 p3 nA1 nA2 nA3 nB1 nB2 nB3 (u0:=.string X2) (u1:=.int .i64 c2) (v0:=.string a) (v1:=.slice ai2 ni2 ci2) (v2:=.int .i64 (1+(rm:Int))) (v3:=.int .i64 S2.clock) (v4:=.slice ah2 nh2 ch2) (v5:=.slice ar2 nr cr2) (v6:=.int .i64 S2.dec) rfl;refine hK.out _ _ (hSb _ hD2) (fun _=>?_)
       try simp only[Act.put,List.setIfInBounds_toArray,List.set_cons_zero,List.set_cons_succ]
       clear hK K;refine fV 0 0 (by simp only[List.size_toArray,List.length_cons,List.length_nil,Nat.reduceAdd,Nat.reduceSub]<;>rfl) (by simp only[List.getElem?_toArray,List.getElem?_cons_succ,List.getElem?_cons_zero];rfl) (by kernel_rfl) (by exact fun _ _ _ h=>h) (by first|exact Or.inr ⟨by rfl,rfl⟩|(refine Or.inl ⟨by rfl,?_⟩;intro w' hSw;(try dsimp only at hSw);(try go_simp);try with_reducible rfl)) (hSb _ hD2) ?_
       try simp only[Act.put,List.setIfInBounds_toArray,List.set_cons_zero,List.set_cons_succ]
       refine wpAnyH_done (by kernel_rfl) ?_ _;clear hSb hHeld hD hA hB hD1 nA1 nA2 nA3 nB1 nB2 nB3 e0 e1' f0 f1' la lb o0 o1 o2 o3 o4 o5 o6 j0 j1 j2 j3 j4 j5 j6 hb;go_wp2_with fail;go_meet;exact⟨b19,b20,ai2,ah2,ar2,ni2,ci2,nh2,ch2,cr2,rfl,rfl,rfl,hD2,hA2,hB2,⟨p1,p2,p3⟩,⟨d1,d2,d3⟩,hb2,lA,lB⟩
      ·go_simp;have hbx:=bD (Below.refl wx1.heap.size wx1) (.cells #[.string ⟨#[]⟩,.slice none 0 0,.int .i64 0,.int .i64 0,.slice none 0 0,.slice none 0 0,.int .i64 0] 40);have hB:=Arr.new wx1 40 [.string ⟨#[]⟩,.slice none 0 0,.int .i64 0,.int .i64 0,.slice none 0 0,.slice none 0 0,.int .i64 0];change Arr (wx1.alloc (.cells #[.string ⟨#[]⟩,.slice none 0 0,.int .i64 0,.int .i64 0,.slice none 0 0,.slice none 0 0,.int .i64 0] 40)) _ _ _ at hB;have lB:dz<wx1.heap.size:=hD.lt;have hD:=hD.below hbx hD.lt;have nB1:=(RdZ.of p1).out (b:=wx1.heap.size) (Nat.le_refl _)
       have nB2:=(RdZ.of p2).out (b:=wx1.heap.size) (Nat.le_refl _);have nB3:=(RdZ.of p3).out (b:=wx1.heap.size) (Nat.le_refl _);have p1:=p1.below hbx;have p2:=p2.below hbx;have p3:=p3.below hbx;have hb:=aW hb hbx;refine hK.out _ _ (hSb _ hD) (fun _=>?_)
       try simp only[Act.put,List.setIfInBounds_toArray,List.set_cons_zero,List.set_cons_succ]
       clear hK K;clear hbx;generalize wx1.alloc (.cells #[.string ⟨#[]⟩,.slice none 0 0,.int .i64 0,.int .i64 0,.slice none 0 0,.slice none 0 0,.int .i64 0] 40)=wx2 at*
       generalize wx1.heap.size=b20 at*
       refine dJ (i:=12) (by kernel_rfl) rfl (fun K hK=>?_);go_simp;have hL0B:=hB.lt;have hbx:=bD (Below.refl wx2.heap.size wx2) (.cells #[.string ⟨#[]⟩,.int .i64 0] 47);have hA:=Arr.new wx2 47 [.string ⟨#[]⟩,.int .i64 0];change Arr (wx2.alloc (.cells #[.string ⟨#[]⟩,.int .i64 0] 47)) _ _ _ at hA;have lA:dz<wx2.heap.size:=hD.lt;have hD:=hD.below hbx hD.lt;have hB:=hB.below hbx hB.lt;have nA1:=(RdZ.of p1).out (b:=wx2.heap.size) (Nat.le_refl _);have nA2:=(RdZ.of p2).out (b:=wx2.heap.size) (Nat.le_refl _);have nA3:=(RdZ.of p3).out (b:=wx2.heap.size) (Nat.le_refl _);have p1:=p1.below hbx
       have p2:=p2.below hbx;have p3:=p3.below hbx;have hq2:b20≠wx2.heap.size:=fun q=>by have:=hL0B;omega
       have hb:=aW hb hbx;refine hK.out _ _ (hSb _ hD) (fun _=>?_)
       try simp only[Act.put,List.setIfInBounds_toArray,List.set_cons_zero,List.set_cons_succ]
       clear hK K;clear hbx;generalize wx2.alloc (.cells #[.string ⟨#[]⟩,.int .i64 0] 47)=wx3 at*
       generalize wx2.heap.size=b19 at*
       have hab:b19≠b20:=by first|exact hq2|exact Ne.symm hq2
       have e0:=hA.cell (i:=0) rfl;have e1':=hA.cell (i:=1) rfl;have f0:=hA.free 0;have f1':=hA.free 1;have la:=hA.lt;have lb:=hB.lt;have o0:=hB.cell (i:=0) rfl;have j0:=hB.free 0;have o1:=hB.cell (i:=1) rfl;have j1:=hB.free 1;have o2:=hB.cell (i:=2) rfl;have j2:=hB.free 2;have o3:=hB.cell (i:=3) rfl;have j3:=hB.free 3;have o4:=hB.cell (i:=4) rfl;have j4:=hB.free 4;have o5:=hB.cell (i:=5) rfl;have j5:=hB.free 5;have o6:=hB.cell (i:=6) rfl;have j6:=hB.free 6;refine dJ (i:=14) (by kernel_rfl) rfl (fun K hK=>?_);go_simp
       have hD1:=(hD.other ⟨b19,0,none⟩ (show b19≠dz by omega) (.string X2)).other ⟨b19,1,none⟩ (show b19≠dz by omega) (.int .i64 c2);refine hK.out _ _ (hSb _ hD1) (fun _=>?_)
       try simp only[Act.put,List.setIfInBounds_toArray,List.set_cons_zero,List.set_cons_succ]
       clear hK K;refine dJ (i:=15) (by kernel_rfl) rfl (fun K hK=>?_);go_simp;obtain⟨hD2,hA2,hB2,p1,p2,p3,hb2⟩:=ch_put hD hA hB lA lB hab hb hdz p1 p2 p3 nA1 nA2 nA3 nB1 nB2 nB3 (u0:=.string X2) (u1:=.int .i64 c2) (v0:=.string a) (v1:=.slice ai2 ni2 ci2) (v2:=.int .i64 (1+(rm:Int))) (v3:=.int .i64 S2.clock) (v4:=.slice ah2 nh2 ch2) (v5:=.slice ar2 nr cr2) (v6:=.int .i64 S2.dec) rfl;refine hK.out _ _ (hSb _ hD2) (fun _=>?_)
       try simp only[Act.put,List.setIfInBounds_toArray,List.set_cons_zero,List.set_cons_succ]
       clear hK K;refine fV 0 0 (by simp only[List.size_toArray,List.length_cons,List.length_nil,Nat.reduceAdd,Nat.reduceSub]<;>rfl) (by simp only[List.getElem?_toArray,List.getElem?_cons_succ,List.getElem?_cons_zero];rfl) (by kernel_rfl) (by exact fun _ _ _ h=>h) (by first|exact Or.inr ⟨by rfl,rfl⟩|(refine Or.inl ⟨by rfl,?_⟩;intro w' hSw;(try dsimp only at hSw);(try go_simp);try with_reducible rfl)) (hSb _ hD2) ?_
       try simp only[Act.put,List.setIfInBounds_toArray,List.set_cons_zero,List.set_cons_succ]
       refine wpAnyH_done (by kernel_rfl) ?_ _;clear hSb hHeld hD hA hB hD1 nA1 nA2 nA3 nB1 nB2 nB3 e0 e1' f0 f1' la lb o0 o1 o2 o3 o4 o5 o6 j0 j1 j2 j3 j4 j5 j6 hb;go_wp2_with fail;go_meet;exact⟨b19,b20,ai2,ah2,ar2,ni2,ci2,nh2,ch2,cr2,rfl,rfl,rfl,hD2,hA2,hB2,⟨p1,p2,p3⟩,⟨d1,d2,d3⟩,hb2,lA,lB⟩
     ·go_simp;have hbx:=bD (Below.refl wx0.heap.size wx0) (.cells #[.string ⟨#[]⟩,.int .i64 0] 47);have hA:=Arr.new wx0 47 [.string ⟨#[]⟩,.int .i64 0];change Arr (wx0.alloc (.cells #[.string ⟨#[]⟩,.int .i64 0] 47)) _ _ _ at hA;have lA:dz<wx0.heap.size:=hD.lt;have hD:=hD.below hbx hD.lt;have r1:=r1.below hbx;have r2:=r2.below hbx;have r3:=r3.below hbx;have hb:=aW hb hbx;refine hK.out _ _ (hSb _ hD) (fun _=>?_)
      try simp only[Act.put,List.setIfInBounds_toArray,List.set_cons_zero,List.set_cons_succ]
      clear hK K;clear hbx;generalize wx0.alloc (.cells #[.string ⟨#[]⟩,.int .i64 0] 47)=wx1 at*
      generalize wx0.heap.size=b19 at*
      refine bL3 7 13 (by kernel_rfl) rfl rfl (fun K hK=>?_) (fun K hK=>?_)
      ·go_simp;refine(hra wx1 ⟨_,_,_,rfl,r1,r2,r3⟩ (hE.below hb)).mono ?_;rintro e1 wx2 ⟨v2',rfl,dd,ff,hh⟩;obtain⟨ai2,ni2,ci2,ah2,nh2,ch2,ar2,cr2,rfl,p1,p2,p3⟩:=dd.open;rw[hnr2] at p3 ff ⊢;obtain⟨g1,g2,g3⟩:=ff _ _ _ _ _ _ _ rfl;have lD0:dz<wx1.heap.size:=hD.lt;have hLA:=hA.lt;have hD:=hD.below hh hD.lt;have hA:=hA.below hh hA.lt;have ldz:∀b,wx1.heap.size<=b->dz<b:=fun b q=>by omega
       have hb:=aW hb hh;have nA1:(Value.slice ai2 ni2 ci2).ownBlock≠some b19\/((gU 0 P).map bG).flatten=[]:=.inl (fun q=>by have:=g1 _ q;omega);have nA2:(Value.slice ah2 nh2 ch2).ownBlock≠some b19\/((byB S2.Hs).map mX).flatten=[]:=.inl (fun q=>by have:=g2 _ q;omega);have nA3:(Value.slice ar2 nr cr2).ownBlock≠some b19\/(S2.Rs.map bK3).flatten=[]:=.inl (fun q=>by have:=g3 _ q;omega);have d1:∀b,(Value.slice ai2 ni2 ci2).ownBlock=some b->dz<b:=fun b q=>ldz b (g1 b q)
       have d2:∀b,(Value.slice ah2 nh2 ch2).ownBlock=some b->dz<b:=fun b q=>ldz b (g2 b q)
       have d3:∀b,(Value.slice ar2 nr cr2).ownBlock=some b->dz<b:=fun b q=>ldz b (g3 b q)
       clear dd ff hh r1 r2 r3 g1 g2 g3 ldz
       (try go_wp2_with fail)
       refine hK.out _ _ (hSb _ hD) (fun _=>?_)
       try simp only[Act.put,List.setIfInBounds_toArray,List.set_cons_zero,List.set_cons_succ]
       clear hK K
       iterate 4
        refine fV 0 1 (by simp only[List.size_toArray,List.length_cons,List.length_nil,Nat.reduceAdd,Nat.reduceSub]<;>rfl) (by simp only[List.getElem?_toArray,List.getElem?_cons_succ,List.getElem?_cons_zero];rfl) (by kernel_rfl) (by exact fun _ _ _ h=>h) (by first|exact Or.inr ⟨by rfl,rfl⟩|(refine Or.inl ⟨by rfl,?_⟩;intro w' hSw;(try dsimp only at hSw);(try go_simp);try with_reducible rfl)) (hSb _ hD) ?_
        try simp only[Act.put,List.setIfInBounds_toArray,List.set_cons_zero,List.set_cons_succ]
       refine dJ (i:=13) (by kernel_rfl) rfl (fun K hK=>?_);go_simp;have hL0A:=hA.lt;have hbx:=bD (Below.refl wx2.heap.size wx2) (.cells #[.string ⟨#[]⟩,.slice none 0 0,.int .i64 0,.int .i64 0,.slice none 0 0,.slice none 0 0,.int .i64 0] 40);have hB:=Arr.new wx2 40 [.string ⟨#[]⟩,.slice none 0 0,.int .i64 0,.int .i64 0,.slice none 0 0,.slice none 0 0,.int .i64 0];change Arr (wx2.alloc (.cells #[.string ⟨#[]⟩,.slice none 0 0,.int .i64 0,.int .i64 0,.slice none 0 0,.slice none 0 0,.int .i64 0] 40)) _ _ _ at hB;have lB:dz<wx2.heap.size:=hD.lt;have hD:=hD.below hbx hD.lt
       have hA:=hA.below hbx hA.lt;have nB1:=(RdZ.of p1).out (b:=wx2.heap.size) (Nat.le_refl _);have nB2:=(RdZ.of p2).out (b:=wx2.heap.size) (Nat.le_refl _);have nB3:=(RdZ.of p3).out (b:=wx2.heap.size) (Nat.le_refl _);have p1:=p1.below hbx;have p2:=p2.below hbx;have p3:=p3.below hbx;have hq2:b19≠wx2.heap.size:=fun q=>by have:=hL0A;omega
       have hb:=aW hb hbx;refine hK.out _ _ (hSb _ hD) (fun _=>?_)
       try simp only[Act.put,List.setIfInBounds_toArray,List.set_cons_zero,List.set_cons_succ]
       clear hK K;clear hbx;generalize wx2.alloc (.cells #[.string ⟨#[]⟩,.slice none 0 0,.int .i64 0,.int .i64 0,.slice none 0 0,.slice none 0 0,.int .i64 0] 40)=wx3 at*
       generalize wx2.heap.size=b20 at*
       have hab:b19≠b20:=by first|exact hq2|exact Ne.symm hq2
       have e0:=hA.cell (i:=0) rfl;have e1':=hA.cell (i:=1) rfl;have f0:=hA.free 0;have f1':=hA.free 1;have la:=hA.lt;have lb:=hB.lt;have o0:=hB.cell (i:=0) rfl;have j0:=hB.free 0;have o1:=hB.cell (i:=1) rfl;have j1:=hB.free 1;have o2:=hB.cell (i:=2) rfl;have j2:=hB.free 2;have o3:=hB.cell (i:=3) rfl;have j3:=hB.free 3;have o4:=hB.cell (i:=4) rfl;have j4:=hB.free 4;have o5:=hB.cell (i:=5) rfl;have j5:=hB.free 5;have o6:=hB.cell (i:=6) rfl;have j6:=hB.free 6;refine dJ (i:=14) (by kernel_rfl) rfl (fun K hK=>?_);go_simp
       have hD1:=(hD.other ⟨b19,0,none⟩ (show b19≠dz by omega) (.string X2)).other ⟨b19,1,none⟩ (show b19≠dz by omega) (.int .i64 c2);refine hK.out _ _ (hSb _ hD1) (fun _=>?_)
       try simp only[Act.put,List.setIfInBounds_toArray,List.set_cons_zero,List.set_cons_succ]
       clear hK K;refine dJ (i:=15) (by kernel_rfl) rfl (fun K hK=>?_);go_simp;obtain⟨hD2,hA2,hB2,p1,p2,p3,hb2⟩:=ch_put hD hA hB lA lB hab hb hdz p1 p2 p3 nA1 nA2 nA3 nB1 nB2 nB3 (u0:=.string X2) (u1:=.int .i64 c2) (v0:=.string a) (v1:=.slice ai2 ni2 ci2) (v2:=.int .i64 (1+(rm:Int))) (v3:=.int .i64 S2.clock) (v4:=.slice ah2 nh2 ch2) (v5:=.slice ar2 nr cr2) (v6:=.int .i64 S2.dec) rfl;refine hK.out _ _ (hSb _ hD2) (fun _=>?_)
       try simp only[Act.put,List.setIfInBounds_toArray,List.set_cons_zero,List.set_cons_succ]
       clear hK K;refine fV 0 0 (by simp only[List.size_toArray,List.length_cons,List.length_nil,Nat.reduceAdd,Nat.reduceSub]<;>rfl) (by simp only[List.getElem?_toArray,List.getElem?_cons_succ,List.getElem?_cons_zero];rfl) (by kernel_rfl) (by exact fun _ _ _ h=>h) (by first|exact Or.inr ⟨by rfl,rfl⟩|(refine Or.inl ⟨by rfl,?_⟩;intro w' hSw;(try dsimp only at hSw);(try go_simp);try with_reducible rfl)) (hSb _ hD2) ?_
       try simp only[Act.put,List.setIfInBounds_toArray,List.set_cons_zero,List.set_cons_succ]
       refine wpAnyH_done (by kernel_rfl) ?_ _;clear hSb hHeld hD hA hB hD1 nA1 nA2 nA3 nB1 nB2 nB3 e0 e1' f0 f1' la lb o0 o1 o2 o3 o4 o5 o6 j0 j1 j2 j3 j4 j5 j6 hb;go_wp2_with fail;go_meet;exact⟨b19,b20,ai2,ah2,ar2,ni2,ci2,nh2,ch2,cr2,rfl,rfl,rfl,hD2,hA2,hB2,⟨p1,p2,p3⟩,⟨d1,d2,d3⟩,hb2,lA,lB⟩
      ·go_simp;have hL0A:=hA.lt;have hbx:=bD (Below.refl wx1.heap.size wx1) (.cells #[.string ⟨#[]⟩,.slice none 0 0,.int .i64 0,.int .i64 0,.slice none 0 0,.slice none 0 0,.int .i64 0] 40);have hB:=Arr.new wx1 40 [.string ⟨#[]⟩,.slice none 0 0,.int .i64 0,.int .i64 0,.slice none 0 0,.slice none 0 0,.int .i64 0];change Arr (wx1.alloc (.cells #[.string ⟨#[]⟩,.slice none 0 0,.int .i64 0,.int .i64 0,.slice none 0 0,.slice none 0 0,.int .i64 0] 40)) _ _ _ at hB;have lB:dz<wx1.heap.size:=hD.lt;have hD:=hD.below hbx hD.lt;have hA:=hA.below hbx hA.lt;have r1:=r1.below hbx;have r2:=r2.below hbx
       have r3:=r3.below hbx;have hq2:b19≠wx1.heap.size:=fun q=>by have:=hL0A;omega
       have hb:=aW hb hbx;refine hK.out _ _ (hSb _ hD) (fun _=>?_)
       try simp only[Act.put,List.setIfInBounds_toArray,List.set_cons_zero,List.set_cons_succ]
       clear hK K;clear hbx;generalize wx1.alloc (.cells #[.string ⟨#[]⟩,.slice none 0 0,.int .i64 0,.int .i64 0,.slice none 0 0,.slice none 0 0,.int .i64 0] 40)=wx2 at*
       generalize wx1.heap.size=b20 at*
       refine dJ (i:=7) (by kernel_rfl) rfl (fun K hK=>?_);go_simp;refine(hra wx2 ⟨_,_,_,rfl,r1,r2,r3⟩ (hE.below hb)).mono ?_;rintro e1 wx3 ⟨v2',rfl,dd,ff,hh⟩;obtain⟨ai2,ni2,ci2,ah2,nh2,ch2,ar2,cr2,rfl,p1,p2,p3⟩:=dd.open;rw[hnr2] at p3 ff ⊢;obtain⟨g1,g2,g3⟩:=ff _ _ _ _ _ _ _ rfl;have lD0:dz<wx2.heap.size:=hD.lt;have hLA:=hA.lt;have hLB:=hB.lt;have hD:=hD.below hh hD.lt;have hA:=hA.below hh hA.lt;have hB:=hB.below hh hB.lt;have ldz:∀b,wx2.heap.size<=b->dz<b:=fun b q=>by omega
       have hb:=aW hb hh;have nA1:(Value.slice ai2 ni2 ci2).ownBlock≠some b19\/((gU 0 P).map bG).flatten=[]:=.inl (fun q=>by have:=g1 _ q;omega);have nA2:(Value.slice ah2 nh2 ch2).ownBlock≠some b19\/((byB S2.Hs).map mX).flatten=[]:=.inl (fun q=>by have:=g2 _ q;omega);have nA3:(Value.slice ar2 nr cr2).ownBlock≠some b19\/(S2.Rs.map bK3).flatten=[]:=.inl (fun q=>by have:=g3 _ q;omega);have nB1:(Value.slice ai2 ni2 ci2).ownBlock≠some b20\/((gU 0 P).map bG).flatten=[]:=.inl (fun q=>by have:=g1 _ q;omega)
       have nB2:(Value.slice ah2 nh2 ch2).ownBlock≠some b20\/((byB S2.Hs).map mX).flatten=[]:=.inl (fun q=>by have:=g2 _ q;omega);have nB3:(Value.slice ar2 nr cr2).ownBlock≠some b20\/(S2.Rs.map bK3).flatten=[]:=.inl (fun q=>by have:=g3 _ q;omega);have d1:∀b,(Value.slice ai2 ni2 ci2).ownBlock=some b->dz<b:=fun b q=>ldz b (g1 b q)
       have d2:∀b,(Value.slice ah2 nh2 ch2).ownBlock=some b->dz<b:=fun b q=>ldz b (g2 b q)
       have d3:∀b,(Value.slice ar2 nr cr2).ownBlock=some b->dz<b:=fun b q=>ldz b (g3 b q)
       clear dd ff hh r1 r2 r3 g1 g2 g3 ldz
       (try go_wp2_with fail)
       refine hK.out _ _ (hSb _ hD) (fun _=>?_)
       try simp only[Act.put,List.setIfInBounds_toArray,List.set_cons_zero,List.set_cons_succ]
       clear hK K
       iterate 4
        refine fV 0 2 (by simp only[List.size_toArray,List.length_cons,List.length_nil,Nat.reduceAdd,Nat.reduceSub]<;>rfl) (by simp only[List.getElem?_toArray,List.getElem?_cons_succ,List.getElem?_cons_zero];rfl) (by kernel_rfl) (by exact fun _ _ _ h=>h) (by first|exact Or.inr ⟨by rfl,rfl⟩|(refine Or.inl ⟨by rfl,?_⟩;intro w' hSw;(try dsimp only at hSw);(try go_simp);try with_reducible rfl)) (hSb _ hD) ?_
        try simp only[Act.put,List.setIfInBounds_toArray,List.set_cons_zero,List.set_cons_succ]
       have hab:b19≠b20:=by first|exact hq2|exact Ne.symm hq2
       have e0:=hA.cell (i:=0) rfl;have e1':=hA.cell (i:=1) rfl;have f0:=hA.free 0;have f1':=hA.free 1;have la:=hA.lt;have lb:=hB.lt;have o0:=hB.cell (i:=0) rfl;have j0:=hB.free 0;have o1:=hB.cell (i:=1) rfl;have j1:=hB.free 1;have o2:=hB.cell (i:=2) rfl;have j2:=hB.free 2;have o3:=hB.cell (i:=3) rfl;have j3:=hB.free 3;have o4:=hB.cell (i:=4) rfl;have j4:=hB.free 4;have o5:=hB.cell (i:=5) rfl;have j5:=hB.free 5;have o6:=hB.cell (i:=6) rfl;have j6:=hB.free 6;refine dJ (i:=14) (by kernel_rfl) rfl (fun K hK=>?_);go_simp
       have hD1:=(hD.other ⟨b19,0,none⟩ (show b19≠dz by omega) (.string X2)).other ⟨b19,1,none⟩ (show b19≠dz by omega) (.int .i64 c2);refine hK.out _ _ (hSb _ hD1) (fun _=>?_)
       try simp only[Act.put,List.setIfInBounds_toArray,List.set_cons_zero,List.set_cons_succ]
       clear hK K;refine dJ (i:=15) (by kernel_rfl) rfl (fun K hK=>?_);go_simp;obtain⟨hD2,hA2,hB2,p1,p2,p3,hb2⟩:=ch_put hD hA hB lA lB hab hb hdz p1 p2 p3 nA1 nA2 nA3 nB1 nB2 nB3 (u0:=.string X2) (u1:=.int .i64 c2) (v0:=.string a) (v1:=.slice ai2 ni2 ci2) (v2:=.int .i64 (1+(rm:Int))) (v3:=.int .i64 S2.clock) (v4:=.slice ah2 nh2 ch2) (v5:=.slice ar2 nr cr2) (v6:=.int .i64 S2.dec) rfl;refine hK.out _ _ (hSb _ hD2) (fun _=>?_)
       try simp only[Act.put,List.setIfInBounds_toArray,List.set_cons_zero,List.set_cons_succ]
       clear hK K;refine fV 0 0 (by simp only[List.size_toArray,List.length_cons,List.length_nil,Nat.reduceAdd,Nat.reduceSub]<;>rfl) (by simp only[List.getElem?_toArray,List.getElem?_cons_succ,List.getElem?_cons_zero];rfl) (by kernel_rfl) (by exact fun _ _ _ h=>h) (by first|exact Or.inr ⟨by rfl,rfl⟩|(refine Or.inl ⟨by rfl,?_⟩;intro w' hSw;(try dsimp only at hSw);(try go_simp);try with_reducible rfl)) (hSb _ hD2) ?_
       try simp only[Act.put,List.setIfInBounds_toArray,List.set_cons_zero,List.set_cons_succ]
       refine wpAnyH_done (by kernel_rfl) ?_ _;clear hSb hHeld hD hA hB hD1 nA1 nA2 nA3 nB1 nB2 nB3 e0 e1' f0 f1' la lb o0 o1 o2 o3 o4 o5 o6 j0 j1 j2 j3 j4 j5 j6 hb;go_wp2_with fail;go_meet;exact⟨b19,b20,ai2,ah2,ar2,ni2,ci2,nh2,ch2,cr2,rfl,rfl,rfl,hD2,hA2,hB2,⟨p1,p2,p3⟩,⟨d1,d2,d3⟩,hb2,lA,lB⟩
     ·go_simp;have hbx:=bD (Below.refl wx0.heap.size wx0) (.cells #[.string ⟨#[]⟩,.slice none 0 0,.int .i64 0,.int .i64 0,.slice none 0 0,.slice none 0 0,.int .i64 0] 40);have hB:=Arr.new wx0 40 [.string ⟨#[]⟩,.slice none 0 0,.int .i64 0,.int .i64 0,.slice none 0 0,.slice none 0 0,.int .i64 0];change Arr (wx0.alloc (.cells #[.string ⟨#[]⟩,.slice none 0 0,.int .i64 0,.int .i64 0,.slice none 0 0,.slice none 0 0,.int .i64 0] 40)) _ _ _ at hB;have lB:dz<wx0.heap.size:=hD.lt;have hD:=hD.below hbx hD.lt;have r1:=r1.below hbx;have r2:=r2.below hbx;have r3:=r3.below hbx;have hb:=aW hb hbx
      refine hK.out _ _ (hSb _ hD) (fun _=>?_)
      try simp only[Act.put,List.setIfInBounds_toArray,List.set_cons_zero,List.set_cons_succ]
      clear hK K;clear hbx;generalize wx0.alloc (.cells #[.string ⟨#[]⟩,.slice none 0 0,.int .i64 0,.int .i64 0,.slice none 0 0,.slice none 0 0,.int .i64 0] 40)=wx1 at*
      generalize wx0.heap.size=b20 at*
      refine bL3 7 12 (by kernel_rfl) rfl rfl (fun K hK=>?_) (fun K hK=>?_)
      ·go_simp;refine(hra wx1 ⟨_,_,_,rfl,r1,r2,r3⟩ (hE.below hb)).mono ?_;rintro e1 wx2 ⟨v2',rfl,dd,ff,hh⟩;obtain⟨ai2,ni2,ci2,ah2,nh2,ch2,ar2,cr2,rfl,p1,p2,p3⟩:=dd.open;rw[hnr2] at p3 ff ⊢;obtain⟨g1,g2,g3⟩:=ff _ _ _ _ _ _ _ rfl;have lD0:dz<wx1.heap.size:=hD.lt;have hLB:=hB.lt;have hD:=hD.below hh hD.lt;have hB:=hB.below hh hB.lt;have ldz:∀b,wx1.heap.size<=b->dz<b:=fun b q=>by omega
       have hb:=aW hb hh;have nB1:(Value.slice ai2 ni2 ci2).ownBlock≠some b20\/((gU 0 P).map bG).flatten=[]:=.inl (fun q=>by have:=g1 _ q;omega);have nB2:(Value.slice ah2 nh2 ch2).ownBlock≠some b20\/((byB S2.Hs).map mX).flatten=[]:=.inl (fun q=>by have:=g2 _ q;omega);have nB3:(Value.slice ar2 nr cr2).ownBlock≠some b20\/(S2.Rs.map bK3).flatten=[]:=.inl (fun q=>by have:=g3 _ q;omega);have d1:∀b,(Value.slice ai2 ni2 ci2).ownBlock=some b->dz<b:=fun b q=>ldz b (g1 b q)
       have d2:∀b,(Value.slice ah2 nh2 ch2).ownBlock=some b->dz<b:=fun b q=>ldz b (g2 b q)
       have d3:∀b,(Value.slice ar2 nr cr2).ownBlock=some b->dz<b:=fun b q=>ldz b (g3 b q)
       clear dd ff hh r1 r2 r3 g1 g2 g3 ldz
       (try go_wp2_with fail)
       refine hK.out _ _ (hSb _ hD) (fun _=>?_)
       try simp only[Act.put,List.setIfInBounds_toArray,List.set_cons_zero,List.set_cons_succ]
       clear hK K
       iterate 4
        refine fV 0 1 (by simp only[List.size_toArray,List.length_cons,List.length_nil,Nat.reduceAdd,Nat.reduceSub]<;>rfl) (by simp only[List.getElem?_toArray,List.getElem?_cons_succ,List.getElem?_cons_zero];rfl) (by kernel_rfl) (by exact fun _ _ _ h=>h) (by first|exact Or.inr ⟨by rfl,rfl⟩|(refine Or.inl ⟨by rfl,?_⟩;intro w' hSw;(try dsimp only at hSw);(try go_simp);try with_reducible rfl)) (hSb _ hD) ?_
        try simp only[Act.put,List.setIfInBounds_toArray,List.set_cons_zero,List.set_cons_succ]
       refine dJ (i:=12) (by kernel_rfl) rfl (fun K hK=>?_);go_simp;have hL0B:=hB.lt;have hbx:=bD (Below.refl wx2.heap.size wx2) (.cells #[.string ⟨#[]⟩,.int .i64 0] 47);have hA:=Arr.new wx2 47 [.string ⟨#[]⟩,.int .i64 0];change Arr (wx2.alloc (.cells #[.string ⟨#[]⟩,.int .i64 0] 47)) _ _ _ at hA;have lA:dz<wx2.heap.size:=hD.lt;have hD:=hD.below hbx hD.lt;have hB:=hB.below hbx hB.lt;have nA1:=(RdZ.of p1).out (b:=wx2.heap.size) (Nat.le_refl _);have nA2:=(RdZ.of p2).out (b:=wx2.heap.size) (Nat.le_refl _);have nA3:=(RdZ.of p3).out (b:=wx2.heap.size) (Nat.le_refl _);have p1:=p1.below hbx
       have p2:=p2.below hbx;have p3:=p3.below hbx;have hq2:b20≠wx2.heap.size:=fun q=>by have:=hL0B;omega
       have hb:=aW hb hbx;refine hK.out _ _ (hSb _ hD) (fun _=>?_)
       try simp only[Act.put,List.setIfInBounds_toArray,List.set_cons_zero,List.set_cons_succ]
       clear hK K;clear hbx;generalize wx2.alloc (.cells #[.string ⟨#[]⟩,.int .i64 0] 47)=wx3 at*
       generalize wx2.heap.size=b19 at*
       have hab:b19≠b20:=by first|exact hq2|exact Ne.symm hq2
       have e0:=hA.cell (i:=0) rfl;have e1':=hA.cell (i:=1) rfl;have f0:=hA.free 0;have f1':=hA.free 1;have la:=hA.lt;have lb:=hB.lt;have o0:=hB.cell (i:=0) rfl;have j0:=hB.free 0;have o1:=hB.cell (i:=1) rfl;have j1:=hB.free 1;have o2:=hB.cell (i:=2) rfl;have j2:=hB.free 2;have o3:=hB.cell (i:=3) rfl;have j3:=hB.free 3;have o4:=hB.cell (i:=4) rfl;have j4:=hB.free 4;have o5:=hB.cell (i:=5) rfl;have j5:=hB.free 5;have o6:=hB.cell (i:=6) rfl;have j6:=hB.free 6;refine dJ (i:=14) (by kernel_rfl) rfl (fun K hK=>?_);go_simp
       have hD1:=(hD.other ⟨b19,0,none⟩ (show b19≠dz by omega) (.string X2)).other ⟨b19,1,none⟩ (show b19≠dz by omega) (.int .i64 c2);refine hK.out _ _ (hSb _ hD1) (fun _=>?_)
       try simp only[Act.put,List.setIfInBounds_toArray,List.set_cons_zero,List.set_cons_succ]
       clear hK K;refine dJ (i:=15) (by kernel_rfl) rfl (fun K hK=>?_);go_simp;obtain⟨hD2,hA2,hB2,p1,p2,p3,hb2⟩:=ch_put hD hA hB lA lB hab hb hdz p1 p2 p3 nA1 nA2 nA3 nB1 nB2 nB3 (u0:=.string X2) (u1:=.int .i64 c2) (v0:=.string a) (v1:=.slice ai2 ni2 ci2) (v2:=.int .i64 (1+(rm:Int))) (v3:=.int .i64 S2.clock) (v4:=.slice ah2 nh2 ch2) (v5:=.slice ar2 nr cr2) (v6:=.int .i64 S2.dec) rfl;refine hK.out _ _ (hSb _ hD2) (fun _=>?_)
       try simp only[Act.put,List.setIfInBounds_toArray,List.set_cons_zero,List.set_cons_succ]
       clear hK K;refine fV 0 0 (by simp only[List.size_toArray,List.length_cons,List.length_nil,Nat.reduceAdd,Nat.reduceSub]<;>rfl) (by simp only[List.getElem?_toArray,List.getElem?_cons_succ,List.getElem?_cons_zero];rfl) (by kernel_rfl) (by exact fun _ _ _ h=>h) (by first|exact Or.inr ⟨by rfl,rfl⟩|(refine Or.inl ⟨by rfl,?_⟩;intro w' hSw;(try dsimp only at hSw);(try go_simp);try with_reducible rfl)) (hSb _ hD2) ?_
       try simp only[Act.put,List.setIfInBounds_toArray,List.set_cons_zero,List.set_cons_succ]
       refine wpAnyH_done (by kernel_rfl) ?_ _;clear hSb hHeld hD hA hB hD1 nA1 nA2 nA3 nB1 nB2 nB3 e0 e1' f0 f1' la lb o0 o1 o2 o3 o4 o5 o6 j0 j1 j2 j3 j4 j5 j6 hb;go_wp2_with fail;go_meet;exact⟨b19,b20,ai2,ah2,ar2,ni2,ci2,nh2,ch2,cr2,rfl,rfl,rfl,hD2,hA2,hB2,⟨p1,p2,p3⟩,⟨d1,d2,d3⟩,hb2,lA,lB⟩
      ·go_simp;have hL0B:=hB.lt;have hbx:=bD (Below.refl wx1.heap.size wx1) (.cells #[.string ⟨#[]⟩,.int .i64 0] 47);have hA:=Arr.new wx1 47 [.string ⟨#[]⟩,.int .i64 0];change Arr (wx1.alloc (.cells #[.string ⟨#[]⟩,.int .i64 0] 47)) _ _ _ at hA;have lA:dz<wx1.heap.size:=hD.lt;have hD:=hD.below hbx hD.lt;have hB:=hB.below hbx hB.lt;have r1:=r1.below hbx;have r2:=r2.below hbx;have r3:=r3.below hbx;have hq2:b20≠wx1.heap.size:=fun q=>by have:=hL0B;omega
       have hb:=aW hb hbx;refine hK.out _ _ (hSb _ hD) (fun _=>?_)
       try simp only[Act.put,List.setIfInBounds_toArray,List.set_cons_zero,List.set_cons_succ]
       clear hK K;clear hbx;generalize wx1.alloc (.cells #[.string ⟨#[]⟩,.int .i64 0] 47)=wx2 at*
       generalize wx1.heap.size=b19 at*
       refine dJ (i:=7) (by kernel_rfl) rfl (fun K hK=>?_);go_simp;refine(hra wx2 ⟨_,_,_,rfl,r1,r2,r3⟩ (hE.below hb)).mono ?_;rintro e1 wx3 ⟨v2',rfl,dd,ff,hh⟩;obtain⟨ai2,ni2,ci2,ah2,nh2,ch2,ar2,cr2,rfl,p1,p2,p3⟩:=dd.open;rw[hnr2] at p3 ff ⊢;obtain⟨g1,g2,g3⟩:=ff _ _ _ _ _ _ _ rfl;have lD0:dz<wx2.heap.size:=hD.lt;have hLB:=hB.lt;have hLA:=hA.lt;have hD:=hD.below hh hD.lt;have hB:=hB.below hh hB.lt;have hA:=hA.below hh hA.lt;have ldz:∀b,wx2.heap.size<=b->dz<b:=fun b q=>by omega
       have hb:=aW hb hh;have nB1:(Value.slice ai2 ni2 ci2).ownBlock≠some b20\/((gU 0 P).map bG).flatten=[]:=.inl (fun q=>by have:=g1 _ q;omega);have nB2:(Value.slice ah2 nh2 ch2).ownBlock≠some b20\/((byB S2.Hs).map mX).flatten=[]:=.inl (fun q=>by have:=g2 _ q;omega);have nB3:(Value.slice ar2 nr cr2).ownBlock≠some b20\/(S2.Rs.map bK3).flatten=[]:=.inl (fun q=>by have:=g3 _ q;omega);have nA1:(Value.slice ai2 ni2 ci2).ownBlock≠some b19\/((gU 0 P).map bG).flatten=[]:=.inl (fun q=>by have:=g1 _ q;omega)
       have nA2:(Value.slice ah2 nh2 ch2).ownBlock≠some b19\/((byB S2.Hs).map mX).flatten=[]:=.inl (fun q=>by have:=g2 _ q;omega);have nA3:(Value.slice ar2 nr cr2).ownBlock≠some b19\/(S2.Rs.map bK3).flatten=[]:=.inl (fun q=>by have:=g3 _ q;omega);have d1:∀b,(Value.slice ai2 ni2 ci2).ownBlock=some b->dz<b:=fun b q=>ldz b (g1 b q)
       have d2:∀b,(Value.slice ah2 nh2 ch2).ownBlock=some b->dz<b:=fun b q=>ldz b (g2 b q)
       have d3:∀b,(Value.slice ar2 nr cr2).ownBlock=some b->dz<b:=fun b q=>ldz b (g3 b q)
       clear dd ff hh r1 r2 r3 g1 g2 g3 ldz
       (try go_wp2_with fail)
       refine hK.out _ _ (hSb _ hD) (fun _=>?_)
       try simp only[Act.put,List.setIfInBounds_toArray,List.set_cons_zero,List.set_cons_succ]
       clear hK K
       iterate 4
        refine fV 0 2 (by simp only[List.size_toArray,List.length_cons,List.length_nil,Nat.reduceAdd,Nat.reduceSub]<;>rfl) (by simp only[List.getElem?_toArray,List.getElem?_cons_succ,List.getElem?_cons_zero];rfl) (by kernel_rfl) (by exact fun _ _ _ h=>h) (by first|exact Or.inr ⟨by rfl,rfl⟩|(refine Or.inl ⟨by rfl,?_⟩;intro w' hSw;(try dsimp only at hSw);(try go_simp);try with_reducible rfl)) (hSb _ hD) ?_
        try simp only[Act.put,List.setIfInBounds_toArray,List.set_cons_zero,List.set_cons_succ]
       have hab:b19≠b20:=by first|exact hq2|exact Ne.symm hq2
       have e0:=hA.cell (i:=0) rfl;have e1':=hA.cell (i:=1) rfl;have f0:=hA.free 0;have f1':=hA.free 1;have la:=hA.lt;have lb:=hB.lt;have o0:=hB.cell (i:=0) rfl;have j0:=hB.free 0;have o1:=hB.cell (i:=1) rfl;have j1:=hB.free 1;have o2:=hB.cell (i:=2) rfl;have j2:=hB.free 2;have o3:=hB.cell (i:=3) rfl;have j3:=hB.free 3;have o4:=hB.cell (i:=4) rfl;have j4:=hB.free 4;have o5:=hB.cell (i:=5) rfl;have j5:=hB.free 5;have o6:=hB.cell (i:=6) rfl;have j6:=hB.free 6;refine dJ (i:=14) (by kernel_rfl) rfl (fun K hK=>?_);go_simp
       have hD1:=(hD.other ⟨b19,0,none⟩ (show b19≠dz by omega) (.string X2)).other ⟨b19,1,none⟩ (show b19≠dz by omega) (.int .i64 c2);refine hK.out _ _ (hSb _ hD1) (fun _=>?_)
       try simp only[Act.put,List.setIfInBounds_toArray,List.set_cons_zero,List.set_cons_succ]
       clear hK K;refine dJ (i:=15) (by kernel_rfl) rfl (fun K hK=>?_);go_simp;obtain⟨hD2,hA2,hB2,p1,p2,p3,hb2⟩:=ch_put hD hA hB lA lB hab hb hdz p1 p2 p3 nA1 nA2 nA3 nB1 nB2 nB3 (u0:=.string X2) (u1:=.int .i64 c2) (v0:=.string a) (v1:=.slice ai2 ni2 ci2) (v2:=.int .i64 (1+(rm:Int))) (v3:=.int .i64 S2.clock) (v4:=.slice ah2 nh2 ch2) (v5:=.slice ar2 nr cr2) (v6:=.int .i64 S2.dec) rfl;refine hK.out _ _ (hSb _ hD2) (fun _=>?_)
       try simp only[Act.put,List.setIfInBounds_toArray,List.set_cons_zero,List.set_cons_succ]
       clear hK K;refine fV 0 0 (by simp only[List.size_toArray,List.length_cons,List.length_nil,Nat.reduceAdd,Nat.reduceSub]<;>rfl) (by simp only[List.getElem?_toArray,List.getElem?_cons_succ,List.getElem?_cons_zero];rfl) (by kernel_rfl) (by exact fun _ _ _ h=>h) (by first|exact Or.inr ⟨by rfl,rfl⟩|(refine Or.inl ⟨by rfl,?_⟩;intro w' hSw;(try dsimp only at hSw);(try go_simp);try with_reducible rfl)) (hSb _ hD2) ?_
       try simp only[Act.put,List.setIfInBounds_toArray,List.set_cons_zero,List.set_cons_succ]
       refine wpAnyH_done (by kernel_rfl) ?_ _;clear hSb hHeld hD hA hB hD1 nA1 nA2 nA3 nB1 nB2 nB3 e0 e1' f0 f1' la lb o0 o1 o2 o3 o4 o5 o6 j0 j1 j2 j3 j4 j5 j6 hb;go_wp2_with fail;go_meet;exact⟨b19,b20,ai2,ah2,ar2,ni2,ci2,nh2,ch2,cr2,rfl,rfl,rfl,hD2,hA2,hB2,⟨p1,p2,p3⟩,⟨d1,d2,d3⟩,hb2,lA,lB⟩
    case rest=>
     obtain⟨b19,b20,ai2,ah2,ar2,ni2,ci2,nh2,ch2,cr2,rfl,rfl,rfl,hD2,hA2,hB2,⟨p1,p2,p3⟩,⟨d1,d2,d3⟩,hb2,lA,lB⟩:=hcut;clear hra hDr r1 r2 r3 hbr hqm hqe hqw;have a0:=hA2.cell (i:=0) rfl;have a1:=hA2.cell (i:=1) rfl;have o0:=hB2.cell (i:=0) rfl;have o1:=hB2.cell (i:=1) rfl;have o2:=hB2.cell (i:=2) rfl;have o3:=hB2.cell (i:=3) rfl;have o4:=hB2.cell (i:=4) rfl;have o5:=hB2.cell (i:=5) rfl;have o6:=hB2.cell (i:=6) rfl;have e0:=hD2.cell (i:=0) rfl;have e1:=hD2.cell (i:=1) rfl;have e2:=hD2.cell (i:=2) rfl;have e3:=hD2.cell (i:=3) rfl;have e4:=hD2.cell (i:=4) rfl;have e5:=hD2.cell (i:=5) rfl
     have e6:=hD2.cell (i:=6) rfl;have f0:=hD2.free 0;have f1:=hD2.free 1;have f2:=hD2.free 2;have f3:=hD2.free 3;have f4:=hD2.free 4;have f5:=hD2.free 5;have f6:=hD2.free 6;have ld:=hD2.lt;have hn1:b19≠dz:=by omega
     have hn2:dz≠b19:=by omega
     obtain⟨Y,hY⟩:=ex1 (X.size+m);have y1:IntKind.i64.wrap ((X.size:Int)+(m:Int))=(Y:Int):=by rw[IntKind.wrap_i64];omega
     have y2:(X.size:Int)+(m:Int)=(Y:Int):=by omega
     have y3:=tE Y (by omega);have hcat:¬9223372036854775807<X.size+X2.size:=by
      have:=HX4.out;rw[ByteArray.size_append] at this;omega
     have HY:=hid hY;have hXf:=hid (show X++X2=T.extract 0 (X++X2).size by rw[HX4.out];exact HX3.out);have hXg:(X++X2).size<=T.size:=by rw[HX4.out];exact Nat.min_le_right _ _
     have HXG:=hid hXg;have jw:IntKind.i64.wrap ((j:Int)+1)=((j+1:Nat):Int):=by rw[IntKind.wrap_i64];omega
     have jw2:(j:Int)+1=((j+1:Nat):Int):=by omega
     obtain⟨J,hJ⟩:=ex1 (j+1);rw[<-hJ] at jw jw2;have HJ:=hid hJ;clear hY hXg hJ
     by_cases hov:T.size<X.size+m
     ·obtain rfl:c2=8:=HC2.out.trans (aB hov);have v1:decide ((Y:Int)>(T.size:Int))=true:=aG (by have:=HY.out;omega);have v2:decide ((T.size:Int)<(Y:Int))=true:=aG (by have:=HY.out;omega);have v3:decide (T.size<Y)=true:=aG (by have:=HY.out;omega);go_wp2_with fail;obtain⟨hD3,p1,p2,p3,hb3,-⟩:=bMt hD2 p1 p2 p3 (Fr.mk d1 d2 d3:Fr (bLa a (.slice ai2 ni2 ci2) (1+(rm:Int)) S2.clock (.slice ah2 nh2 ch2) (.slice ar2 nr cr2) S2.dec) (dz+1)) (Nat.lt_succ_self dz) hb2 hdz rfl;have hg:=HG.out
      go_roundg (60-(j+1))
      ·exact⟨j+1,X++X2,S2,ai2,ah2,ar2,ni2,ci2,nh2,ch2,cr2,rfl,by omega,rfl,rfl,by rw[HJ.out],hXf,HXG.out,gS2,by omega,hRS2,hD3,⟨p1,p2,p3⟩,hb3⟩
      ·omega
     ·obtain rfl:c2=0:=HC2.out.trans (aA hov);have v1:decide ((Y:Int)>(T.size:Int))=false:=aE (by have:=HY.out;omega);have v2:decide ((T.size:Int)<(Y:Int))=false:=aE (by have:=HY.out;omega);have v3:decide (T.size<Y)=false:=aE (by have:=HY.out;omega);go_wp2_with fail;obtain⟨hD3,p1,p2,p3,hb3,-⟩:=bMt hD2 p1 p2 p3 (Fr.mk d1 d2 d3:Fr (bLa a (.slice ai2 ni2 ci2) (1+(rm:Int)) S2.clock (.slice ah2 nh2 ch2) (.slice ar2 nr cr2) S2.dec) (dz+1)) (Nat.lt_succ_self dz) hb2 hdz rfl;have hg:=HG.out
      go_roundg (60-(j+1))
      ·exact⟨j+1,X++X2,S2,ai2,ah2,ar2,ni2,ci2,nh2,ch2,cr2,rfl,by omega,rfl,rfl,by rw[HJ.out],hXf,HXG.out,gS2,by omega,hRS2,hD3,⟨p1,p2,p3⟩,hb3⟩
      ·omega
  ·have e0:=hDr.cell (i:=0) rfl;have e1:=hDr.cell (i:=1) rfl;have e2:=hDr.cell (i:=2) rfl;have e3:=hDr.cell (i:=3) rfl;have e4:=hDr.cell (i:=4) rfl;have e5:=hDr.cell (i:=5) rfl;have e6:=hDr.cell (i:=6) rfl;have hy1:S1.Rs[0]? =some bK8:=by rw[HR1.out,List.getElem?_replicate,aB (Nat.succ_pos rd)]
   have hra:=fun W h1 h2=>bM0 (w:=W) (v:=bLa a (.slice bi mi di) (1+(rm:Int)) S1.clock (.slice bh mh dh) (.slice br nr dr) S1.dec) h1 hgS (by omega) (by omega) (by omega) h2 (by omega) hgood hy1 0 T.size (by omega) (by omega)
   rw[<-HT.out,show bLq T 0 T.size=T from by unfold bLq;rw[Nat.zero_add,Nat.min_self];exact ByteArray.extract_zero_size,show bLj T.size 0 T.size=0 from by unfold bLj;rw[aA (by omega)]] at hra;generalize bLe P (1+(rm:Int)) S1 0 T.size=S2 at*
   have hfin:∀(he:X.size=T.size),X=T:=fun he=>by rw[HX.out,he];exact ByteArray.extract_zero_size
   have hlo:¬j<60\/X.size=T.size:=by omega
   have hn:T.extract 0 X.size=X:=HX.out.symm;have g1:decide ((X.size:Int)<(T.size:Int))=decide (X.size<T.size):=by simp
   by_cases hj60:j<60
   ·have t1:decide ((j:Int)<60)=true:=aG (by omega);have t2:decide ((X.size:Int)<(T.size:Int))=false:=aE (by omega);have t2n:decide (X.size<T.size)=false:=aE (by omega);obtain rfl:=hfin (by omega);go_wp2_with fail;refine(hra wr ⟨_,_,_,rfl,r1,r2,r3⟩ (hE.below hbr)).mono ?_;rintro e wz ⟨vz,rfl,dd,-,h14⟩;obtain⟨bi2,mi2,di2,bh2,mh2,dh2,br2,dr2,rfl,-⟩:=dd.open;have hbz:=aW hbr h14;generalize S2.Rs.length=rz at*
    clear hra dd h14 hDr r1 r2 r3 e0 e1 e2 e3 e4 e5 e6;go_wp2_with fail;go_ret;exact⟨rfl,bD (bD hbz _) _⟩
   ·have t1:decide ((j:Int)<60)=false:=aE (by omega)
    by_cases he:X.size=T.size
    ·obtain rfl:=hfin he;go_wp2_with fail;refine(hra wr ⟨_,_,_,rfl,r1,r2,r3⟩ (hE.below hbr)).mono ?_;rintro e wz ⟨vz,rfl,dd,-,h14⟩;obtain⟨bi2,mi2,di2,bh2,mh2,dh2,br2,dr2,rfl,-⟩:=dd.open;have hbz:=aW hbr h14;generalize S2.Rs.length=rz at*
     clear hra dd h14 hDr r1 r2 r3 e0 e1 e2 e3 e4 e5 e6;go_wp2_with fail;go_ret;exact⟨rfl,bD (bD hbz _) _⟩
    ·have u1:(X.toList==T.toList)=false:=by
      rw[ByteArray.toList_eq,ByteArray.toList_eq,cB];exact fun q=>he (by rw[ByteArray.ext (Array.toList_inj.1 q)])
     have t2:decide ((X.size:Int)<(T.size:Int))=true:=aG (by omega);have t2n:decide (X.size<T.size)=true:=aG (by omega);have s1:X.size<=T.size:=hXs;have s2:(X.size:Int)<=(T.size:Int):=by omega
     go_wp2_with fail;refine(hra wr ⟨_,_,_,rfl,r1,r2,r3⟩ (hE.below hbr)).mono ?_;rintro e wz ⟨vz,rfl,dd,-,h14⟩;obtain⟨bi2,mi2,di2,bh2,mh2,dh2,br2,dr2,rfl,-⟩:=dd.open;have hbz:=aW hbr h14;generalize S2.Rs.length=rz at*
     clear hra dd h14 hDr r1 r2 r3 e0 e1 e2 e3 e4 e5 e6;go_wp2_with fail;go_ret;exact⟨rfl,bD (bD hbz _) _⟩
end Go.Proofs.YtfckbfofgeilgaaGreatDoor
