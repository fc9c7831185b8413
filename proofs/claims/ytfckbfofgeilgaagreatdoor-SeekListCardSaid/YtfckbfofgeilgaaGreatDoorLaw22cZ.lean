/-
  The walk of the statement SeekList.
-/
import Derived.Test.YtfckbfofgeilgaaGreatDoorZ31
import Derived.Test.YtfckbfofgeilgaaGreatDoorZ44
set_option linter.unusedVariables false
set_option linter.unusedSimpArgs false
set_option maxRecDepth 100000
set_option maxHeartbeats 12800000
namespace Go.Proofs.YtfckbfofgeilgaaGreatDoor
open Go.RowKit Go Go.Shelf
theorem RdI.takeN {w:World} {a:Option Addr} {c m:Nat} {l:List Int} (h:RdI w (.slice a l.length c) l) (hm:m<=l.length):RdI w (.slice a m c) (l.take m):=by
 obtain⟨a',c',e,h1,h2,h3⟩:=h
 injection e with e1 e2 e3
 subst e1 e3;have hl:(l.take m).length=m:=by rw[List.length_take];omega
 refine⟨a,c,by rw[hl],by rw[hl];omega,h2,?_⟩;rcases h3 with h3|⟨b,off,rfl,hb,hc⟩
 ·rw[List.map_eq_nil_iff] at h3;subst h3;exact .inl (by simp)
 ·refine .inr ⟨b,off,rfl,hb,fun j hj=>?_⟩;rw[List.length_map,hl] at hj;rw[hc j (by rw[List.length_map];omega),List.getD_eq_getElem?_getD,List.getD_eq_getElem?_getD,List.getElem?_map,List.getElem?_map,List.getElem?_take,aB hj]
theorem RdI.kept {w w':World} {g n:Nat} {v:Value} {l:List Int} (h:RdI w v l) (k:bK6 w w' g n) (h1:v.ownBlock≠some g) (h2:v.ownBlock≠some n):RdI w' v l:=by
 obtain⟨a,cap,rfl,i1,i2,i3⟩:=h;refine⟨a,cap,rfl,i1,i2,i3.imp id fun⟨b,off,e,hl,hc⟩=>⟨b,off,e,Nat.lt_of_lt_of_le hl k.size,fun j hj=>?_⟩⟩;subst e;rw[World.cell?_of_block (a:=⟨b,off+j,none⟩) (k.same b hl (fun q=>h1 (congrArg some q)) (fun q=>h2 (congrArg some q)))];exact hc j hj
theorem read_list {P:List Prt} {room:Int} (S:Dk) (hR:jA (gU 0 P)) (o m:Nat):∃(F J:Nat) (b0 la:Int),yF (gU 0 P) (o:Int) (m:Int)=(b0,la)/\bLe P room S o m=bMs P room J F S/\F+J<=P.length/\((J=0/\b0= -1/\la= -1)\/(1<=J/\b0=(F:Int)/\la=(F:Int)+J-1)):=by
 rcases bNs hR o m with⟨hc,-⟩|⟨f,e,hc,h1,h2,h3,h4,-⟩
 ·refine⟨0,0,-1,-1,hc,?_,Nat.zero_le _,.inl ⟨rfl,rfl,rfl⟩⟩;unfold bLe;rw[hc,aB (by decide)];rfl
 ·refine⟨f,e+1-f,f,e,hc,?_,by omega,.inr ⟨by omega,rfl,by omega⟩⟩;unfold bLe;rw[hc,aA (by omega),Int.toNat_natCast,Int.toNat_natCast]
theorem seekList_any (s:ByteArray) (v:Value) (raw:List (Int×Int)) (n0 n1 n2:Int) (v3:Value) (reads:List (Int×Int)) (w:World) (hE:dU w) (_hs:s.size<=maxLen) (hr:RdP w v raw) (hwf:WfP raw) (ha1: -9223372036854775808<=n0) (ha2:n0<=9223372036854775807) (hb1: -9223372036854775808<=n1) (hb2:n1<=9223372036854775807) (hc1: -9223372036854775808<=n2) (hc2:n2<=9223372036854775807) (hr2:RdP w v3 reads) (hwf2:WfP reads):
  Calls Tryz.prog 5 #[.string s,v,.agg #[.int .i64 n0,.int .i64 n1,.int .i64 n2],v3] w fun e w'=>e=.returned (.bool true)/\Below w.heap.size w w':=by
 have hN:=Arr.new w 60 [.int .i64 n0,.int .i64 n1,.int .i64 n2];have hb0:=bD (Below.refl w.heap.size w) (.cells #[.int .i64 n0,.int .i64 n1,.int .i64 n2] 60);change Arr (w.alloc (.cells #[.int .i64 n0,.int .i64 n1,.int .i64 n2] 60)) _ _ _ at hN;obtain⟨rm,hrm,hrm2⟩:=bS7 n2 (n:=4) (by decide);have hp4:=fun W=>bS6 n2 4 W hc1 hc2 (by decide) (by decide)
 rw[hrm] at hp4;clear hrm;have hr0:=hr.below hb0;have hE0:=hE.below hb0;obtain⟨va,vc,rfl,-,-,hvA⟩:=hr2;clear hr;go_enter Tryz.func5,Tryz.ntmps5;go_wp2_with fail;generalize w.alloc (.cells #[.int .i64 n0,.int .i64 n1,.int .i64 n2] 60)=w0 at*
 have hbz:w.heap.size<=w.heap.size:=Nat.le_refl _;obtain⟨tn,htn⟩:=ex1 (w.heap.size);rw[<-htn] at hN ⊢;have HTN:=hid htn;clear htn hbz;refine(bS1 _ hE0).mono ?_;rintro e w1 ⟨rfl,h1⟩;have hN1:=hN.below h1 hN.lt;have hr1:=hr0.below h1;have hE1:=hE0.below h1;have hb1':=aW hb0 h1;clear hN hr0 hE0 hb0 h1;have c0:=hN1.cell (i:=0) rfl;have c1:=hN1.cell (i:=1) rfl;go_wp2_with fail;refine(bHj s v raw n0 n1 _ hr1 hwf ha1 ha2 hb1 hb2).mono ?_;rintro e w2 ⟨a,rfl,ha,h2⟩;obtain⟨f1,f2,-⟩:=ha.facts;obtain⟨f3,f4,f5⟩:=ha.desk;have hgood:=fun p (h:p∈eY a.data.toList)=>aJh p h
 have hN2:=hN1.below h2 hN1.lt;have hE2:=hE1.below h2;have hb2':=aW hb1' h2;clear hN1 hr1 hE1 hb1' h2 hwf c0 c1 ha;have hsc:=fun W h=>GK a W h (by omega)
 have hop:=fun W h=>bOk a (1+(rm:Int)) 1 W h (by omega) (by omega) (by decide)
 rw[f2] at hsc hop;generalize eY a.data.toList=P at*
 go_wp2_with fail;refine(hsc _ hE2).mono ?_;rintro e w3 ⟨vl,rfl,hL3,h3⟩;have hN3:=hN2.below h3 hN2.lt;have hE3:=hE2.below h3;have hb3':=aW hb2' h3;clear hN2 hE2 hb2' h3;have c2:=hN3.cell (i:=2) rfl;have m2:IntKind.i64.wrap (1+(rm:Int))=1+(rm:Int):=by rw[IntKind.wrap_i64];omega
 go_wp2_with fail;refine(hp4 _).mono ?_;rintro e w3 ⟨rfl,rfl⟩;go_wp2_with fail;refine(hop _ hE3).mono ?_;rintro e w4 hq;obtain⟨v4,rfl,dd,h4⟩:=hq.ok;have hL4:=hL3.below h4;have hb4':=aW hb3' h4;have g0:bK7 P (1+(rm:Int)) (bLk (1:Int).toNat):=bPx f4 (by omega) (by omega) (by omega) (by decide);have hRs:(bLk (1:Int).toNat).Rs=[bK8]:=rfl;have hck:(bLk (1:Int).toNat).clock=0/\(bLk (1:Int).toNat).dec=0/\(bLk (1:Int).toNat).Hs=[]:=⟨rfl,rfl,rfl⟩;generalize bLk (1:Int).toNat=S at*
 obtain⟨ai,ni,ci,ah,nh,ch,ar,cr,rfl,q1,q2,q3⟩:=dd.open;have hnr:S.Rs.length=1:=by rw[hRs];rfl
 rw[hnr] at q3 ⊢;have HRS:=hid hRs;have HCK:=hid hck;clear hRs hck hq dd h4 hL3 hE3 hb3' hN3 c2 hop hnr;have hbx:=bD (Below.refl w4.heap.size w4) (.cells #[.string a,.slice ai ni ci,.int .i64 (1+(rm:Int)),.int .i64 S.clock,.slice ah nh ch,.slice ar 1 cr,.int .i64 S.dec] 40);have hD:=Arr.new w4 40 [.string a,.slice ai ni ci,.int .i64 (1+(rm:Int)),.int .i64 S.clock,.slice ah nh ch,.slice ar 1 cr,.int .i64 S.dec];change Arr (w4.alloc (.cells #[.string a,.slice ai ni ci,.int .i64 (1+(rm:Int)),.int .i64 S.clock,.slice ah nh ch,.slice ar 1 cr,.int .i64 S.dec] 40)) _ _ _ at hD
 replace q1:=q1.below hbx
 replace q2:=q2.below hbx
 replace q3:=q3.below hbx
 have hL5:=hL4.below hbx;have hb5:=aW hb4' hbx;have hdz:w.heap.size<=w4.heap.size:=hb4'.size;have nV:=(RdZ.of hL4).out (b:=w4.heap.size) (Nat.le_refl _);clear hL4 hb4' hbx;go_upto_region 6 with fail;generalize w4.alloc (.cells #[.string a,.slice ai ni ci,.int .i64 (1+(rm:Int)),.int .i64 S.clock,.slice ah nh ch,.slice ar 1 cr,.int .i64 S.dec] 40)=w5 at*
 generalize w4.heap.size=dz at*
 go_wp2_with fail
 go_loopg [8,16,17,18,19,20,21,22,23,24,25,26,27,28,29] 30 (fun g s8 s16 s17 s18 _s19 _s20 _s21 _s22 _s23 _s24 _s25 _s26 _s27 _s28 _s29 wr=>∃(j:Nat) (S1:Dk) (bi bh br:Option Addr) (mi di mh dh dr:Nat),g=30-j/\j<=30/\s8=.bool false/\s17=.int .i64 S1.dec/\s18=.int .i64 (j:Int)/\bK7 P (1+(rm:Int)) S1/\(S1.clock<=6000*j/\S1.dec<=6000*j)/\Hid (S1.Rs=[bK8])/\Arr wr dz 40 [.string a,.slice bi mi di,.int .i64 (1+(rm:Int)),.int .i64 S1.clock,.slice bh mh dh,.slice br 1 dr,.int .i64 S1.dec]/\(RdR wr (.slice bi mi di) ((gU 0 P).map bG)/\RdR wr (.slice bh mh dh) ((byB S1.Hs).map mX)/\RdR wr (.slice br 1 dr) (S1.Rs.map bK3))/\(RdI wr s16 (S1.Hs.map Hld.b)/\∀b,s16.ownBlock=some b->dz<b)/\RdR wr vl ((gU 0 P).map bG)/\Below w.heap.size w wr)
 case atStart=>
  obtain⟨k1,k2,k3⟩:=HCK.out;exact⟨0,S,ai,ah,ar,ni,ci,nh,ch,cr,rfl,Nat.zero_le _,rfl,by rw[k2],rfl,g0,by omega,HRS,hD,⟨q1,q2,q3⟩,⟨by rw[k3];exact(OwI.nil _ 0).rd,fun b q=>by cases q⟩,hL5,hb5⟩
 case round=>
  obtain⟨j,S1,bi,bh,br,mi,di,mh,dh,dr,hg,hj,rfl,rfl,rfl,hgS,hck,HR1,hDr,⟨r1,r2,r3⟩,⟨hLr,hLo⟩,hVr,hbr⟩:=hrel;have HG:=hid hg;clear hg q1 q2 q3 hL5 hD hb5 g0 HCK HRS
  by_cases hin:j<reads.length/\j<30
  rotate_left
  ·by_cases hjl:j<reads.length
   ·have t1:decide ((j:Int)<(reads.length:Int))=true:=aG (by omega);have t1n:decide (j<reads.length)=true:=aG hjl;have t2:decide ((j:Int)<30)=false:=aE (by omega);go_wp2_with fail;go_ret;exact⟨rfl,hbr⟩
   ·have t1:decide ((j:Int)<(reads.length:Int))=false:=aE (by omega);have t1n:decide (j<reads.length)=false:=aE hjl;go_wp2_with fail;go_ret;exact⟨rfl,hbr⟩
  ·obtain⟨hjl,hj30⟩:=hin;have t1:decide ((j:Int)<(reads.length:Int))=true:=aG (by omega);have t1n:decide (j<reads.length)=true:=aG hjl;have t2:decide ((j:Int)<30)=true:=aG (by omega);obtain⟨p,hp⟩:∃p,reads[j]? =some p:=⟨_,List.getElem?_eq_getElem hjl⟩;obtain⟨⟨hx1,hx2⟩,hy1,hy2⟩:=hwf2 p (List.mem_of_getElem? hp);obtain⟨lb,lo,rfl,hlb,hlc⟩:=hvA (by omega);obtain⟨hcx,hcy⟩:=hlc j p hp;obtain⟨x,y⟩:=p;have cx:=(hbr.cell (p:=⟨lb,lo+j*2,none⟩) hlb).trans hcx;have cy:=(hbr.cell (p:=⟨lb,lo+j*2+1,none⟩) hlb).trans hcy;obtain⟨o,ho,ho2⟩:=bS7 x (n:=400) (by decide)
   obtain⟨m,hm,hm2⟩:=bS7 y (n:=200) (by decide);have hpo:=fun W=>bS6 x 400 W hx1 hx2 (by decide) (by decide)
   have hpm:=fun W=>bS6 y 200 W hy1 hy2 (by decide) (by decide)
   rw[ho] at hpo;rw[hm] at hpm;have hyr:S1.Rs[0]? =some bK8:=by rw[HR1.out];rfl
   have hra:=fun W h1 h2=>bM0 (w:=W) (v:=bLa a (.slice bi mi di) (1+(rm:Int)) S1.clock (.slice bh mh dh) (.slice br 1 dr) S1.dec) h1 hgS (by omega) (by omega) (by omega) h2 (by omega) hgood hyr o m (by omega) (by omega)
   obtain⟨gS2,k1,k2,k3⟩:=bNc hgS hyr o m (by omega) (by omega) (by omega);obtain⟨F,J,b0,la,hcv,hrd,hFJ,hbl⟩:=read_list (room:=1+(rm:Int)) S1 f4 o m;have hsl:=NK P 0;have hcov:=fun W h=>aKn vl (gU 0 P) (o:Int) (m:Int) W h (by omega) (by omega) (by omega) (by omega) (by omega)
   rw[hcv] at hcov;have hRS2:=hid (k3.trans HR1.out);have hnr2:(bLe P (1+(rm:Int)) S1 o m).Rs.length=1:=by rw[k3,HR1.out];rfl
   generalize bLe P (1+(rm:Int)) S1 o m=S2 at*
   have HRD:=hid hrd;obtain⟨X2,hX2⟩:=ex1 (bLq (iH (P.map Prt.t)) o m);obtain⟨c2,hc2⟩:=ex1 (bLj (iH (P.map Prt.t)).size o m);rw[<-hX2,<-hc2] at hra;clear hp hlc hcx hcy ho hm k3 hrd hcv hX2 hc2 hvA;go_wp2_with fail;refine(hpo _).mono ?_;rintro e wr ⟨rfl,rfl⟩;go_wp2_with fail;refine(hpm _).mono ?_;rintro e wr ⟨rfl,rfl⟩;have e0:=hDr.cell (i:=0) rfl;have e1:=hDr.cell (i:=1) rfl;have e2:=hDr.cell (i:=2) rfl;have e3:=hDr.cell (i:=3) rfl;have e4:=hDr.cell (i:=4) rfl;have e5:=hDr.cell (i:=5) rfl;have e6:=hDr.cell (i:=6) rfl;go_wp2_with fail
   refine(hra wr ⟨_,_,_,rfl,r1,r2,r3⟩ (hE.below hbr)).mono ?_;rintro e w6 ⟨v6,rfl,dd,ff,h6⟩;obtain⟨ai2,ni2,ci2,ah2,nh2,ch2,ar2,cr2,rfl,p1,p2,p3⟩:=dd.open;rw[hnr2] at p3 ff ⊢;have lD:=hDr.lt;have hD6:=hDr.below h6 hDr.lt;have hL6:=hLr.below h6;have hV6:=hVr.below h6;have hb6:=aW hbr h6;have lz:=hDr.lt;clear hDr hLr hVr hbr dd h6 r1 r2 r3 e0 e1 e2 e3 e4 e5 e6 hra hpo hpm cx cy hnr2;go_upto_region 18 with fail
   have hbx:=bD (bD (Below.refl w6.heap.size w6) (.cells #[.string X2,.int .i64 c2] 47)) (.cells #[.string a,.slice ai2 ni2 ci2,.int .i64 (1+(rm:Int)),.int .i64 S2.clock,.slice ah2 nh2 ch2,.slice ar2 1 cr2,.int .i64 S2.dec] 40);have hB7:=Arr.new (w6.alloc (.cells #[.string X2,.int .i64 c2] 47)) 40 [.string a,.slice ai2 ni2 ci2,.int .i64 (1+(rm:Int)),.int .i64 S2.clock,.slice ah2 nh2 ch2,.slice ar2 1 cr2,.int .i64 S2.dec];rw[World.size_alloc] at hB7
   change Arr ((w6.alloc (.cells #[.string X2,.int .i64 c2] 47)).alloc (.cells #[.string a,.slice ai2 ni2 ci2,.int .i64 (1+(rm:Int)),.int .i64 S2.clock,.slice ah2 nh2 ch2,.slice ar2 1 cr2,.int .i64 S2.dec] 40)) _ _ _ at hB7;have hD7:=hD6.below hbx hD6.lt;have hL7:=hL6.below hbx;have hV7:=hV6.below hbx;have hb7:=aW hb6 hbx
   replace p1:=p1.below hbx
   replace p2:=p2.below hbx
   replace p3:=p3.below hbx
   have hlt6:dz<w6.heap.size:=hD6.lt;obtain⟨b22,hb22⟩:=ex1 (w6.heap.size+1);have lB:dz<b22:=by omega
   rw[<-hb22] at hB7;simp only[World.size_alloc,<-hb22];clear hbx hD6 hL6 hV6 hb6 hb22 hlt6;generalize (w6.alloc (.cells #[.string X2,.int .i64 c2] 47)).alloc (.cells #[.string a,.slice ai2 ni2 ci2,.int .i64 (1+(rm:Int)),.int .i64 S2.clock,.slice ah2 nh2 ch2,.slice ar2 1 cr2,.int .i64 S2.dec] 40)=w7 at*
   have o0:=hB7.cell (i:=0) rfl;have o1:=hB7.cell (i:=1) rfl;have o2:=hB7.cell (i:=2) rfl;have o3:=hB7.cell (i:=3) rfl;have o4:=hB7.cell (i:=4) rfl;have o5:=hB7.cell (i:=5) rfl;have o6:=hB7.cell (i:=6) rfl;have e0:=hD7.cell (i:=0) rfl;have e1:=hD7.cell (i:=1) rfl;have e2:=hD7.cell (i:=2) rfl;have e3:=hD7.cell (i:=3) rfl;have e4:=hD7.cell (i:=4) rfl;have e5:=hD7.cell (i:=5) rfl;have e6:=hD7.cell (i:=6) rfl;have f0:=hD7.free 0;have f1:=hD7.free 1;have f2:=hD7.free 2;have f3:=hD7.free 3;have f4:=hD7.free 4;have f5:=hD7.free 5;have f6:=hD7.free 6;have ld:=hD7.lt
   obtain⟨hD8,p1,p2,p3,hb8,hkk⟩:=bMt hD7 p1 p2 p3 ff lD hb7 hdz rfl;have hL8:=hL7.kept hkk (fun q=>Nat.lt_irrefl _ (hLo _ q)) (fun q=>Nat.lt_irrefl _ (hLo _ q));have hV8:=bS8 hV7 hkk nV nV;clear hD7 hL7 hV7 hb7 ff hB7 hkk;go_wp2_with fail;refine(hcov _ hV8).mono ?_;rintro e w9 ⟨rfl,h9⟩;have hD9:=hD8.below h9 hD8.lt;have hL9:=hL8.below h9;have hV9:=hV8.below h9;have hb9:=aW hb8 h9
   replace p1:=p1.below h9
   replace p2:=p2.below h9
   replace p3:=p3.below h9
   have l9:dz<w9.heap.size:=hD9.lt;have hlen:=hgS.shelf.len;clear h9 hD8 hL8 hV8 hb8 o0 o1 o2 o3 o4 o5 o6 e0 e1 e2 e3 e4 e5 e6 f0 f1 f2 f3 f4 f5 f6 ld lB hcov;have hdec:=fun q=>bTe P (1+(rm:Int)) q F S1
   have hd0:=hgS.d0;have hFL:∀q,(bMs P (1+(rm:Int)) (q+1) F S1).Hs.map Hld.b=(((F+q:Nat):Int)::((bMs P (1+(rm:Int)) q F S1).Hs.map Hld.b).filter (fun x=>decide (x≠((F+q:Nat):Int)))).take (rm+1):=fun q=>by
    rw[bTc,bTh,show(1+(rm:Int)).toNat=rm+1 by omega]
   have hFD:∀q,(bMs P (1+(rm:Int)) (q+1) F S1).dec=if decide (((F+q:Nat):Int)∈(bMs P (1+(rm:Int)) q F S1).Hs.map Hld.b)=true then(bMs P (1+(rm:Int)) q F S1).dec else(bMs P (1+(rm:Int)) q F S1).dec+1:=fun q=>by
    rw[bTc,bTd]
   have hS0:bMs P (1+(rm:Int)) 0 F S1=S1:=rfl;generalize bMs P (1+(rm:Int))=FS at*
   have HFL:=hid hFL;have HFD:=hid hFD;have HS0:=hid hS0;clear hFL hFD hS0;go_wp2_with fail
   go_loopg [16,17,26,27,28,29] J (fun g s16 s17 s26 _s27 _s28 _s29 wr=>∃(q:Nat) (bb D:Int) (L:List Int),g=J-q/\q<=J/\s26=.int .i64 bb/\bb=b0+q/\s17=.int .i64 D/\Hid (D=(FS q F S1).dec)/\Hid (L=(FS q F S1).Hs.map Hld.b)/\L.length<=4/\RdI wr s16 L/\(∀b,s16.ownBlock=some b->dz<b)/\Below w9.heap.size w9 wr)
   case atStart=>exact⟨0,b0,S1.dec,S1.Hs.map Hld.b,rfl,Nat.zero_le _,rfl,by omega,rfl,hid (by rw[HS0.out]),hid (by rw[HS0.out]),by rw[List.length_map];omega,hL9,hLo,Below.refl _ _⟩
   case round=>
    obtain⟨q,bb,D,L,hg2,hq,rfl,hbb,rfl,HDD,HLL,hLl,hLq,hLoq,hb9r⟩:=hrel;have HG2:=hid hg2;clear hg2 hL9 hLo;go_upto_region 21 with fail
    go_cut [106] (fun c106 wx=>c106=.bool (decide (q<J))/\wx=wr)
    case first=>
     rcases hbl with⟨h1,h2,h3⟩|⟨h1,h2,h3⟩
     ·have hbn:bb= -1:=by omega
      have t3:decide (bb>=0)=false:=aE (by omega);have t3n:decide (0<=bb)=false:=aE (by omega);have t4:decide (q<J)=false:=aE (by omega);clear hbn hbb h1 h2 h3;go_wp2_with fail;go_meet;exact⟨by rw[t4],rfl⟩
     ·have t3:decide (bb>=0)=true:=aG (by omega);have t3n:decide (0<=bb)=true:=aG (by omega);have t4:decide (bb<=la)=decide (q<J):=by rw[decide_eq_decide];omega
      have T4:=hid t4;clear hbb h1 h2 h3 t4;go_wp2_with fail;go_meet;exact⟨by rw[T4.out],rfl⟩
    case rest=>
     obtain⟨rfl,hwc⟩:=hcut;have hwc:=hwc.symm;subst hwc
     by_cases hqJ:q<J
     rotate_left
     ·have t4:decide (q<J)=false:=aE hqJ;obtain rfl:q=J:=by omega
      obtain rfl:D=S2.dec:=by rw[HDD.out,HRD.out]
      rw[HLL.out,<-HRD.out] at hLq;have hDe:=hD9.below hb9r hD9.lt
      replace p1:=p1.below hb9r
      replace p2:=p2.below hb9r
      replace p3:=p3.below hb9r
      have hVe:=hV9.below hb9r;have hbe:=aW hb9 hb9r;have hor:=bRa (.slice ah2 nh2 ch2) (1+(rm:Int)) S2.clock (byB S2.Hs) S2.Hs wr p2 gS2.shelf.okH (by rw[gS2.shelf.perm.length_eq];have:=gS2.shelf.len;omega) gS2.shelf.perm.symm gS2.shelf.ord;have e2:=hDe.cell (i:=2) rfl;have e3:=hDe.cell (i:=3) rfl;have e4:=hDe.cell (i:=4) rfl;have e6:=hDe.cell (i:=6) rfl;have jw:IntKind.i64.wrap ((j:Int)+1)=((j+1:Nat):Int):=by rw[IntKind.wrap_i64];omega
      have jw2:(j:Int)+1=((j+1:Nat):Int):=by omega
      obtain⟨J1,hJ1⟩:=ex1 (j+1);rw[<-hJ1] at jw jw2;have HJ:=hid hJ1;clear hJ1 hD9 hV9 hb9 hb9r HDD HLL HRD HFL HFD HS0 hbl hbb hdec t1 t1n t2 hFJ hLl;go_wp2_with fail;refine hor.mono ?_;rintro e w10 ⟨u,rfl,hu,h10⟩;have hL10:=hLq.below h10;have hin:=bDm u _ _ w10 hu hL10;clear hor;go_wp2_with fail;refine hin.mono ?_;rintro e w11 ⟨rfl,h11⟩;have hbf:=aW h10 h11;clear hin hu hL10 e2 e3 e4 e6;go_wp2_with fail;have hg:=HG.out
      go_roundg (30-(j+1))
      ·exact⟨j+1,S2,ai2,ah2,ar2,ni2,ci2,nh2,ch2,cr2,rfl,by omega,rfl,rfl,by rw[HJ.out],gS2,by omega,hRS2,hDe.below hbf hDe.lt,⟨p1.below hbf,p2.below hbf,p3.below hbf⟩,⟨hLq.below hbf,hLoq⟩,hVe.below hbf,aW hbe hbf⟩
      ·omega
     ·have t4:decide (q<J)=true:=aG hqJ;obtain⟨k,hk⟩:=ex1 (F+q);have hkb:bb=(k:Int):=by omega
      subst hkb;have HFLq:=hid (HFL.out q);have HFDq:=hid (HFD.out q);rw[<-hk,<-HLL.out] at HFLq;rw[<-hk,<-HLL.out,<-HDD.out] at HFDq;have hDb:0<=D/\D<=200000:=by have:=hdec q;have:=HDD.out;omega
      have hkb:k<=100:=by omega
      have HK:=hid hbb;obtain⟨la2,lc2,rfl,-,-,hlA⟩:=hLq.open;have hRest:OwI (wr.alloc (.cells #[.int .i64 (k:Int)] 3)) wr.heap.size (.slice (some ⟨wr.heap.size,0,none⟩) 1 1) [(k:Int)]:=(Arr.new wr 3 [.int .i64 (k:Int)]).own (Nat.le_refl _) (show 1<=maxLen by decide);have hbx:=bD (Below.refl wr.heap.size wr) (.cells #[.int .i64 (k:Int)] 3);have ldz:dz<wr.heap.size:=by have:=hb9r.size;omega
      clear hbb hk HLL HDD HFL HFD hLq hdec t1 t1n t2 hbl HRD HS0;go_wp2_with fail;obtain⟨wa,rfl⟩:∃W:World,W=wr:=⟨_,rfl⟩
      go_loopg [27,28,29] L.length (fun g s27 s28 s29 wr=>∃(t:Nat) (hd:Bool) (M:List Int),g=L.length-t/\t<=L.length/\s28=.bool hd/\s29=.int .i64 (t:Int)/\Hid (hd=decide ((k:Int)∈L.take t))/\Hid (M=(k:Int)::(L.take t).filter (fun x=>decide (x≠(k:Int))))/\M.length<=1+t/\OwI wr wa.heap.size s27 M/\Below wa.heap.size wa wr)
      case atStart=>exact⟨0,false,[(k:Int)],rfl,Nat.zero_le _,rfl,rfl,hid (by simp),hid (by simp),Nat.le_refl _,hRest,hbx⟩
      case round=>
       obtain⟨t,hd,M,hg3,ht,rfl,rfl,HHD,HM,hMl,hM,hbw⟩:=hrel;have HG3:=hid hg3;clear hg3 hRest hbx
       by_cases htl:t<L.length
       rotate_left
       ·obtain rfl:t=L.length:=by omega
        have hh:=HHD.out;have hm':=HM.out;rw[List.take_length] at hh hm';have t5:decide ((L.length:Int)<(L.length:Int))=false:=aE (by omega);have t5n:decide (L.length<L.length)=false:=aE (by omega);obtain⟨y,hy⟩:=ex1 (min M.length (rm+1));have y1:(if(M.length:Int)<1+(rm:Int) then(M.length:Int) else 1+(rm:Int))=(y:Int):=by split<;>omega
        have y2:min (M.length:Int) (1+(rm:Int))=(y:Int):=by omega
        have y3:y<=M.length:=by omega
        have hty:M.take y=M.take (rm+1):=by
         rcases Nat.le_total M.length (rm+1) with h|h
         ·rw[hy,Nat.min_eq_left h,List.take_of_length_le (Nat.le_refl _),List.take_of_length_le h]
         ·rw[hy,Nat.min_eq_right h]
        obtain⟨ma,mc,rfl,hmc,hmx,hma⟩:=hM.rd.open;have hsub:=RdI.takeN hM.rd y3;rw[hty,hm',<-HFLq.out] at hsub;have hlen4:((FS (q+1) F S1).Hs.map Hld.b).length<=4:=by rw[HFLq.out,List.length_take];omega
        have y4:(y:Int)<=(mc:Int):=by omega
        have y5:=tE y (by omega);obtain⟨mb,mo,rfl,-⟩:=hma (by rw[hm'];exact Nat.succ_pos _);have hown:∀b,(Value.slice (some ⟨mb,mo,none⟩) y mc).ownBlock=some b->dz<b:=fun b e=>by have:=(Ow.lt hM b e).1;omega
        have hyc:y<=mc:=by omega
        have kw:IntKind.i64.wrap ((k:Int)+1)=((k+1:Nat):Int):=by rw[IntKind.wrap_i64];omega
        have kw2:(k:Int)+1=((k+1:Nat):Int):=by omega
        obtain⟨K1,hK1⟩:=ex1 (k+1);rw[<-hK1] at kw kw2;have HK1:=hid hK1;have HY:=hid hy;have hbz:=aW hb9r hbw;have h01:=HFDq.out;clear hK1 hy hty hm' HHD HM HFLq HFDq hma hM hlA hMl y3 HG3
        cases hd with
        |false=>
         rw[aA (by rw[<-hh];decide)] at h01;have HD1:=hid h01.symm;have d1:IntKind.i64.wrap (D+1)=(FS (q+1) F S1).dec:=by rw[h01,IntKind.wrap_i64];omega
         have d2:D+1=(FS (q+1) F S1).dec:=h01.symm;clear h01 hh;obtain⟨D1,hD1⟩:=ex1 ((FS (q+1) F S1).dec);rw[<-hD1] at d1 d2 HD1
         replace HD1:=hid hD1
         clear hD1;go_wp2_with fail;have hg:=HG2.out
         go_roundg (J-(q+1))
         ·exact⟨q+1,(K1:Int),D1,_,rfl,by omega,rfl,by have:=HK.out;have:=HK1.out;omega,rfl,HD1,hid rfl,hlen4,hsub,hown,hbz⟩
         ·omega
        |true=>
         rw[aB hh.symm] at h01;have HD1:=hid h01.symm;clear h01 hh;go_wp2_with fail;have hg:=HG2.out
         go_roundg (J-(q+1))
         ·exact⟨q+1,(K1:Int),D,_,rfl,by omega,rfl,by have:=HK.out;have:=HK1.out;omega,rfl,HD1,hid rfl,hlen4,hsub,hown,hbz⟩
         ·omega
       ·obtain⟨x,hx⟩:=eG htl;obtain⟨lb2,lo2,rfl,hlb2,hlc2⟩:=hlA (by omega);have cx:=(hbw.cell (p:=⟨lb2,lo2+t,none⟩) hlb2).trans (hlc2 t x hx);have t5:decide ((t:Int)<(L.length:Int))=true:=aG (by omega);have t5n:decide (t<L.length)=true:=aG htl;have hmem:L.take (t+1)=L.take t++[x]:=by rw[List.take_add_one,hx];rfl
        have HMEM:=hid hmem;have tw:IntKind.i64.wrap ((t:Int)+1)=((t+1:Nat):Int):=by rw[IntKind.wrap_i64];omega
        have tw2:(t:Int)+1=((t+1:Nat):Int):=by omega
        obtain⟨T1,hT1⟩:=ex1 (t+1);rw[<-hT1] at tw tw2;have HT1:=hid hT1;have hsw:=hbw.size;clear hx hlc2 hmem hT1 hlA HFLq HFDq
        by_cases hxk:x=(k:Int)
        ·have HXK:=hid hxk;have u1:(x==(k:Int))=true:=by rw[hxk];exact beq_self_eq_true _
         have u2:decide (x=(k:Int))=true:=aG hxk;clear hxk;go_wp2_with fail;have hg:=HG3.out
         go_roundg (L.length-(t+1))
         ·exact⟨t+1,true,M,rfl,by omega,rfl,by rw[HT1.out],hid (by rw[HMEM.out,HXK.out];simp),hid (by rw[HMEM.out,HXK.out,List.filter_append,HM.out];simp),by omega,hM,hbw⟩
         ·omega
        ·have HXK:=hid hxk;have u1:(x==(k:Int))=false:=beq_eq_false_iff_ne.2 hxk;have u2:decide (x=(k:Int))=false:=aE hxk;clear hxk;go_wp2_with (at_builtin;refine gK rfl _ _ rfl wa.heap.size _ _ rfl (OwI.alloc hM _) _ x rfl (bX _ _ _) ?_ ?_ ?_;(omega);(simp;omega);intro v4 w4 r1 r2 r3);have hg:=HG3.out
         go_roundg (L.length-(t+1))
         ·exact⟨t+1,hd,M++[x],rfl,by omega,rfl,by rw[HT1.out],hid (by rw[HMEM.out,HHD.out];simp[Ne.symm HXK.out]),hid (by rw[HMEM.out,List.filter_append,HM.out];simp[HXK.out]),by rw[List.length_append];show M.length+1<=_;omega,r1,(hbw.alloc hsw _).trans r2⟩
         ·omega
end Go.Proofs.YtfckbfofgeilgaaGreatDoor
