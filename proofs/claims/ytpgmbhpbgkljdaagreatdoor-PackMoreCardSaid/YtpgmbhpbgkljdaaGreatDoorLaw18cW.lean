/-
  The walk of the statement PackMore.
-/
import Derived.Test.YtpgmbhpbgkljdaaGreatDoorW6
set_option maxRecDepth 100000
set_option maxHeartbeats 12800000
set_option linter.unusedVariables false
set_option linter.unusedSimpArgs false
namespace Go.Proofs.YtpgmbhpbgkljdaaGreatDoor
open Go.RowKit Go Go.Shelf
theorem pcT_more {n:Nat} (h1:1<=n) {x y:ByteArray} (hx:pcT n x≠[]):∃(K:Nat) (c b:ByteArray),(pcT n x).length=K+1/\K+1<=(pcT n (x++y)).length/\(∀k,k<K->(pcT n (x++y))[k]? =(pcT n x)[k]?)/\(pcT n x)[K]? =some b/\(pcT n (x++y))[K]? =some c/\b.size<=c.size/\c.extract 0 b.size=b:=by
 have hne:x.data.toList≠[]:=fun q=>hx (by unfold pcT;rw[q];rfl)
 obtain⟨a,b,c,z,e,e1,e2,e3⟩:=picL_more (room:=40*n) (by omega) y.data.toList x.data.toList hne;have f1:pcT n x=a.map mkS++[mkS b]:=by unfold pcT;rw[e1,List.map_append];rfl
 have f2:pcT n (x++y)=a.map mkS++mkS c::e.map mkS:=by
  unfold pcT;rw[ByteArray.data_append,Array.toList_append,e3,List.map_append,List.map_cons]
 have hl:(a.map mkS).length=a.length:=List.length_map ..;refine⟨a.length,mkS c,mkS b,by rw[f1,List.length_append,hl];rfl,by rw[f2,List.length_append,hl,List.length_cons];omega,fun k hk=>?_,?_,?_,?_,?_⟩
 ·rw[f1,f2,List.getElem?_append_left (by omega),List.getElem?_append_left (by omega)]
 ·rw[f1,List.getElem?_append_right (by omega),hl,Nat.sub_self];rfl
 ·rw[f2,List.getElem?_append_right (by omega),hl,Nat.sub_self];rfl
 ·rw[cP,cP,e2,List.length_append];omega
 ·refine ByteArray.ext (Array.toList_inj.1 ?_);rw[extT18,fW,fW,cP,e2,List.take_left]
theorem packMore_any (s:ByteArray) (v:Value) (raw:List (Int×Int)) (t:ByteArray) (level:Int) (w:World) (hE:iF w) (_hs:s.size<=maxLen) (hr:RdP w v raw) (hwf:WfP raw) (_ht:t.size<=maxLen) (hl1: -9223372036854775808<=level) (hl2:level<=9223372036854775807):
  Calls Tryz.prog 10 #[.string s,v,.string t,.int .i64 level] w fun e w'=>e=.returned (.bool true)/\Below w.heap.size w w':=by
 obtain⟨qa,n,n1,n9,ma,ma',pka⟩:=lev18_any level hl1 hl2;obtain⟨m,hmi,hm1,hm2⟩:=yI s.size 80 (by decide);have hmi2:min (s.size:Int) 80=(m:Int):=by rw[<-hmi,Int.min_def];split<;>split<;>omega
 obtain⟨X,hX⟩:∃X,X=s.extract 0 m:=⟨_,rfl⟩;have hXs:X.size<=80:=by rw[hX];simp;omega
 have hX':=hX.symm;have q1:(m:Int)<=(s.size:Int):=by omega
 obtain⟨m',hmj,hm3,hm4⟩:=yI t.size 80 (by decide);have hmj2:min (t.size:Int) 80=(m':Int):=by rw[<-hmj,Int.min_def];split<;>split<;>omega
 obtain⟨Z,hZ⟩:∃Z,Z=t.extract 0 m':=⟨_,rfl⟩;have hZs:Z.size<=80:=by rw[hZ];simp;omega
 have hZ':=hZ.symm;have q2:(m':Int)<=(t.size:Int):=by omega
 clear hX hZ;go_enter Tryz.func10,Tryz.ntmps10;go_wp2_with fail;refine(awake18_any _ hE).mono ?_;rintro e w1 ⟨rfl,h1⟩;have hr1:=hr.below h1;clear hr hE;go_wp2_with fail;refine(text18_any X v raw 400 _ hr1 hwf (by omega) (by decide)).mono ?_;rintro e w2 ⟨Y,rfl,hY,h2⟩;have h02:=bV h1 h2;have x1:¬9223372036854775807<Y.size+Z.size:=by omega
 obtain⟨YZ,hYZ⟩:∃YZ,YZ=Y++Z:=⟨_,rfl⟩;have hYZs:YZ.size<=480:=by rw[hYZ,ByteArray.size_append];omega
 have hYZ':=hYZ.symm;have hmore:=fun(h:pcT n Y≠[])=>pcT_more (n:=n) n1 (x:=Y) (y:=Z) h
 rw[<-hYZ] at hmore;have HM:=hid hmore;have hpc:=fun W=>pieces18_any n Y W (by omega) n1 n9
 rw[show(picL (40*n) Y.data.toList).map mkS=pcT n Y from rfl] at hpc;have hpd:=fun W=>pieces18_any n YZ W (by omega) n1 n9
 rw[show(picL (40*n) YZ.data.toList).map mkS=pcT n YZ from rfl] at hpd;have hlY:=pcT_len n1 Y;clear h1 h2 hr1 hwf hX' hmi hmi2 hm1 hm2 q1 hXs hYZ hmore;go_wp2_with fail;clear hZ' hmj hmj2 hm3 hm4 q2 x1 hYZ';refine(pka _).mono ?_;rintro e w' ⟨rfl,rfl⟩;obtain⟨L,hL⟩:∃L,L=pcT n Y:=⟨_,rfl⟩;obtain⟨M,hM⟩:∃M,M=pcT n YZ:=⟨_,rfl⟩;rw[<-hL] at hpc HM hlY;rw[<-hM] at hpd HM;clear hL hM pka;go_wp2_with fail;refine(hpc _).mono ?_;rintro e w3 ⟨v3,rfl,hv3,h3⟩;have h03:=bV h02 h3;go_wp2_with fail;refine(hpd _).mono ?_;rintro e w4 ⟨v4,rfl,hv4,h4⟩;have hv34:=hv3.below h4;have h04:=bV h03 h4
 obtain⟨a,ca,rfl,hca,hma,hA⟩:=hv34.open;obtain⟨a',ca',rfl,hca',hma',hA'⟩:=hv4.open;unfold maxLen at hma hma';clear hv3 hv4 hv34 h3 h4 h02 h03 hpc hpd ma ma';have hge:L.length<=M.length:=by
  by_cases h:L=[]
  ·rw[h];exact Nat.zero_le _
  ·obtain⟨K,c,b,k1,k2,-⟩:=HM.out h;omega
 have u0:decide ((M.length:Int)<(L.length:Int))=false:=decide_eq_false (by omega);have u0':decide (M.length<L.length)=false:=decide_eq_false (by omega);go_wp2_with fail;clear u0 u0'
 go_loopg [17] L.length (fun g s17 wr=>∃k:Nat,k<=L.length/\g=L.length-k/\s17=.int .i64 (k:Int)/\Below w4.heap.size w4 wr)
 case atStart=>exact⟨0,Nat.zero_le _,rfl,rfl,Below.refl _ _⟩
 case round=>
  obtain⟨k,hk,hg,rfl,hbel⟩:=hrel;have HG:=hid hg;clear hg;obtain⟨k1,hk1⟩:∃k1,k1=k+1:=⟨_,rfl⟩;have m1:IntKind.i64.wrap ((k:Int)+1)=(k1:Int):=by rw[show(k:Int)+1=(k1:Int) by omega];exact nat_wI k1 (by omega)
  have m1':(k:Int)+1=(k1:Int):=by omega
  by_cases hlt:k1<L.length
  ·have t1:decide ((k1:Int)<(L.length:Int))=true:=decide_eq_true (by omega);have t1':decide (k1<L.length)=true:=decide_eq_true hlt;have hne:L≠[]:=fun q=>by rw[q] at hlt;simp at hlt
   obtain⟨K,c,b,e1,e2,e3,-⟩:=HM.out hne;obtain⟨x,hx⟩:∃x,L[k]? =some x:=⟨_,List.getElem?_eq_getElem (by omega)⟩;have hy:=e3 k (by omega);rw[hx] at hy;obtain⟨b1,o1,rfl,hb1,hc1⟩:=hA (by omega);obtain⟨b2,o2,rfl,hb2,hc2⟩:=hA' (by omega);have c1:=(hbel.cell (p:=⟨b1,o1+k,none⟩) hb1).trans (hc1 k x hx);have c2:=(hbel.cell (p:=⟨b2,o2+k,none⟩) hb2).trans (hc2 k x hy);have hkM:k<M.length:=by omega
   have hkL:k<L.length:=by omega
   have HK1:=hid hk1;clear hc1 hc2 hA hA' hx hy e1 e2 e3 hne HM hlt hk1;go_wp2_with fail
   go_quiet (fail)
   go_wp2_with fail;have hg:=HG.out;have hk1:=HK1.out
   go_roundg (L.length-k1)
   case measure=>omega
   case rel=>exact⟨k1,by omega,rfl,rfl,below_drewN hbel _⟩
  ·have t1:decide ((k1:Int)<(L.length:Int))=false:=decide_eq_false (by omega);have t1':decide (k1<L.length)=false:=decide_eq_false hlt;have h0r:=h04.trans (hbel.mono h04.size)
   by_cases hne:L.length=0
   ·have u1:decide ((L.length:Int)>0)=false:=decide_eq_false (by omega);have u1':decide (0<(L.length:Int))=false:=decide_eq_false (by omega);have u1n:decide (0<L.length)=false:=decide_eq_false (by omega);clear hA hA' HM hk1 hne hge;go_wp2_with fail
    go_quiet (fail)
    go_wp2_with fail;go_ret;exact⟨rfl,below_drewN h0r _⟩
   ·have u1:decide ((L.length:Int)>0)=true:=decide_eq_true (by omega);have u1':decide (0<(L.length:Int))=true:=decide_eq_true (by omega);have u1n:decide (0<L.length)=true:=decide_eq_true (by omega);obtain⟨K,c,b,e1,e2,-,e4,e5,e6,e7⟩:=HM.out (fun q=>hne (by rw[q];rfl));obtain⟨b1,o1,rfl,hb1,hc1⟩:=hA (by omega);obtain⟨b2,o2,rfl,hb2,hc2⟩:=hA' (by omega);have c1:=(hbel.cell (p:=⟨b1,o1+K,none⟩) hb1).trans (hc1 K b e4);have c2:=(hbel.cell (p:=⟨b2,o2+K,none⟩) hb2).trans (hc2 K c e5)
    have m2:IntKind.i64.wrap ((L.length:Int)-1)=(K:Int):=by rw[show(L.length:Int)-1=(K:Int) by omega];exact nat_wI K (by omega)
    have m2':(L.length:Int)-1=(K:Int):=by omega
    have hK1:K<L.length:=by omega
    have hK2:K<M.length:=by omega
    have u2:decide ((c.size:Int)<(b.size:Int))=false:=decide_eq_false (by omega);have u2':decide (c.size<b.size)=false:=decide_eq_false (by omega);have u3:(b.size:Int)<=(c.size:Int):=by omega
    clear hc1 hc2 hA hA' HM e1 e2 e4 e5 hk1 hge hne;go_wp2_with fail
    go_quiet (fail)
    go_wp2_with fail;go_ret;exact⟨rfl,below_drewN h0r _⟩
end Go.Proofs.YtpgmbhpbgkljdaaGreatDoor
