/-
  The walk of the statement PackPieces.
-/
import Derived.Test.YtpgmbhpbgkljdaaGreatDoorW6
import Derived.Test.YtpgmbhpbgkljdaaGreatDoorW3
import Derived.Test.YtpgmbhpbgkljdaaGreatDoorZ16
set_option maxRecDepth 100000
set_option maxHeartbeats 12800000
set_option linter.unusedVariables false
set_option linter.unusedSimpArgs false
namespace Go.Proofs.YtpgmbhpbgkljdaaGreatDoor
open Go.RowKit Go Go.Shelf
theorem pic_get {room:Nat} (hr:1<=room):∀(i:Nat) (s p:List UInt8),(picL room s)[i]? =some p->
  ∃off,off=((picL room s).take i).flatten.length/\p=(s.drop off).take (cutL (s.drop off) room)/\p.length=cutL (s.drop off) room/\off+p.length<=s.length/\((picL room s).take (i+1)).flatten=s.take (off+p.length)
 |i,s,p,h=>by
  by_cases hs:s=[]
  ·rw[hs,picL_nil] at h;simp at h
  have hc:=(cutL_is s room).1;have hp:=picL_cons hr hs;rw[hp] at h ⊢
  cases i with
  |zero=>
   obtain rfl:s.take (cutL s room)=p:=by simpa using h
   have hl:(s.take (cutL s room)).length=cutL s room:=by rw[List.length_take];omega
   refine⟨0,rfl,rfl,hl,by omega,?_⟩;rw[hl,Nat.zero_add];simp
  |succ i=>
   have h':(picL room (s.drop (cutL s room)))[i]? =some p:=by simpa using h
   obtain⟨off,e1,e2,e3,e4,e5⟩:=pic_get hr i _ p h';rw[List.drop_drop] at e2 e3;rw[List.length_drop] at e4;have hl:(s.take (cutL s room)).length=cutL s room:=by rw[List.length_take];omega
   refine⟨cutL s room+off,?_,e2,e3,by omega,?_⟩
   ·rw[List.take_succ_cons,List.flatten_cons,List.length_append,hl,<-e1]
   ·rw[List.take_succ_cons,List.flatten_cons,e5,Nat.add_assoc];exact List.take_add.symm
theorem tri18 {w1 w2:World} {p1 p2 p3:Addr} {v1 v2 v3:Value} {B:Nat} {w0:World}
  (h:w1.cell? p1=some v1/\w1.cell? p2=some v2/\w1.cell? p3=some v3/\Below B w0 w1/\B<=w1.heap.size) (hb:Below w1.heap.size w1 w2):
  w2.cell? p1=some v1/\w2.cell? p2=some v2/\w2.cell? p3=some v3/\Below B w0 w2/\B<=w2.heap.size:=by
 obtain⟨h1,h2,h3,h6,h7⟩:=h;have k:∀{p:Addr} {v:Value},w1.cell? p=some v->w2.cell? p=some v:=fun{p} {v} hp=>(hb.cell (World.block_lt_of_cell? w1 p hp)).trans hp
 exact⟨k h1,k h2,k h3,h6.trans (hb.mono h7),Nat.le_trans h7 hb.size⟩
theorem tri18B {P1 P2 P3 P4 P5:Prop} (h:P1/\P2/\P3/\P4/\P5):P4:=h.2.2.2.1
theorem packPieces_any (s:ByteArray) (v:Value) (raw:List (Int×Int)) (level:Int) (w:World) (hE:iF w) (_hs:s.size<=maxLen) (hr:RdP w v raw) (hwf:WfP raw) (hl1: -9223372036854775808<=level) (hl2:level<=9223372036854775807):
  Calls Tryz.prog 11 #[.string s,v,.int .i64 level] w fun e w'=>e=.returned (.bool true)/\Below w.heap.size w w':=by
 obtain⟨qa,n,n1,n9,ma,ma',pka⟩:=lev18_any level hl1 hl2;obtain⟨m,hmi,hm1,hm2⟩:=yI s.size 120 (by decide);have hmi2:min (s.size:Int) 120=(m:Int):=by rw[<-hmi,Int.min_def];split<;>split<;>omega
 obtain⟨X,hX⟩:∃X,X=s.extract 0 m:=⟨_,rfl⟩;have hXs:X.size<=120:=by rw[hX];simp;omega
 have hX':=hX.symm;have q1:(m:Int)<=(s.size:Int):=by omega
 clear hX;go_enter Tryz.func11,Tryz.ntmps11;go_wp2_with fail;refine(awake18_any _ hE).mono ?_;rintro e w1 ⟨rfl,h1⟩;have hr1:=hr.below h1;have hE1:=hE.below h1;clear hr hE;go_wp2_with fail;refine(text18_any X v raw 600 _ hr1 hwf (by omega) (by decide)).mono ?_;rintro e w2 ⟨Y,rfl,hY,h2⟩;have hE2:=hE1.below h2;have h02:=bV h1 h2;clear h1 h2 hr1 hwf hX' hmi hmi2 hm1 hm2 q1 hXs hE1;go_wp2_with fail;refine(pka _).mono ?_;rintro e w' ⟨rfl,rfl⟩;have hpc:=fun W=>pieces18_any n Y W (by omega) n1 n9
 rw[show(picL (40*n) Y.data.toList).map mkS=pcT n Y from rfl] at hpc;have hpk:=fun W=>pack18_any n Y W (by omega) n1 n9
 have hok:=pcT_ok n1 Y;have hlen:=pcT_len n1 Y;obtain⟨P,hP⟩:∃P,P=picL (40*n) Y.data.toList:=⟨_,rfl⟩;have hPL:pcT n Y=P.map mkS:=by rw[hP];rfl
 have hflat:P.flatten=Y.data.toList:=by rw[hP];exact picL_flat (by omega) _
 have hget:=fun i p (h:P[i]? =some p)=>pic_get (room:=40*n) (by omega) i Y.data.toList p (by rw[<-hP];exact h)
 rw[<-hP] at hget;have hYl:Y.data.toList.length=Y.size:=by simp
 have HEMP:=hid (show(P.length=0↔Y.size=0) from by
  constructor
  ·intro h;have:P=[]:=List.length_eq_zero_iff.1 h;rw[this] at hflat;rw[<-hYl,<-hflat];rfl
  ·intro h;have:Y.data.toList=[]:=List.length_eq_zero_iff.1 (by omega);rw[hP,this,picL_nil];rfl)
 obtain⟨L,hL⟩:∃L,L=pcT n Y:=⟨_,rfl⟩;have hLP:L.length=P.length:=by rw[hL,hPL,List.length_map]
 have hblk:∀W,iF W->okA [(n,pcT n Y)]->Calls Tryz.prog 20 #[.string (arcS [(n,pcT n Y)])] W fun e w'=>∃v,e=.returned (.tuple #[v,.int .i64 0])/\RdR w' v ((arcP 0 [(n,pcT n Y)]).map blkC)/\Below W.heap.size W w':=fun W h o=>by
  have hz:=arcS_size o;rw[allT_one,List.length_singleton] at hz;exact blocks_arc (l:=[(n,pcT n Y)]) (by simp) o (by omega) W h
 have hrm:∀W,iF W->okA [(n,pcT n Y)]->Calls Tryz.prog 22 #[.string (arcS [(n,pcT n Y)])] W fun e w'=>∃v,e=.returned (.tuple #[v,.int .i64 0])/\RdI w' v (L.map (fun _=>40*(n:Int)))/\Below W.heap.size W w':=fun W h o=>by
  have hz:=arcS_size o;rw[allT_one,List.length_singleton] at hz;have k:=rooms_arc (l:=[(n,pcT n Y)]) (by simp) o (by omega) W h;have e:([(n,pcT n Y)].map (fun(p:Nat×List ByteArray)=>p.2.map (fun _=>40*(p.1:Int)))).flatten=L.map (fun _=>40*(n:Int)):=by rw[hL];simp
  rw[e] at k;exact k
 obtain⟨PB,hPB⟩:∃PB,PB=arcP 0 [(n,pcT n Y)]:=⟨_,rfl⟩;have hPBt:PB.map Prt.t=L:=by rw[hPB,arcP_t,hL];simp
 have hPBl:PB.length=L.length:=by rw[<-hPBt,List.length_map]
 obtain⟨R,hR⟩:∃R,R=arcS [(n,pcT n Y)]:=⟨_,rfl⟩;obtain⟨OK,hOK⟩:∃OK:Prop,OK=okA [(n,pcT n Y)]:=⟨_,rfl⟩;rw[<-hR,<-hOK] at hpk hrm;rw[<-hR,<-hOK,<-hPB] at hblk;rw[<-hL] at hpc hok hlen hPL;have HPL:=hid hPL;have HFL:=hid hflat;have HGET:=hid hget;have HOKL:=hid hok;have HBT:=hid hPBt;have HLP:=hid hLP;have HYL:=hid hYl;clear hP hPL hflat hget hL hPB hPBt hR hOK hok hLP hYl pka;go_wp2_with fail;refine(hpc _).mono ?_;rintro e w3 ⟨v3,rfl,hv3,h3⟩;have hE3:=hE2.below h3;have h03:=bV h02 h3;go_wp2_with fail;refine(hpk _).mono ?_;rintro e w4 ⟨rfl,ho,h4⟩;have hE4:=hE3.below h4;have hv4:=hv3.below h4
 have h04:=bV h03 h4;go_wp2_with fail;refine(hblk _ hE4 ho).mono ?_;rintro e w5 ⟨v5,rfl,hb5,h5⟩;have hE5:=hE4.below h5;have hv5:=hv4.below h5;have h05:=bV h04 h5;go_wp2_with fail;refine(hrm _ hE5 ho).mono ?_;rintro e w6 ⟨v6,rfl,hr6,h6⟩;have hv6:=hv5.below h6;have hb6:=hb5.below h6;have h06:=bV h05 h6;obtain⟨la,lc,rfl,hlc1,hlc2,hlA⟩:=hv6.open;obtain⟨ba,bc,rfl,hbc1,hbc2,hbA⟩:=blk_cells hb6;obtain⟨ra,rc,rfl,hrc1,hrc2,hrA⟩:=hr6.open;rw[hPBl] at hbc1 hbA ⊢;rw[List.length_map] at hrc1 hrA ⊢;unfold maxLen at hlc2 hbc2 hrc2
 clear hpc hpk hblk hrm hv3 hv4 hv5 hv6 hb5 hb6 hr6 h3 h4 h5 h6 hE2 hE3 hE4 hE5 h02 h03 h04 h05 ho hPBl ma ma';obtain⟨EM,hEM⟩:∃EM:Bool,EM=decide (Y.size=0):=⟨_,rfl⟩;have y1:((L.length:Int)==0)=EM:=by
  rw[hEM]
  by_cases h:L.length=0
  ·rw[decide_eq_true (HEMP.out.1 (by rw[<-HLP.out];exact h))];exact beq_iff_eq.2 (by omega)
  ·rw[decide_eq_false (fun q=>h (by rw[HLP.out];exact HEMP.out.2 q))];exact beq_eq_false_iff_ne.2 (by omega)
 have y1':(L.length==0)=EM:=by
  rw[<-y1]
  by_cases h:L.length=0
  ·rw[h];rfl
  ·rw[beq_eq_false_iff_ne.2 h,beq_eq_false_iff_ne.2 (by omega)]
 have y2:Y.toList.isEmpty=EM:=by
  rw[hEM,Lib.toList_data]
  by_cases h:Y.size=0
  ·rw[decide_eq_true h,List.length_eq_zero_iff.1 (show Y.data.toList.length=0 by rw[HYL.out];exact h)];rfl
  ·rw[decide_eq_false h]
   cases e:Y.data.toList with
   |nil=>have:=HYL.out;rw[e] at this;exact absurd this.symm h
   |cons a b=>rfl
 have y3:((L.length:Int) != (L.length:Int))=false:=by simp
 have y4:(EM != EM)=false:=by simp
 clear hEM HEMP;go_wp2_with fail;clear y1 y1' y2 y3 y4;obtain⟨N,hN⟩:∃N,N=40*n:=⟨_,rfl⟩;have hNI:40*(n:Int)=(N:Int):=by omega
 have m0:IntKind.i64.wrap (40*(n:Int))=(N:Int):=by rw[hNI];exact nat_wI N (by omega)
 rw[hNI] at hrA;rw[<-hN] at HGET HOKL;have hNb:40<=N/\N<=360:=by omega
 have m0':IntKind.i64.wrap (N:Int)=(N:Int):=nat_wI N (by omega);clear hN
 go_loopg [18,19] L.length (fun g s18 s19 wr=>∃(k:Nat) (A:ByteArray),k<=L.length/\g=L.length-k/\s19=.int .i64 (k:Int)/\s18=.string A/\Hid (A.data.toList=(P.take k).flatten)/\Below w6.heap.size w6 wr)
 case atStart=>exact⟨0,⟨#[]⟩,Nat.zero_le _,rfl,rfl,rfl,hid rfl,Below.refl _ _⟩
 case round=>
  obtain⟨k,A,hk,hg,rfl,rfl,HA,hbel⟩:=hrel;have HG:=hid hg;clear hg
  by_cases hlt:k<L.length
  rotate_left
  ·have t1:decide ((k:Int)<(L.length:Int))=false:=decide_eq_false (by omega);have hA:=HA.out;have hLP:=HLP.out;rw[List.take_of_length_le (by omega),HFL.out] at hA;obtain rfl:A=Y:=ByteArray.ext (Array.toList_inj.1 hA);clear hA hLP HGET HOKL HBT HPL hlA hbA hrA HG HA;go_wp2_with fail;go_ret;exact⟨rfl,h06.trans (hbel.mono h06.size)⟩
  have t1:decide ((k:Int)<(L.length:Int))=true:=decide_eq_true (by omega);obtain⟨t,ht⟩:∃t,L[k]? =some t:=⟨_,List.getElem?_eq_getElem hlt⟩;obtain⟨p,hp,hpt⟩:∃p,P[k]? =some p/\mkS p=t:=by
   rw[HPL.out,List.getElem?_map] at ht
   cases e:P[k]? with
   |none=>rw[e] at ht;cases ht
   |some p=>rw[e] at ht;exact⟨p,rfl,Option.some.inj ht⟩
  obtain⟨off,g1,g2,g3,g4,g5⟩:=HGET.out k p hp;have htl:t.data.toList=p:=by rw[<-hpt,fW]
  have hts:t.size=p.length:=by rw[<-hpt,cP]
  obtain⟨o1,o2,o3⟩:=HOKL.out t (List.mem_of_getElem? ht);have hAs:A.size=off:=by
   have h:=congrArg List.length HA.out;rw[<-g1] at h
   simpa using h
  rw[HYL.out] at g4;obtain⟨A2,hA2⟩:∃A2,A2=A++t:=⟨_,rfl⟩;have hA2s:A2.size=off+t.size:=by rw[hA2,ByteArray.size_append,hAs]
  have HA2:=hid (show A2.data.toList=(P.take (k+1)).flatten by
   rw[hA2,ByteArray.data_append,Array.toList_append,HA.out,htl,List.take_add_one,hp,List.flatten_append];simp)
  have hA2':=hA2.symm;have x1:¬9223372036854775807<A.size+t.size:=by omega
  have te:t.toList.isEmpty=false:=rY o1;have u1:decide ((A2.size:Int)>(Y.size:Int))=false:=decide_eq_false (by omega);have u1':decide ((Y.size:Int)<(A2.size:Int))=false:=decide_eq_false (by omega);have u1n:decide (Y.size<A2.size)=false:=decide_eq_false (by omega);have hln:=fun W=>ND t W (by omega)
  obtain⟨q,hq⟩:∃q,q=(bC t.data.toList).length:=⟨_,rfl⟩;rw[<-hq] at hln;have hqN:q<=N:=by unfold lnL at o2;omega
  have u2:decide ((q:Int)>(N:Int))=false:=decide_eq_false (by omega);have u2':decide ((N:Int)<(q:Int))=false:=decide_eq_false (by omega);have u2n:decide (N<q)=false:=decide_eq_false (by omega);obtain⟨pb,hpb,hpbt⟩:∃pb,PB[k]? =some pb/\pb.t=t:=by
   have h:=HBT.out;have h2:=congrArg (fun l=>l[k]?) h;rw[ht,List.getElem?_map] at h2
   cases e:PB[k]? with
   |none=>rw[e] at h2;cases h2
   |some b=>rw[e] at h2;exact⟨b,rfl,Option.some.inj h2⟩
  obtain⟨lb,lo,rfl,hlb,hlc⟩:=hlA (by omega);obtain⟨bb,bo,rfl,hbb,hbc⟩:=hbA (by omega);obtain⟨rb,ro,rfl,hrb,hrc⟩:=hrA (by omega);have c0:=(hbel.cell (p:=⟨lb,lo+k,none⟩) hlb).trans (hlc k t ht);have d0:=(hbel.cell (p:=⟨bb,bo+k*4,none⟩) hbb).trans (hbc k pb hpb).1;rw[hpbt] at d0;have e0:=(hbel.cell (p:=⟨rb,ro+k,none⟩) hrb).trans (hrc k (N:Int) (by rw[List.getElem?_map,ht];rfl));have HNX:=hid (fun(h:A2.size<Y.size)=>show N<(bC ((Y.data.toList.drop off).take (p.length+1))).length from by
   have hi:=(cutL_is (Y.data.toList.drop off) N).2.2;rw[<-g3] at hi;have:=hi (by rw[List.length_drop,HYL.out];omega);unfold lnL at this;exact this)
  have htt:(t.toList != t.toList)=false:=by simp
  have hsz:=hbel.size;have HA2S:=hid hA2s;have HTS:=hid hts;have HG4:=hid g4;clear hA2s hts g4 g1 g2 g3 g5 hlc hbc hrc hlA hbA hrA hpb hpbt ht hpt hp htl HGET HOKL HBT HPL HA hAs hA2 hq o1 o2 o3;go_wp2_with fail;have hS0:=tri18 (B:=wr.heap.size) (w0:=wr) ⟨c0,d0,e0,Below.refl _ _,Nat.le_refl _⟩ (Below.refl wr.heap.size wr).drew
  go_cut [143] (fun c143 wx=>c143=.bool false/\Below wr.heap.size wr wx)
  case first=>
   clear hbel c0 d0 e0 HNX HA2 HFL HLP HYL HG
   go_region_held3 (fun wx=>wx.cell? ⟨lb,lo+k,none⟩=some (.string t)/\wx.cell? ⟨bb,bo+k*4,none⟩=some (.string t)/\wx.cell? ⟨rb,ro+k,none⟩=some (.int .i64 (N:Int))/\Below wr.heap.size wr wx/\wr.heap.size<=wx.heap.size)
    (first
     |with_reducible assumption
     |with_reducible exact tri18 (by assumption) (by assumption))
    (first
     |(go_at_call 33;refine(hln _).mono ?_;rintro e w9 ⟨rfl,hb9⟩))
   all_goals
    go_wp2_with fail;go_meet;exact⟨rfl,tri18B (by assumption)⟩
  case rest=>
  obtain⟨rfl,hbx⟩:=hcut;have c0':=(hbx.cell (World.block_lt_of_cell? wr _ c0)).trans c0;have hbel4:=hbel.trans (hbx.mono hsz);clear hS0 c0 d0 e0 hbel hbx hln u1 u1' u1n u2 u2' u2n te htt
  by_cases hlx:A2.size<Y.size
  ·have hA2s:=HA2S.out;have hts:=HTS.out;have g4:=HG4.out;have t2:decide ((A2.size:Int)<(Y.size:Int))=true:=decide_eq_true (by omega);have t2n:decide (A2.size<Y.size)=true:=decide_eq_true hlx;obtain⟨E,hE⟩:∃E,E=A2.size+1:=⟨_,rfl⟩;have m1:IntKind.i64.wrap ((A2.size:Int)-(t.size:Int))=(off:Int):=by rw[show(A2.size:Int)-(t.size:Int)=(off:Int) by omega];exact nat_wI off (by omega)
   have m1':(A2.size:Int)-(t.size:Int)=(off:Int):=by omega
   have m2:IntKind.i64.wrap ((A2.size:Int)+1)=(E:Int):=by rw[show(A2.size:Int)+1=(E:Int) by omega];exact nat_wI E (by omega)
   have m2':(A2.size:Int)+1=(E:Int):=by omega
   have hEY:(E:Int)<=(Y.size:Int):=by omega
   have hoE:(off:Int)<=(E:Int):=by omega
   obtain⟨V,hV⟩:∃V,V=Y.extract off E:=⟨_,rfl⟩;have hVd:V.data.toList=(Y.data.toList.drop off).take (p.length+1):=by
    rw[hV,nT,fW,show E-off=p.length+1 by omega]
   have hVs:V.size<=1000000:=by rw[hV];simp;omega
   have hlv:=fun W=>ND V W hVs
   have hq2:=HNX.out hlx;rw[<-hVd] at hq2;obtain⟨q2,hq2e⟩:∃q2,q2=(bC V.data.toList).length:=⟨_,rfl⟩;rw[<-hq2e] at hlv hq2;have u3:decide ((q2:Int)<=(N:Int))=false:=decide_eq_false (by omega);have u3n:decide (q2<=N)=false:=decide_eq_false (by omega);have hV':=hV.symm;have hsz4:=hbel4.size;clear hV hVd hVs hq2e hE HNX hq2 hA2s g4 hts;go_wp2_with fail;refine(hlv _).mono ?_;rintro e w8 ⟨rfl,h8⟩;go_wp2_with fail;have hg:=HG.out
   go_roundg (L.length-(k+1))
   case measure=>omega
   case rel=>exact⟨k+1,A2,by omega,rfl,by go_num,rfl,HA2,hbel4.trans (h8.mono hsz4)⟩
  ·have t2:decide ((A2.size:Int)<(Y.size:Int))=false:=decide_eq_false (by omega);have t2n:decide (A2.size<Y.size)=false:=decide_eq_false hlx;clear HNX;go_wp2_with fail;have hg:=HG.out
   go_roundg (L.length-(k+1))
   case measure=>omega
   case rel=>exact⟨k+1,A2,by omega,rfl,by go_num,rfl,HA2,hbel4⟩
end Go.Proofs.YtpgmbhpbgkljdaaGreatDoor
