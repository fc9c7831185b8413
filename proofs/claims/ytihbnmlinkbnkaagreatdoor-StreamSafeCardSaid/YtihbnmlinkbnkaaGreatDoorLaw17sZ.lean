/-
  The walk of the statement StreamSafe.
-/
import Derived.Test.YtihbnmlinkbnkaaGreatDoorM17sZ
import Derived.Test.YtihbnmlinkbnkaaGreatDoorZ45
set_option linter.unusedVariables false
set_option linter.unusedSimpArgs false
set_option maxRecDepth 100000
set_option maxHeartbeats 12800000
namespace Go.Proofs.YtihbnmlinkbnkaaGreatDoor
open Go.RowKit Go Go.Shelf
theorem five5 {w1 w2:World} {p0 p1 p2 p3 p4:Addr} {v0 v1 v2 v3 v4:Value} {B:Nat} {w0:World} (h:w1.cell? p0=some v0/\w1.cell? p1=some v1/\w1.cell? p2=some v2/\w1.cell? p3=some v3/\w1.cell? p4=some v4/\Below B w0 w1/\B<=w1.heap.size) (hb:Below w1.heap.size w1 w2):
  w2.cell? p0=some v0/\w2.cell? p1=some v1/\w2.cell? p2=some v2/\w2.cell? p3=some v3/\w2.cell? p4=some v4/\Below B w0 w2/\B<=w2.heap.size:=by
 obtain⟨h0,h1,h2,h3,h4,h6,h7⟩:=h;have k:∀{p:Addr} {v:Value},w1.cell? p=some v->w2.cell? p=some v:=fun{p} {v} hp=>(hb.cell (World.block_lt_of_cell? w1 p hp)).trans hp
 exact⟨k h0,k h1,k h2,k h3,k h4,h6.trans (hb.mono h7),Nat.le_trans h7 hb.size⟩
theorem safe_flip {a:ByteArray} (ha:GQ a) {K r:Nat} {Y:UInt8} (h1:a.size<=K+3) (h2:K+2<=a.size) (hr:r<8) (hY:a.data.toList[K]? =some Y):
  (cI (a.data.toList.set K (UInt8.ofNat (Y.toNat^^^(128>>>r))))).2=7:=by
 obtain⟨L,rfl,k1,k2,_,_⟩:=ha;have he:(aZ L).data.toList=aI (dH L):=by unfold aZ;rw[dP]
 have hl:(aI (dH L)).length=(aZ L).size:=by unfold aZ;rw[cS]
 have h:=arcD_flip k1 k2 (b:=8*K+r) (by omega) (by omega);unfold LL at h;rw[show(8*K+r)/8=K by omega,show(8*K+r)%8=r by omega,<-he,List.getD_eq_getElem?_getD,hY] at h;exact h
theorem arc_min {a:ByteArray} (ha:GQ a):14<=a.size:=by
 obtain⟨L,rfl,k1,k2,_,_⟩:=ha;obtain⟨I,⟨n,x⟩,rfl⟩:∃I p,L=I++[p]:=⟨L.dropLast,L.getLast k1,(List.dropLast_concat_getLast k1).symm⟩;have h8:=LP (I++[(n,x)]);have hl:(aI (dH (I++[(n,x)]))).length=(aZ (I++[(n,x)])).size:=by unfold aZ;rw[cS]
 rw[hl,aDt,aDs,List.length_append,zO,xT] at h8;omega
theorem catT_next {P:List Prt} {i:Nat} {p:Prt} (h:P[i]? =some p):iH ((P.take i).map Prt.t)++p.t=iH ((P.take (i+1)).map Prt.t):=by
 rw[List.take_add_one,h,List.map_append];refine ByteArray.ext (Array.toList_inj.1 ?_);rw[MX];show _=_++(iH [p.t]).data.toList;rw[ByteArray.data_append,Array.toList_append];unfold iH;simp
theorem streamSafe_any (s:ByteArray) (v:Value) (raw:List (Int×Int)) (level many which x:Int) (w:World) (hE:dU w) (_hs:s.size<=maxLen) (hr:RdP w v raw) (hwf:WfP raw) (hl1: -9223372036854775808<=level) (hl2:level<=9223372036854775807) (hm1: -9223372036854775808<=many) (hm2:many<=9223372036854775807) (hw1: -9223372036854775808<=which) (hw2:which<=9223372036854775807) (hx1: -9223372036854775808<=x) (hx2:x<=9223372036854775807):
  Calls Tryz.prog 4 #[.string s,v,.int .i64 level,.int .i64 many,.int .i64 which,.int .i64 x] w fun e w'=>e=.returned (.bool true)/\Below w.heap.size w w':=by
 go_enter Tryz.func4,Tryz.ntmps4;go_wp2_with fail;refine(bHd _ hE).mono ?_;rintro e w1 ⟨rfl,h1⟩;have hE1:=hE.below h1;have hr1:=hr.below h1;have hE0:=hE;clear hE hr;go_wp2_with fail;refine(bHj s v raw level many _ hr1 hwf hl1 hl2 hm1 hm2).mono ?_;rintro e w2 ⟨a,rfl,ha,h2⟩;have hE2:=hE1.below h2;have h02:=aW h1 h2;have hasz:=ha.facts.1;have hEE:=hE0;clear hE0;clear h1 h2 hE1 hr1 hwf;go_wp2_with fail;refine(bHo a which x _ (by omega) hw1 hw2 hx1 hx2).mono ?_;rintro e w3 ⟨u,rfl,hus,h3⟩;have hE3:=hE2.below h3;have h03:=aW h02 h3;clear h02 h3 hE2
 have hbk:=fun W h=>aJi u W h (by omega)
 have hrd:=fun W h=>aJk u W h (by omega)
 have hrm:=fun W h=>aJj u W h (by omega)
 have hrl:=GC u;have hgood:=fun p (h:p∈eY u.data.toList)=>And.intro (aJh p h).2.2.1 (aJh p h).facts
 have hchain:∀(i:Nat) (p:Prt),(eY u.data.toList)[i]? =some p->32<=p.a/\∀q,(eY u.data.toList)[i+1]? =some q->p.z<=q.a:=by
  intro i p hp;unfold eY at hp ⊢
  by_cases q:(cI u.data.toList).2=0
  ·rw[aB q] at hp ⊢;obtain⟨_,g2,g3⟩:=aVs (ST q) i p hp;exact⟨g2,g3⟩
  ·rw[aA q] at hp;simp at hp
 have hnil:(cI u.data.toList).2≠0->eY u.data.toList=[]:=bDn;have hts:=bDj u.data.toList (eY u.data.toList).length;rw[List.take_length] at hts;have hnx:=fun i p=>catT_next (P:=eY u.data.toList) (i:=i) (p:=p)
 obtain⟨P,hP⟩:∃P,P=eY u.data.toList:=⟨_,rfl⟩;rw[<-hP] at hbk hrd hrm hrl hgood hchain hnil hts hnx;obtain⟨E,hEe⟩:∃E,E=(cI u.data.toList).2:=⟨_,rfl⟩;rw[<-hEe] at hbk hrd hrm hnil;obtain⟨T,hT⟩:∃T,T=iH (P.map Prt.t):=⟨_,rfl⟩;rw[<-hT] at hrd hts;have hTl:T.data.toList.length=T.size:=by simp
 have hTb:T.size<=4000000000:=by omega
 have HT:=hid hT;have hul:u.data.toList.length=u.size:=by simp
 rw[hul] at hgood;clear hP hEe hT hts hTl hul;go_wp2_with fail;refine(hbk _ hE3).mono ?_;rintro e w4 ⟨v4,rfl,hv4,h4⟩;have hE4:=hE3.below h4;have h04:=aW h03 h4;clear hbk hE3 h03 h4;go_wp2_with fail;refine(hrd _ hE4).mono ?_;rintro e w5 ⟨rfl,h5⟩;have hE5:=hE4.below h5;have hv5:=hv4.below h5;have h05:=aW h04 h5;clear hrd hE4 h04 h5 hv4;go_wp2_with fail;refine(hrm _ hE5).mono ?_;rintro e w6 ⟨v6,rfl,hv6,h6⟩;have hE6:=hE5.below h6;have hv56:=hv5.below h6;have h06:=aW h05 h6;clear hrm hE5 h05 h6 hv5;obtain⟨a4,c4,rfl,hc4,hm4,hA4⟩:=bEm hv56;obtain⟨a6,c6,rfl,hc6,hm6,hA6⟩:=hv6.open
 rw[List.length_map] at hc6 hA6;unfold maxLen at hm4 hm6;rw[List.length_map];go_upto_region 7 with fail
 go_cut [86] (fun c86 wx=>c86=.bool false/\wx=w6)
 case first=>
  by_cases hz:E=0
  ·subst hz;clear hnil hA4 hA6 hchain hgood hnx;go_wp2_with fail;go_meet;exact⟨rfl,rfl⟩
  ·have hp0:=hnil hz;subst hp0;have hT0:T.toList.isEmpty=true:=EI (show T.data.toList=[] by rw[HT.out];unfold iH;rw[dP];rfl);have y1:(E != 0)=true:=bne_iff_ne.2 hz;have y2:(E != E)=false:=bne_self_eq_false _;clear hnil hA4 hA6 hchain hgood hnx;go_wp2_with fail;go_meet;exact⟨rfl,rfl⟩
 case rest=>
 obtain⟨rfl,rfl⟩:=hcut;clear hnil;go_wp2_with fail;have HA4:=hid hA4;have HA6:=hid hA6;have h06':=h06;obtain⟨B6,hB6⟩:∃B6,B6=wc.heap.size:=⟨_,rfl⟩;clear hA4 hA6 hE6
 go_loopg [22,23,24] P.length (fun g s22 s23 s24 wz=>∃(i:Nat) (lo:Int) (A:ByteArray),i<=P.length/\g=P.length-i/\s24=.int .i64 (i:Int)/\s22=.string A/\s23=.int .i64 lo/\Hid (A=iH ((P.take i).map Prt.t))/\A.size<=18720*i/\Hid (∀p,P[i]? =some p->lo<=p.a)/\Below wc.heap.size wc wz)
 case atStart=>exact⟨0,32,⟨#[]⟩,Nat.zero_le _,rfl,rfl,rfl,rfl,hid rfl,Nat.zero_le _,hid (fun p hp=>(hchain 0 p hp).1),Below.refl _ _⟩
 case round=>
 obtain⟨i,lo,A,hi,hg,rfl,rfl,rfl,HAC,hAs,HLO,hbz⟩:=hrel;have HG:=hid hg;clear hg
 by_cases hil:i<P.length
 ·have t1:decide ((i:Int)<(P.length:Int))=true:=aG (by omega);obtain⟨b,off,rfl,hb,hc⟩:=HA4.out (by omega);obtain⟨b6,o6,rfl,hb6,hc6'⟩:=HA6.out (by omega);obtain⟨p,hp⟩:∃p,P[i]? =some p:=⟨_,List.getElem?_eq_getElem hil⟩;obtain⟨d0,d1,d2,d3⟩:=hc i p hp;have d4:=hc6' i p.r (by rw[List.getElem?_map,hp];rfl);obtain⟨f7,f1,f2,f3,f4,f5,f6⟩:=hgood p (List.mem_of_getElem? hp);have g1:=HLO.out p hp;have HN:=hid (hchain i p hp).2;have hnx':=hnx i p hp;rw[<-HAC.out] at hnx';have hsum:=fun W=>zQ p.t W (by omega)
  rw[<-f1] at hsum;obtain⟨Ap,hAp⟩:∃Ap:Nat,p.a=(Ap:Int):=⟨p.a.toNat,by omega⟩;obtain⟨Zp,hZp⟩:∃Zp:Nat,p.z=(Zp:Int):=⟨p.z.toNat,by omega⟩;obtain⟨Rp,hRp⟩:∃Rp:Nat,p.r=(Rp:Int):=⟨p.r.toNat,by omega⟩;obtain⟨Y,hY⟩:∃Y,Y=p.y:=⟨_,rfl⟩;obtain⟨tt,htt⟩:∃tt,tt=p.t:=⟨_,rfl⟩;obtain⟨U8,hU8⟩:∃U8,U8=8*u.size:=⟨_,rfl⟩;obtain⟨R52,hR52⟩:∃R52,R52=52*Rp:=⟨_,rfl⟩;obtain⟨A2,hA2⟩:∃A2,A2=A++tt:=⟨_,rfl⟩;have HAC2:=hid (show A2=iH ((P.take (i+1)).map Prt.t) by rw[hA2,htt];exact hnx');have HLO2:=hid (show ∀q,P[i+1]? =some q->(Zp:Int)<=q.a from fun q hq=>by have:=HN.out q hq;omega);rw[hAp] at d2 g1 f5;rw[hZp] at d3 f5 f6
  rw[hRp] at d4 f3;rw[<-hY] at d1 hsum;rw[<-htt] at d0 f2 f3 hsum;have htb:tt.size<=18720:=by omega
  have hA2s:A2.size<=18720*(i+1):=by rw[hA2,ByteArray.size_append];omega
  have q0:¬9223372036854775807<A.size+tt.size:=by omega
  have n0:decide ((Ap:Int)<lo)=false:=aE (by omega);have n1:decide ((Zp:Int)<=(Ap:Int))=false:=aE (by omega);have n1':decide (Zp<=Ap)=false:=aE (by omega);have n2:IntKind.i64.wrap (8*(u.size:Int))=(U8:Int):=by rw[show 8*(u.size:Int)=(U8:Int) by omega];exact lE U8 (by omega)
  have n3:8*(u.size:Int)=(U8:Int):=by omega
  have n4:IntKind.i64.wrap (U8:Int)=(U8:Int):=lE U8 (by omega);have n5:decide ((Zp:Int)>(U8:Int))=false:=aE (by omega);have n5':decide ((U8:Int)<(Zp:Int))=false:=aE (by omega);have n5'':decide (U8<Zp)=false:=aE (by omega);have n6:(Y != Y)=false:=bne_self_eq_false _;have n7:tt.toList.isEmpty=false:=xK (by omega);have n8:IntKind.i64.wrap (52*(Rp:Int))=(R52:Int):=by rw[show 52*(Rp:Int)=(R52:Int) by omega];exact lE R52 (by omega)
  have n9:52*(Rp:Int)=(R52:Int):=by omega
  have n10:IntKind.i64.wrap (R52:Int)=(R52:Int):=lE R52 (by omega);have n11:decide ((tt.size:Int)>(R52:Int))=false:=aE (by omega);have n11':decide ((R52:Int)<(tt.size:Int))=false:=aE (by omega);have n11'':decide (R52<tt.size)=false:=aE (by omega);have hA2':=hA2.symm;have e0:=(hbz.cell (p:=⟨b,off+i*4,none⟩) hb).trans d0;have e1:=(hbz.cell (p:=⟨b,off+i*4+1,none⟩) hb).trans d1;have e2:=(hbz.cell (p:=⟨b,off+i*4+2,none⟩) hb).trans d2;have e3:=(hbz.cell (p:=⟨b,off+i*4+3,none⟩) hb).trans d3;have e4:=(hbz.cell (p:=⟨b6,o6+i,none⟩) hb6).trans d4
  have HD:=hid (show wc.cell? ⟨b,off+i*4,none⟩=some (.string tt)/\wc.cell? ⟨b,off+i*4+3,none⟩=some (.int .i64 (Zp:Int)) from⟨d0,d3⟩);clear hc hc6' hp d0 d1 d2 d3 d4 f7 f1 f2 f3 f4 f5 f6 g1 hnx' HN hAp hZp hRp hY htt hU8 hR52 hA2 HLO HAC hgood hchain hnx;go_wp2_with fail
  go_cut [159] (fun c159 wx=>c159=.bool false/\Below wr.heap.size wr wx)
  case first=>as_aux_lemma=>
   have hS0:=five5 (B:=wr.heap.size) (w0:=wr) ⟨e0,e1,e2,e3,e4,Below.refl _ _,Nat.le_refl _⟩ (Below.refl wr.heap.size wr).drew;clear e0 e1 e2 e3 e4 HG HD HT HA4 HA6 h06 h06' hbz ha HAC2 HLO2;simp only[List.append_eq,List.cons_append,List.nil_append]
   refine wp_region_held_drew (S:=fun wx=>wx.cell? ⟨b,off+i*4,none⟩=some (.string tt)/\wx.cell? ⟨b,off+i*4+1,none⟩=some (.int .u32 Y)/\wx.cell? ⟨b,off+i*4+2,none⟩=some (.int .i64 (Ap:Int))/\wx.cell? ⟨b,off+i*4+3,none⟩=some (.int .i64 (Zp:Int))/\wx.cell? ⟨b6,o6+i,none⟩=some (.int .i64 (Rp:Int))/\Below wr.heap.size wr wx/\wr.heap.size<=wx.heap.size) (by kernel_rfl) hS0 (fun hHeld=>?_)
   iterate 42
    refine fV 0 0 (by simp only[List.size_toArray,List.length_cons,List.length_nil,Nat.reduceAdd,Nat.reduceSub]<;>rfl) (by simp only[List.getElem?_toArray,List.getElem?_cons_succ,List.getElem?_cons_zero];rfl) (by kernel_rfl) (by exact fun _ _ _ h=>h) (by first|exact Or.inr ⟨by rfl,rfl⟩|(refine Or.inl ⟨by rfl,?_⟩;intro w' hSw;(try dsimp only at hSw);(try go_simp);try with_reducible rfl)) (by assumption) ?_
    try simp only[Act.put,List.setIfInBounds_toArray,List.set_cons_zero,List.set_cons_succ]
   refine dJ (i:=42) (by kernel_rfl) rfl (fun K hK=>?_);go_simp;refine(hsum _).mono ?_;rintro e wa ⟨rfl,hwa⟩
   (try go_wp2_with fail)
   have hS1:=five5 hHeld hwa;refine hK.out _ _ hS1 (fun _=>?_)
   try simp only[Act.put,List.setIfInBounds_toArray,List.set_cons_zero,List.set_cons_succ]
   clear hK K
   iterate 24
    refine fV 0 0 (by simp only[List.size_toArray,List.length_cons,List.length_nil,Nat.reduceAdd,Nat.reduceSub]<;>rfl) (by simp only[List.getElem?_toArray,List.getElem?_cons_succ,List.getElem?_cons_zero];rfl) (by kernel_rfl) (by exact fun _ _ _ h=>h) (by first|exact Or.inr ⟨by rfl,rfl⟩|(refine Or.inl ⟨by rfl,?_⟩;intro w' hSw;(try dsimp only at hSw);(try go_simp);try with_reducible rfl)) (by assumption) ?_
    try simp only[Act.put,List.setIfInBounds_toArray,List.set_cons_zero,List.set_cons_succ]
   refine wpAnyH_done (by kernel_rfl) ?_ _;go_wp2_with fail;go_meet;exact⟨rfl,hS1.2.2.2.2.2.1⟩
  case rest=>
  obtain⟨rfl,hbx⟩:=hcut;have x0:=(hbx.cell (World.block_lt_of_cell? wr _ e0)).trans e0;have x3:=(hbx.cell (World.block_lt_of_cell? wr _ e3)).trans e3;have hbz2:=hbz.trans (hbx.mono hbz.size);clear e0 e1 e2 e3 e4 hbx hbz HD hsum;go_wp2_with fail;have hg:=HG.out
  go_roundg (P.length-(i+1))
  case measure=>omega
  case rel=>exact⟨i+1,(Zp:Int),A2,by omega,rfl,by go_num,rfl,rfl,HAC2,hA2s,HLO2,hbz2⟩
 as_aux_lemma=>
  have t1:decide ((i:Int)<(P.length:Int))=false:=aE (by omega);have hAT:A=T:=by rw[HAC.out,HT.out,List.take_of_length_le (by omega)]
  subst hAT;have h0z:=aW h06 hbz;clear HG HAC HLO hbz HA4 HA6 h06 h06' hgood hchain hnx HT hAs;have hEz:dU wr:=hEE.below h0z;have ha14:=arc_min ha;obtain⟨cap,w7,hcv,hc1,hc2,hBA,hb7,hz7⟩:=PZ wr a (by omega);have hp2:=fun W=>VE x 2 W hx1 hx2 (by decide) (by decide)
  have hp8:=fun W=>VE which 8 W hw1 hw2 (by decide) (by decide)
  obtain⟨k1,k2⟩:=lN x 2 (by decide);obtain⟨k3,k4⟩:=lN which 8 (by decide);obtain⟨q,hq⟩:∃q:Nat,cK x 2=(q:Int):=⟨_,(Int.toNat_of_nonneg k1).symm⟩;obtain⟨r,hrr⟩:∃r:Nat,cK which 8=(r:Int):=⟨_,(Int.toNat_of_nonneg k3).symm⟩;rw[hq] at hp2 k2;rw[hrr] at hp8 k4;have hr8:r<8:=by omega
  obtain⟨S1,hS1⟩:∃S1,S1=a.size-1:=⟨_,rfl⟩;obtain⟨S2,hS2⟩:∃S2,S2=S1-1:=⟨_,rfl⟩;obtain⟨K,hK⟩:∃K,K=S2-q:=⟨_,rfl⟩;have m1:IntKind.i64.wrap ((a.size:Int)-1)=(S1:Int):=by rw[show(a.size:Int)-1=(S1:Int) by omega];exact lE S1 (by omega)
  have m1':(a.size:Int)-1=(S1:Int):=by omega
  have m2:IntKind.i64.wrap ((S1:Int)-1)=(S2:Int):=by rw[show(S1:Int)-1=(S2:Int) by omega];exact lE S2 (by omega)
  have m2':(S1:Int)-1=(S2:Int):=by omega
  have m3:IntKind.i64.wrap ((S2:Int)-(q:Int))=(K:Int):=by rw[show(S2:Int)-(q:Int)=(K:Int) by omega];exact lE K (by omega)
  have m3':(S2:Int)-(q:Int)=(K:Int):=by omega
  have m4:IntKind.i64.wrap (S1:Int)=(S1:Int):=lE S1 (by omega);have m5:IntKind.i64.wrap (S2:Int)=(S2:Int):=lE S2 (by omega);have m6:IntKind.i64.wrap (K:Int)=(K:Int):=lE K (by omega);have m8:min r 8=r:=by omega
  have hKa:K<a.size:=by omega
  have hKi:(K:Int)<(a.size:Int):=by omega
  have hal:a.data.toList.length=a.size:=by simp
  obtain⟨Y,hY⟩:∃Y,a.data.toList[K]? =some Y:=⟨_,List.getElem?_eq_getElem (by omega)⟩;have hfe:=safe_flip ha (K:=K) (r:=r) (Y:=Y) (by omega) (by omega) hr8 hY;have z1:=hBA.2.1 K Y hY;have z2:=hBA.2.2 K (by omega);have hfl:=bF1 Y r;obtain⟨Y2,hY2⟩:∃Y2,Y2=UInt8.ofNat (Y.toNat^^^(128>>>r)):=⟨_,rfl⟩;rw[<-hY2] at hfl hfe;have hA3:=(hBA.drew).set K Y2;have hbk:=mP (hA3.rdB (cap:=cap) (by rw[List.length_set];omega) hc2);rw[List.length_set,hal] at hbk;obtain⟨V,hV⟩:∃V,V=mkS (a.data.toList.set K Y2):=⟨_,rfl⟩;have hVs:V.size=a.size:=by rw[hV,cS,List.length_set];exact hal
  have hrv:=fun W h=>aJk V W h (by omega)
  rw[show(cI V.data.toList).2=7 by rw[hV,dP];exact hfe] at hrv;rw[<-hV] at hbk;have HB:=hid hbk;have hyb:=Y.toNat_lt;obtain⟨yv,hyv⟩:∃yv,yv=Y.toNat:=⟨_,rfl⟩;rw[<-hyv] at z1 hfl hyb;have y9:(A.toList==A.toList)=true:=by simp
  have h9c:=fun v=>((h0z.trans (hb7.mono h0z.size)).drew).setCell (p:=⟨wr.heap.size,K,none⟩) h0z.size v
  clear ha hBA hA3 hbk hY hfe hV hY2 hyv hal hq hrr k1 k2 k3 k4 hS1 hS2 hK hb7 hz7 hasz hus;go_wp2_with fail;refine(hp2 _).mono ?_;rintro e w' ⟨rfl,rfl⟩;clear hp2;go_wp2_with fail;have hS0:w7.drew.cell? ⟨wr.heap.size,K,none⟩=some (.int .u8 (yv:Int)):=z1;have z3:w7.drew.frozen? ⟨wr.heap.size,K,none⟩=false:=z2;refine wp_region_held_drew (S:=fun _=>True) (by kernel_rfl) trivial (fun hHeld=>?_)
  iterate 5
   refine fV 0 0 (by simp only[List.size_toArray,List.length_cons,List.length_nil,Nat.reduceAdd,Nat.reduceSub]<;>rfl) (by simp only[List.getElem?_toArray,List.getElem?_cons_succ,List.getElem?_cons_zero];rfl) (by kernel_rfl) (by exact fun _ _ _ h=>h) (by first|exact Or.inr ⟨by rfl,rfl⟩|(refine Or.inl ⟨by rfl,?_⟩;intro w' hSw;(try dsimp only at hSw);(try go_simp);try with_reducible rfl)) (by assumption) ?_
   try simp only[Act.put,List.setIfInBounds_toArray,List.set_cons_zero,List.set_cons_succ]
  refine fV 1 0 (by simp only[List.size_toArray,List.length_cons,List.length_nil,Nat.reduceAdd,Nat.reduceSub]<;>rfl) (by simp only[List.getElem?_toArray,List.getElem?_cons_succ,List.getElem?_cons_zero];rfl) (by kernel_rfl) (by exact fun _ _ _ h=>h) (by first|exact Or.inr ⟨by rfl,rfl⟩|(refine Or.inl ⟨by rfl,?_⟩;intro w' hSw;(try dsimp only at hSw);(try go_simp);try with_reducible rfl)) (by assumption) ?_
  try simp only[Act.put,List.setIfInBounds_toArray,List.set_cons_zero,List.set_cons_succ]
  refine wpAnyH_ready (rs:=[5,7]) (by kernel_rfl) (by simp) ?_;refine AllReadyH.cons rfl (fun K' hK=>?_) (AllReadyH.cons rfl (fun K' hK=>?_) AllReadyH.nil)
  ·go_simp;refine hK.out _ _ trivial (fun _=>?_)
   try simp only[Act.put,List.setIfInBounds_toArray,List.set_cons_zero,List.set_cons_succ]
   clear hK K';refine dJ (i:=7) (by kernel_rfl) rfl (fun K' hK=>?_);go_simp;refine(hp8 _).mono ?_;rintro e w' ⟨rfl,rfl⟩
   (try go_wp2_with fail)
   refine hK.out _ _ trivial (fun _=>?_)
   try simp only[Act.put,List.setIfInBounds_toArray,List.set_cons_zero,List.set_cons_succ]
   clear hK K'
   iterate 3
    refine fV 0 0 (by simp only[List.size_toArray,List.length_cons,List.length_nil,Nat.reduceAdd,Nat.reduceSub]<;>rfl) (by simp only[List.getElem?_toArray,List.getElem?_cons_succ,List.getElem?_cons_zero];rfl) (by kernel_rfl) (by exact fun _ _ _ h=>h) (by first|exact Or.inr ⟨by rfl,rfl⟩|(refine Or.inl ⟨by rfl,?_⟩;intro w' hSw;(try dsimp only at hSw);(try go_simp);try with_reducible rfl)) (by assumption) ?_
    try simp only[Act.put,List.setIfInBounds_toArray,List.set_cons_zero,List.set_cons_succ]
   refine dJ (i:=11) (by kernel_rfl) rfl (fun K' hK=>?_);go_simp;refine hK.out _ _ trivial (fun _=>?_)
   try simp only[Act.put,List.setIfInBounds_toArray,List.set_cons_zero,List.set_cons_succ]
   clear hK K';refine wpAnyH_done (by kernel_rfl) ?_ _;have hE9:dU (w7.drew.setCell ⟨wr.heap.size,K,none⟩ (.int .u8 (Y2.toNat:Int))):=hEE.below (h9c _);have h9:=h9c (.int .u8 (Y2.toNat:Int));clear hS0 z3 h9c hHeld z1 z2;have hbk:=HB.out;clear HB;rw[World.setCell_drew] at hbk hE9 h9;generalize (w7.setCell ⟨wr.heap.size,K,none⟩ (.int .u8 (Y2.toNat:Int))).drew=w8 at*
   go_wp2_with fail;refine(hrv _ hE9).mono ?_;rintro e w10 ⟨rfl,h10⟩;go_wp2_with fail;go_ret;exact⟨rfl,aW h9 h10⟩
  ·go_simp;refine(hp8 _).mono ?_;rintro e w' ⟨rfl,rfl⟩
   (try go_wp2_with fail)
   refine hK.out _ _ trivial (fun _=>?_)
   try simp only[Act.put,List.setIfInBounds_toArray,List.set_cons_zero,List.set_cons_succ]
   clear hK K';refine fV 1 0 (by simp only[List.size_toArray,List.length_cons,List.length_nil,Nat.reduceAdd,Nat.reduceSub]<;>rfl) (by simp only[List.getElem?_toArray,List.getElem?_cons_succ,List.getElem?_cons_zero];rfl) (by kernel_rfl) (by exact fun _ _ _ h=>h) (by first|exact Or.inr ⟨by rfl,rfl⟩|(refine Or.inl ⟨by rfl,?_⟩;intro w' hSw;(try dsimp only at hSw);(try go_simp);try with_reducible rfl)) (by assumption) ?_
   try simp only[Act.put,List.setIfInBounds_toArray,List.set_cons_zero,List.set_cons_succ]
   refine dJ (i:=5) (by kernel_rfl) rfl (fun K' hK=>?_);go_simp;refine hK.out _ _ trivial (fun _=>?_)
   try simp only[Act.put,List.setIfInBounds_toArray,List.set_cons_zero,List.set_cons_succ]
   clear hK K'
   iterate 2
    refine fV 0 0 (by simp only[List.size_toArray,List.length_cons,List.length_nil,Nat.reduceAdd,Nat.reduceSub]<;>rfl) (by simp only[List.getElem?_toArray,List.getElem?_cons_succ,List.getElem?_cons_zero];rfl) (by kernel_rfl) (by exact fun _ _ _ h=>h) (by first|exact Or.inr ⟨by rfl,rfl⟩|(refine Or.inl ⟨by rfl,?_⟩;intro w' hSw;(try dsimp only at hSw);(try go_simp);try with_reducible rfl)) (by assumption) ?_
    try simp only[Act.put,List.setIfInBounds_toArray,List.set_cons_zero,List.set_cons_succ]
   refine dJ (i:=11) (by kernel_rfl) rfl (fun K' hK=>?_);go_simp;refine hK.out _ _ trivial (fun _=>?_)
   try simp only[Act.put,List.setIfInBounds_toArray,List.set_cons_zero,List.set_cons_succ]
   clear hK K';refine wpAnyH_done (by kernel_rfl) ?_ _;have hE9:dU (w7.drew.setCell ⟨wr.heap.size,K,none⟩ (.int .u8 (Y2.toNat:Int))):=hEE.below (h9c _);have h9:=h9c (.int .u8 (Y2.toNat:Int));clear hS0 z3 h9c hHeld z1 z2;have hbk:=HB.out;clear HB;rw[World.setCell_drew] at hbk hE9 h9;generalize (w7.setCell ⟨wr.heap.size,K,none⟩ (.int .u8 (Y2.toNat:Int))).drew=w8 at*
   go_wp2_with fail;refine(hrv _ hE9).mono ?_;rintro e w10 ⟨rfl,h10⟩;go_wp2_with fail;go_ret;exact⟨rfl,aW h9 h10⟩
end Go.Proofs.YtihbnmlinkbnkaaGreatDoor
