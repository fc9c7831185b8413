/-
  The walk of the statement IndexMore.
-/
import Derived.Test.YtihbnmlinkbnkaaGreatDoorM19uZ
import Derived.OneCell
import Derived.Test.YtihbnmlinkbnkaaGreatDoorZ46
set_option linter.unusedVariables false
set_option linter.unusedSimpArgs false
set_option maxRecDepth 100000
set_option maxHeartbeats 12800000
namespace Go.Proofs.YtihbnmlinkbnkaaGreatDoor
open Go.RowKit Go Go.Shelf
theorem appCopy19 {ops:Array Oper} {rest:List Oper} {o:Oper} {a:Act} {Q:Exit->Act->World->Prop} {w:World} (hgd:o.guard=none) (s x:Operand)
  (ho:o.op=.call {callee:=.builtin .append,args:=#[s,x],argTypes:=#[56,56]}) (hs:a.eval s=.slice none 0 0)
  (sv:Value) (hx:a.eval x=sv) (l:List Ent) (hsrc:RdR w sv (l.map bG)) (hl:l.length<=1000)
  (h:∀v' w',OwR w' w.heap.size 73 5 v' (l.map bG)->Below w.heap.size w w'->wpList Tryz.prog ops Q rest (a.put o.dst v') w'):wpList Tryz.prog ops Q (o::rest) a w:=by
 rcases Nat.eq_zero_or_pos l.length with h0|h0
 ·obtain rfl:l=[]:=List.eq_nil_of_length_eq_zero h0;obtain⟨p,c,rfl,-⟩:=nS hsrc;exact bFu hgd s x ho _ _ _ _ hs hx (aKy none 0 0 (Nat.le_refl _) p c _ w) (h _ w (OwR.nil _ _ _ _) (Below.refl _ _))
 ·exact bFp hgd s x ho hs sv hx l hsrc h0 hl (fun g cap w' k1 k2=>h _ w' k1 k2)
theorem indexMore_any (s:ByteArray) (v:Value) (raw:List (Int×Int)) (n0 n1:Int) (t:ByteArray) (m0 m1:Int) (w:World) (hE:dU w) (_hs:s.size<=maxLen) (hr:RdP w v raw) (hwf:WfP raw) (hl1: -9223372036854775808<=n0) (hl2:n0<=9223372036854775807) (hm1: -9223372036854775808<=n1) (hm2:n1<=9223372036854775807) (_ht:t.size<=maxLen) (hk1: -9223372036854775808<=m0) (hk2:m0<=9223372036854775807) (hj1: -9223372036854775808<=m1) (hj2:m1<=9223372036854775807):
  Calls Tryz.prog 8 #[.string s,v,.agg #[.int .i64 n0,.int .i64 n1],.string t,.agg #[.int .i64 m0,.int .i64 m1]] w fun e w'=>e=.returned (.bool true)/\Below w.heap.size w w':=by
 have hN:=(Arr.new w 74 [.int .i64 n0,.int .i64 n1]).alloc (.cells #[.int .i64 m0,.int .i64 m1] 74);have hN2:=Arr.new (w.alloc (.cells #[.int .i64 n0,.int .i64 n1] 74)) 74 [.int .i64 m0,.int .i64 m1];rw[World.size_alloc] at hN2;change Arr ((w.alloc (.cells #[.int .i64 n0,.int .i64 n1] 74)).alloc (.cells #[.int .i64 m0,.int .i64 m1] 74)) _ _ _ at hN;change Arr ((w.alloc (.cells #[.int .i64 n0,.int .i64 n1] 74)).alloc (.cells #[.int .i64 m0,.int .i64 m1] 74)) _ _ _ at hN2
 have hb0:Below w.heap.size w ((w.alloc (.cells #[.int .i64 n0,.int .i64 n1] 74)).alloc (.cells #[.int .i64 m0,.int .i64 m1] 74)):=bD (bD (Below.refl _ _) _) _;have hE0:=hE.below hb0;have hr0:=hr.below hb0;clear hE hr;go_enter Tryz.func8,Tryz.ntmps8;go_wp2_with fail;obtain⟨z,hz⟩:∃z,z=w.heap.size:=⟨_,rfl⟩;generalize (w.alloc (.cells #[.int .i64 n0,.int .i64 n1] 74)).alloc (.cells #[.int .i64 m0,.int .i64 m1] 74)=w0 at*
 rw[<-hz] at hN hN2 ⊢;clear hz;refine(bHn _ hE0).mono ?_;rintro e w1 ⟨rfl,h1⟩;have hE1:=hE0.below h1;have hr1:=hr0.below h1;have hN1:=hN.below h1 hN.lt;have hN3:=hN2.below h1 hN2.lt;have h01:=aW hb0 h1;have d0:=hN1.cell (i:=0) rfl;have d1:=hN1.cell (i:=1) rfl;clear hb0 h1 hE0 hr0 hN hN2;go_wp2_with fail;refine(bHj s v raw n0 n1 _ hr1 hwf hl1 hl2 hm1 hm2).mono ?_;rintro e w2 ⟨a,rfl,ha,h2⟩;have hE2:=hE1.below h2;have hN4:=hN3.below h2 hN3.lt;have h02:=aW h01 h2;have p0:=hN4.cell (i:=0) rfl;have p1:=hN4.cell (i:=1) rfl;clear h01 h2 hE1 hr1 hwf d0 d1 hN1 hN3;go_wp2_with fail
 refine(bHj t (.slice none 0 0) [] m0 m1 _ ⟨none,0,rfl,Nat.le_refl _,by simp[maxLen],fun h=>absurd h (by simp)⟩ (by intro p hp;simp at hp) hk1 hk2 hj1 hj2).mono ?_;rintro e w3 ⟨b,rfl,hb,h3⟩;have hE3:=hE2.below h3;have h03:=aW h02 h3;clear h02 h3 hE2 hN4 p0 p1;obtain⟨k1,k2,k3⟩:=ha.facts;obtain⟨k4,k5,k6⟩:=hb.facts;obtain⟨j1,j2,j3,j4,j5⟩:=scan_join ha hb;have hrs:eY a.data.toList=(cI a.data.toList).1:=by unfold eY;rw[aB k2]
 have hrs2:eY b.data.toList=(cI b.data.toList).1:=by unfold eY;rw[aB k5]
 have hgood:=fun p (h:p∈eY b.data.toList)=>(aJh p h).facts
 have hget:=fun i p=>scanE_get (eY b.data.toList) 0 i p
 rw[<-hrs] at k3;rw[<-hrs2] at k6;have hsa:=fun W h=>GK a W h (by omega)
 have hsb:=fun W h=>GK b W h (by omega)
 have hab:(a++b).size=a.size+b.size:=ByteArray.size_append;have hsab:=fun W h=>GK (a++b) W h (by omega)
 have hra:=fun W h=>aJk a W h (by omega)
 rw[k2] at hsa hra;rw[k5] at hsb;rw[j1,j2] at hsab;have hla:=NK (eY a.data.toList) 0;have hlb:=NK (eY b.data.toList) 0;have hcl:=catT_len (eY a.data.toList);have hbl:b.data.toList.length=b.size:=by simp
 obtain⟨Q,hQ⟩:∃Q,Q=eY b.data.toList:=⟨_,rfl⟩;obtain⟨P,hP⟩:∃P,P=eY a.data.toList:=⟨_,rfl⟩;rw[<-hP] at hla hcl j2 j3 j4 k3 hsa hsab hra;rw[<-hQ] at hgood hget hlb j2 j3 j5 k6 hsb hsab;obtain⟨U,hU⟩:∃U,U=iH (P.map Prt.t):=⟨_,rfl⟩;rw[<-hU] at hcl hra;obtain⟨J,hJ⟩:∃J,J=gU 0 P:=⟨_,rfl⟩;obtain⟨M,hM⟩:∃M,M=gU 0 Q:=⟨_,rfl⟩;obtain⟨A8,hA8⟩:∃A8,A8=8*a.size:=⟨_,rfl⟩;rw[<-hcl,<-hA8] at hsab j2;rw[<-hJ] at hla j2 j3 j4 hsa hsab;rw[<-hM] at hlb hget j2 j3 j5 hsb hsab;obtain⟨F,hF⟩:∃F,F=J++M.map (shE (A8:Int) (U.size:Int)):=⟨_,rfl⟩;rw[<-hF] at hsab j2;rw[j2] at j3
 have hFl:F.length<=10:=by rw[hF,List.length_append,List.length_map];omega
 have hbd:=VN (l:=J) (by omega);have hbd2:=VN (l:=M) (by omega);have hus:U.size<=18720000000:=by omega
 have HS:=hid (fun k=>show vE (Q.take k)<=18720000000 by have:=sumT_take_le Q k;omega);have hta:=fun v W h=>VO v J W h (by omega)
 have htb:=fun v W h=>VO v M W h (by omega)
 have htf:=fun v W h=>VO v F W h (by omega)
 rw[j3] at htf;have hsm:=fun u v W h1 h2=>bHi u v F F W h1 h2 (by omega) (by omega)
 rw[aG (rfl:F=F)] at hsm;obtain⟨Ta,hTa⟩:∃Ta,Ta=lG J:=⟨_,rfl⟩;obtain⟨Tb,hTb⟩:∃Tb,Tb=lG M:=⟨_,rfl⟩;rw[<-hTa] at hta htf hbd;rw[<-hTb] at htb htf hbd2;have m1':IntKind.i64.wrap (Ta+Tb)=Ta+Tb:=by rw[IntKind.wrap_i64];omega
 have m2':((Ta+Tb)==(Ta+Tb))=true:=beq_self_eq_true _;have m3':IntKind.i64.wrap (8*(a.size:Int))=(A8:Int):=by rw[show 8*(a.size:Int)=(A8:Int) by omega];exact lE A8 (by omega)
 have m4':8*(a.size:Int)=(A8:Int):=by omega
 have m5':IntKind.i64.wrap (A8:Int)=(A8:Int):=lE A8 (by omega);have q0:¬9223372036854775807<a.size+b.size:=by omega
 obtain⟨C,hC⟩:∃C,C=a++b:=⟨_,rfl⟩;rw[<-hC] at hsab;have hC':=hC.symm;have HF:=hid hF;have HLB:=hid hlb;have HA8:A8<=144000:=by omega
 have hJl:J.length<=5:=by omega
 have hMl:M.length<=5:=by omega
 clear hF hlb hla hcl j1 j2 j3 j4 j5 k2 k5 hrs hrs2 hab hQ hP hU hJ hM hA8 hTa hTb hC ha hb;go_wp2_with fail;refine(hsa _ hE3).mono ?_;rintro e w4 ⟨v4,rfl,hv4,h4⟩;have hE4:=hE3.below h4;have h04:=aW h03 h4;clear hsa hE3 h03 h4;go_wp2_with fail;refine(hsb _ hE4).mono ?_;rintro e w5 ⟨v5,rfl,hv5,h5⟩;have hE5:=hE4.below h5;have hv45:=hv4.below h5;have h05:=aW h04 h5;clear hsb hE4 h04 h5 hv4;go_wp2_with fail;refine(hsab _ hE5).mono ?_;rintro e w6 ⟨v6,rfl,hv6,h6⟩;have hE6:=hE5.below h6;have hv46:=hv45.below h6;have hv56:=hv5.below h6;have h06:=aW h05 h6;clear hsab hE5 h05 h6 hv45 hv5
 go_wp2_with fail;refine(hra _ hE6).mono ?_;rintro e w7 ⟨rfl,h7⟩;have hv47:=hv46.below h7;have hv57:=hv56.below h7;have hv67:=hv6.below h7;have h07:=aW h06 h7;clear hra hE6 h06 h7 hv46 hv56 hv6 hC' q0;obtain⟨a5,c5,hv5',hc5,hm5,hA5⟩:=nS hv57;subst hv5';unfold maxLen at hm5;go_wp2_with (at_builtin;refine appCopy19 rfl _ _ rfl rfl _ rfl J hv47 (by omega) ?_;intro v8 w8 ho8 h8);have hA5:=hid hA5;have hv48:=hv47.below h8;have hv58:=hv57.below h8;have hv68:=hv67.below h8;have h08:=aW h07 h8;have hs78:w7.heap.size<=w8.heap.size:=h8.size
 go_loopg [22,23,24] M.length (fun g s22 s23 _s24 wr=>∃k:Nat,k<=M.length/\g=M.length-k/\s23=.int .i64 (k:Int)/\OwR wr w7.heap.size 73 5 s22 ((J++(M.take k).map (shE (A8:Int) (U.size:Int))).map bG)/\Below w7.heap.size w7 wr)
 case atStart=>exact⟨0,Nat.zero_le _,rfl,rfl,by rw[List.take_zero,List.map_nil,List.append_nil];exact ho8,h8⟩
 case round=>
 obtain⟨k,hk,hg,rfl,hor,hbel⟩:=hrel;have HG:=hid hg;clear hg
 by_cases hlt:k<M.length
 ·have t1:decide ((k:Int)<(M.length:Int))=true:=aG (by omega);obtain⟨b5,o5,rfl,hb5,hc⟩:=hA5.out (by omega);obtain⟨q,hq⟩:∃q,Q[k]? =some q:=⟨_,List.getElem?_eq_getElem (by have:=HLB.out;omega)⟩;have hM:=hget k q hq;obtain⟨e0,e1,e2,e3,e4⟩:=hc k _ hM;obtain⟨f1,f2,f3,f4,f5,f6⟩:=hgood q (List.mem_of_getElem? hq);obtain⟨Aq,hAq⟩:∃Aq:Nat,q.a=(Aq:Int):=⟨q.a.toNat,by omega⟩;obtain⟨F0,hF0⟩:∃F0,F0=vE (Q.take k):=⟨_,rfl⟩;rw[<-hF0,Int.zero_add] at hM e2;rw[hAq] at hM e0;obtain⟨A2,hA2⟩:∃A2,A2=Aq+A8:=⟨_,rfl⟩;obtain⟨F2,hF2⟩:∃F2,F2=F0+U.size:=⟨_,rfl⟩
  have HT:=hid (show(J++(M.take (k+1)).map (shE (A8:Int) (U.size:Int))).map bG=(J++(M.take k).map (shE (A8:Int) (U.size:Int))).map bG++[bG ⟨(A2:Int),q.r,(F2:Int),(q.t.size:Int),q.y⟩] by
   rw[List.take_add_one,hM];simp[shE,hA2,hF2])
  have hF0b:F0<=18720000000:=by rw[hF0];exact HS.out k
  have g1:IntKind.i64.wrap ((Aq:Int)+(A8:Int))=(A2:Int):=by rw[show(Aq:Int)+(A8:Int)=(A2:Int) by omega];exact lE A2 (by omega)
  have g2:(Aq:Int)+(A8:Int)=(A2:Int):=by omega
  have g3:IntKind.i64.wrap ((F0:Int)+(U.size:Int))=(F2:Int):=by rw[show(F0:Int)+(U.size:Int)=(F2:Int) by omega];exact lE F2 (by omega)
  have g4:(F0:Int)+(U.size:Int)=(F2:Int):=by omega
  have g5:=lE A2 (by omega);have g6:=lE F2 (by omega);have c0:=(hbel.cell (p:=⟨b5,o5+k*5,none⟩) hb5).trans e0;have c1:=(hbel.cell (p:=⟨b5,o5+k*5+1,none⟩) hb5).trans e1;have c2:=(hbel.cell (p:=⟨b5,o5+k*5+2,none⟩) hb5).trans e2;have c3:=(hbel.cell (p:=⟨b5,o5+k*5+3,none⟩) hb5).trans e3;have c4:=(hbel.cell (p:=⟨b5,o5+k*5+4,none⟩) hb5).trans e4;dsimp only at c0 c1 c2 c3 c4;clear hA5 hc hM hq e0 e1 e2 e3 e4 f1 f2 f3 f4 f5 f6 hAq hF0 hA2 hF2 hF0b hsm hta htb htf hget hgood;go_upto_region 13 with fail
  have hZ:=Arr.new wr 73 [.int .i64 (Aq:Int),.int .i64 q.r,.int .i64 (F0:Int),.int .i64 (q.t.size:Int),.int .u32 q.y];change Arr (wr.alloc (.cells #[.int .i64 (Aq:Int),.int .i64 q.r,.int .i64 (F0:Int),.int .i64 (q.t.size:Int),.int .u32 q.y] 73)) _ _ _ at hZ;have hor1:=OwR.alloc hor (.cells #[.int .i64 (Aq:Int),.int .i64 q.r,.int .i64 (F0:Int),.int .i64 (q.t.size:Int),.int .u32 q.y] 73);have hbe1:=hbel.alloc hbel.size (.cells #[.int .i64 (Aq:Int),.int .i64 q.r,.int .i64 (F0:Int),.int .i64 (q.t.size:Int),.int .u32 q.y] 73);have hlt0:=fun g (hg:(u22:Value).ownBlock=some g)=>(OwR.lt hor g hg).2
  clear c0 c1 c2 c3 c4 hor;obtain⟨zb,hzb⟩:∃zb,zb=wr.heap.size:=⟨_,rfl⟩;have hzB:w7.heap.size<=zb:=by rw[hzb];exact hbel.size
  generalize wr.alloc (.cells #[.int .i64 (Aq:Int),.int .i64 q.r,.int .i64 (F0:Int),.int .i64 (q.t.size:Int),.int .u32 q.y] 73)=wA at*
  rw[<-hzb] at hZ hlt0 ⊢;clear hzb hbel;have x0:=hZ.cell (i:=0) rfl;have y0:=hZ.free 0;have x2':=hZ.cell (i:=2) rfl;have y2':=hZ.free 2;have hZ1:=hZ.set 0 (.int .i64 (A2:Int));have x2:=hZ1.cell (i:=2) rfl;have y2:=hZ1.free 2;have hZ2:=hZ1.set 2 (.int .i64 (F2:Int));change Arr ((wA.setCell ⟨zb,0,none⟩ (.int .i64 (A2:Int))).setCell ⟨zb,2,none⟩ (.int .i64 (F2:Int))) zb 73 (bG ⟨(A2:Int),q.r,(F2:Int),(q.t.size:Int),q.y⟩) at hZ2;go_upto_region 15 with fail;have hbe2:=(hbe1.setCell (p:=⟨zb,0,none⟩) hzB (.int .i64 (A2:Int))).setCell (p:=⟨zb,2,none⟩) hzB (.int .i64 (F2:Int))
  have hor2:OwR ((wA.setCell ⟨zb,0,none⟩ (.int .i64 (A2:Int))).setCell ⟨zb,2,none⟩ (.int .i64 (F2:Int))) w7.heap.size 73 5 u22 ((J++(M.take k).map (shE (A8:Int) (U.size:Int))).map bG):=by
   have hne:(u22:Value).ownBlock≠some zb:=fun e=>by have:=hlt0 zb e;omega
   exact ownsRow_setCell_other (ownsRow_setCell_other hor1 (a:=⟨zb,0,none⟩) hne _) (a:=⟨zb,2,none⟩) hne _
  generalize (wA.setCell ⟨zb,0,none⟩ (.int .i64 (A2:Int))).setCell ⟨zb,2,none⟩ (.int .i64 (F2:Int))=wB at*
  have hbs:=hbe2.size;have r0:=hZ2.cell (i:=0) rfl;have r1:=hZ2.cell (i:=1) rfl;have r2:=hZ2.cell (i:=2) rfl;have r3:=hZ2.cell (i:=3) rfl;have r4:=hZ2.cell (i:=4) rfl;have hB5:=Arr.new wB 73 (bG ⟨(A2:Int),q.r,(F2:Int),(q.t.size:Int),q.y⟩);have hlnJ:((J++(M.take k).map (shE (A8:Int) (U.size:Int))).map bG).length<=10:=by rw[List.length_map,List.length_append,List.length_map,List.length_take];omega
  go_wp2_with (at_builtin;refine aKp rfl _ _ rfl w7.heap.size _ _ rfl (OwR.alloc hor2 _) ⟨(A2:Int),q.r,(F2:Int),(q.t.size:Int),q.y⟩ wB.heap.size rfl hB5 ?_ ?_ ?_;(omega);(simp;omega);intro v' w9 k1 k2);have hg:=HG.out
  go_roundg (M.length-(k+1))
  case measure=>omega
  case rel=>exact⟨k+1,by omega,rfl,by go_num,by rw[HT.out];exact k1,(hbe2.alloc hbe2.size _).trans k2⟩
 ·have t1:decide ((k:Int)<(M.length:Int))=false:=aE (by omega);have hfin:J++(M.take k).map (shE (A8:Int) (U.size:Int))=F:=by rw[HF.out,List.take_of_length_le (by omega)]
  rw[hfin] at hor;have h0r:=aW h07 hbel;have hvF:=hor.rd;have x4:=hv47.below hbel;have x5:=hv57.below hbel;have x6:=hv67.below hbel;clear HG hA5 hc5 hm5 hor hbel hfin hv47 hv57 hv67 hv48 hv58 hv68 ho8 h8 h08;go_wp2_with fail;refine(hsm _ _ _ x6 hvF).mono ?_;rintro e w9 ⟨rfl,h9⟩;have y4:=x4.below h9;have y5:=x5.below h9;have y6:=x6.below h9;have h09:=aW h0r h9;clear hsm h0r h9 hvF x4 x5 x6;go_wp2_with fail;refine(htf _ _ y6).mono ?_;rintro e w10 ⟨rfl,h10⟩;have z4:=y4.below h10;have z5:=y5.below h10;have h010:=aW h09 h10;clear htf h09 h10 y4 y5 y6;go_wp2_with fail
  refine(hta _ _ z4).mono ?_;rintro e w11 ⟨rfl,h11⟩;have u5:=z5.below h11;have h011:=aW h010 h11;clear hta h010 h11 z4 z5;go_wp2_with fail;refine(htb _ _ u5).mono ?_;rintro e w12 ⟨rfl,h12⟩;go_wp2_with fail;go_ret;exact⟨rfl,aW h011 h12⟩
end Go.Proofs.YtihbnmlinkbnkaaGreatDoor
