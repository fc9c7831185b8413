/-
  The walk of the statement SidecarTells.
-/
import Derived.Test.YtfplbbphficcjaaGreatDoorZ40
set_option linter.unusedVariables false
set_option linter.unusedSimpArgs false
set_option maxRecDepth 100000
set_option maxHeartbeats 12800000
namespace Go.Proofs.YtfplbbphficcjaaGreatDoor
open Go.RowKit Go Go.Shelf
theorem sidecarTells_any (v0:Value) (ents:List Ent) (v1:Value) (trips:List kE) (which x:Int) (s:ByteArray) (v:Value) (raw:List (Int×Int)) (n0 n1:Int) (odd:ByteArray) (w:World) (hE:dU w) (hr0:RdR w v0 (ents.map bG)) (hwe:WfE ents) (hr1:RdR w v1 (trips.map AM)) (hwt:WfT trips)
  (hw1: -9223372036854775808<=which) (hw2:which<=9223372036854775807) (hx1: -9223372036854775808<=x) (hx2:x<=9223372036854775807) (_hs:s.size<=maxLen) (hr:RdP w v raw) (hwf:WfP raw) (hl1: -9223372036854775808<=n0) (hl2:n0<=9223372036854775807) (hm1: -9223372036854775808<=n1) (hm2:n1<=9223372036854775807) (hod:odd.size<=maxLen):
  Calls Tryz.prog 3 #[v0,v1,.int .i64 which,.int .i64 x,.string s,v,.agg #[.int .i64 n0,.int .i64 n1],.string odd] w fun e w'=>e=.returned (.bool true)/\Below w.heap.size w w':=by
 have hN:=Arr.new w 25 [.int .i64 n0,.int .i64 n1];change Arr (w.alloc (.cells #[.int .i64 n0,.int .i64 n1] 25)) _ _ _ at hN;have hb0:Below w.heap.size w (w.alloc (.cells #[.int .i64 n0,.int .i64 n1] 25)):=bD (Below.refl _ _) _;have hE0:=hE.below hb0;have hr00:=hr.below hb0;have hy0:=hr0.below hb0;have ht0:=hr1.below hb0;obtain⟨ya,yc,rfl,hyc,hym,-⟩:=nS hr0;unfold maxLen at hym;clear hE hr hr0 hr1;go_enter Tryz.func3,Tryz.ntmps3;go_wp2_with fail;obtain⟨z,hz⟩:∃z,z=w.heap.size:=⟨_,rfl⟩;generalize w.alloc (.cells #[.int .i64 n0,.int .i64 n1] 25)=w0 at*
 rw[<-hz] at hN ⊢;clear hz;refine(bHp _ hE0).mono ?_;rintro e w1 ⟨rfl,h1⟩;have hE1:=hE0.below h1;have hr1:=hr00.below h1;have hy1:=hy0.below h1;have ht1:=ht0.below h1;have hN1:=hN.below h1 hN.lt;have h01:=aW hb0 h1;have d0:=hN1.cell (i:=0) rfl;have d1:=hN1.cell (i:=1) rfl;clear hb0 h1 hE0 hr00 hy0 ht0 hN;go_wp2_with fail;refine(bHj s v raw n0 n1 _ hr1 hwf hl1 hl2 hm1 hm2).mono ?_;rintro e w2 ⟨a,rfl,ha,h2⟩;have hE2:=hE1.below h2;have hy2:=hy1.below h2;have ht2:=ht1.below h2;have h02:=aW h01 h2;clear h01 h2 hE1 hr1 hy1 ht1 hwf d0 d1 hN1;obtain⟨k1,k2,k3⟩:=ha.facts
 have hsc:=fun W=>bJa a W (by omega)
 have hix:=fun u W h=>bHk u trips W h hwt
 clear ha;go_wp2_with fail;refine(hix _ _ ht2).mono ?_;rintro e w3 ⟨u3,rfl,hu3,h3⟩;have hE3:=hE2.below h3;have hy3:=hy2.below h3;have h03:=aW h02 h3;clear h02 h3 hE2 hy2 ht2 hix;go_wp2_with fail;refine(hsc _).mono ?_;rintro e w4 ⟨u4,rfl,hu4,h4⟩;have hE4:=hE3.below h4;have hy4:=hy3.below h4;have hi4:=hu3.below h4;have h04:=aW h03 h4;clear h03 h4 hE3 hy3 hu3;obtain⟨m,hmi,hm3,hm4⟩:=BE ents.length 12 (by decide);have hm12:m<=12:=by omega
 have hcut:=bIm ya ents.length yc m hm4 hyc;have hyp:=bIn hy4 m hm4;have hmi2:min (ents.length:Int) 12=(m:Int):=by omega
 clear hm3;have hal:a.data.toList.length=a.size:=rfl;have hrs:eY a.data.toList=(cI a.data.toList).1:=by unfold eY;rw[aB k2]
 have hrt:=bFc k2;have hft:=bFd k2 (by omega) (by omega);rw[<-hrs] at hrt hft;have hll:(gU 0 (eY a.data.toList)).length<=5:=by rw[NK,hrs];exact k3
 obtain⟨J,hJ⟩:∃J,J=gU 0 (eY a.data.toList):=⟨_,rfl⟩;rw[<-hJ] at hrt hft hll hu4;have htu:=fun u W h=>bHm u J which x W h (by omega) (xS hft) hw1 hw2 hx1 hx2
 have hti:=fun u W h=>bHm u (tY trips) which x W h (by have:=bG8 trips;omega) (xS (EX trips)) hw1 hw2 hx1 hx2
 have HA:=hid (show a.size<=18000 from k1);have HJ:=hid (And.intro hrt (And.intro hft hll));clear k1 k2 k3 hal hrs hrt hft hll hJ hsc;go_wp2_with fail;refine(htu _ _ hu4).mono ?_;rintro e w5 ⟨u5,O,rfl,ho5,hOl,hOw,h5⟩;have hE5:=hE4.below h5;have hy5:=hyp.below h5;have hi5:=hi4.below h5;have hu5:=hu4.below h5;have h05:=aW h04 h5;clear h04 h5 hE4 hyp hy4 hi4 hu4 htu hmi hmi2 hcut;go_wp2_with fail;refine(hti _ _ hi5).mono ?_;rintro e w6 ⟨u6,P,rfl,hp6,hPl,hPw,h6⟩;have hE6:=hE5.below h6;have hy6:=hy5.below h6;have hi6:=hi5.below h6;have hu6:=hu5.below h6;have ho6:=ho5.below h6
 have h06:=aW h05 h6;clear h05 h6 hE5 hy5 hi5 hu5 ho5 hti;obtain⟨ia,ic,rfl,-⟩:=nS hi6;obtain⟨oa,oc,rfl,-⟩:=nS ho6;obtain⟨pa,pc,rfl,-⟩:=nS hp6;go_wp2_with fail;have hBx:=Arr.new w6 22 [.slice ya m yc,.slice ia (tY trips).length ic,.slice pa P.length pc,.slice oa O.length oc];change Arr (w6.alloc (.cells #[.slice ya m yc,.slice ia (tY trips).length ic,.slice pa P.length pc,.slice oa O.length oc] 22)) _ _ _ at hBx
 have hb7:Below w6.heap.size w6 (w6.alloc (.cells #[.slice ya m yc,.slice ia (tY trips).length ic,.slice pa P.length pc,.slice oa O.length oc] 22)):=bD (Below.refl _ _) _;have hE7:=hE6.below hb7;have hy7:=hy6.below hb7;have hi7:=hi6.below hb7;have hp7:=hp6.below hb7;have ho7:=ho6.below hb7;have hu7:=hu6.below hb7;have h07:=aW h06 hb7;have hwy:WfE (ents.take m):=fun y hy=>hwe y (List.mem_of_mem_take hy)
 have hwi:=xS (EX trips);have hil:=bG8 trips;obtain⟨zb,hzb⟩:∃zb,zb=w6.heap.size:=⟨_,rfl⟩;rw[<-hzb] at hBx ⊢;generalize w6.alloc (.cells #[.slice ya m yc,.slice ia (tY trips).length ic,.slice pa P.length pc,.slice oa O.length oc] 22)=w7 at*
 have HROW:=hid (show ∀k,k<4->∃(qa:Option Addr) (qn qc:Nat) (l:List Ent),w7.cell? ⟨zb,k,none⟩=some (.slice qa qn qc)/\RdR w7 (.slice qa qn qc) (l.map bG)/\l.length<=1000/\WfE l from fun k hk=>by
  have:k=0\/k=1\/k=2\/k=3:=by omega
  rcases this with rfl|rfl|rfl|rfl
  ·exact⟨_,_,_,_,hBx.cell (i:=0) rfl,hy7,by rw[List.length_take];omega,hwy⟩
  ·exact⟨_,_,_,_,hBx.cell (i:=1) rfl,hi7,by omega,hwi⟩
  ·exact⟨_,_,_,_,hBx.cell (i:=2) rfl,hp7,by omega,hPw⟩
  ·exact⟨_,_,_,_,hBx.cell (i:=3) rfl,ho7,by have:=HJ.out.2.2;omega,hOw⟩)
 have hzb7:=hBx.lt;clear h06 hb7 hE6 hy6 hi6 hp6 ho6 hu6 hzb hwy hwi
 go_loopg [25,26,27,28,29,81] 4 (fun g _s25 _s26 _s27 _s28 _s29 s81 wr=>∃k:Nat,k<=4/\g=4-k/\s81=.int .i64 (k:Int)/\Below w7.heap.size w7 wr)
 case atStart=>exact⟨0,by omega,rfl,rfl,Below.refl _ _⟩
 case round=>
  obtain⟨k,hk,hg,rfl,hbel⟩:=hrel;have HG:=hid hg;clear hg
  by_cases hlt:k<4
  ·have t1:decide ((k:Int)<4)=true:=aG (by omega);have hk4:(k:Int)<4:=by omega
   obtain⟨qa,qn,qc,l,hc,hrow,hll,hwl⟩:=HROW.out k hlt;have c0:=(hbel.cell (p:=⟨zb,k,none⟩) hzb7).trans hc;have hrow:=hrow.below hbel;obtain⟨p,E,hps,hS,hD⟩:=bJb a l (by have:=HA.out;omega) hll hwl;clear hc hwl hll;go_wp2_with fail;refine(hS _ _ hrow).mono ?_;rintro e w8 ⟨rfl,h8⟩;have hrow8:=hrow.below h8;clear hS hrow c0;go_wp2_with fail;refine(hD _ _ hrow8).mono ?_;rintro e w9 ⟨rfl,h9⟩;have hb9:=hbel.trans ((aW h8 h9).mono hbel.size);clear hD hrow8 h8 h9;go_wp2_with fail;have hg:=HG.out
   go_roundg (4-(k+1))
   case measure=>omega
   case rel=>exact⟨k+1,by omega,rfl,by go_num,hb9⟩
  ·have t1:decide ((k:Int)<4)=false:=aE (by omega);have hE8:=hE7.below hbel;have hi8:=hi7.below hbel;have hu8:=hu7.below hbel;have ho8:=ho7.below hbel;have h08:=aW h07 hbel;obtain⟨G,EG,hGs,-,hD⟩:=bJb a J (by have:=HA.out;omega) (by have:=HJ.out.2.2;omega) (xS HJ.out.2.1);clear hE7 hy7 hi7 hp7 ho7 hu7 h07 hbel hk HG;go_wp2_with fail;refine(hD _ _ hu8).mono ?_;rintro e w9 ⟨rfl,h9⟩;have hE9:=hE8.below h9;have hi9:=hi8.below h9;have hu9:=hu8.below h9;have ho9:=ho8.below h9;have h09:=aW h08 h9;clear hD hE8 hi8 hu8 ho8 h08 h9;go_wp2_with fail
   --REGION 16
   obtain⟨m6,hm6,hm61,hm62⟩:=BE odd.size 60 (by decide);have hm6':min (odd.size:Int) 60=(m6:Int):=by omega
   have q6:(m6:Int)<=(odd.size:Int):=by omega
   obtain⟨X6,hX6⟩:∃X,X=odd.extract 0 m6:=⟨_,rfl⟩;have hX6s:X6.size<=60:=by rw[hX6];simp;omega
   have hX6':=hX6.symm;clear hX6 hm61 hm62;have htG:=fun W=>bHo G which x W (by omega) hw1 hw2 hx1 hx2
   have hsA:=fun W=>zQ a W (by have:=HA.out;omega)
   have hc32:(cH a.data.toList).toNat<4294967296:=(cH a.data.toList).isLt;have hT1:=fun W (h:RdR W (.slice oa O.length oc) (O.map bG))=>bHl a.size (cH a.data.toList).toNat (.slice oa O.length oc) O W h (by have:=HJ.out.2.2;omega) (by have:=HA.out;omega) hc32
   have hT2:∀W,RdR W (.slice ia (tY trips).length ic) ((tY trips).map bG)->Calls Tryz.prog 12 #[.int .i64 (a.size:Int),.int .u32 0,.slice ia (tY trips).length ic] W fun e w'=>∃s:ByteArray,e=.returned (.string s)/\s.size<=30000/\Below W.heap.size W w':=fun W h=>bHl a.size 0 (.slice ia (tY trips).length ic) (tY trips) W h (by omega) (by have:=HA.out;omega) (by decide)
   generalize hcrc:(cH a.data.toList).toNat=CR at*
   clear hcrc hc32;have hS0:Below w9.heap.size w9 w9.drew/\w9.heap.size<=w9.drew.heap.size:=⟨(Below.refl _ _).drew,Nat.le_refl _⟩;refine wp_region_held_drew (S:=fun wx=>Below w9.heap.size w9 wx/\w9.heap.size<=wx.heap.size) (by kernel_rfl) hS0 (fun hHeld=>?_)
   refine fV 0 0 (by simp only[List.size_toArray,List.length_cons,List.length_nil,Nat.reduceAdd,Nat.reduceSub]<;>rfl) (by simp only[List.getElem?_toArray,List.getElem?_cons_succ,List.getElem?_cons_zero];rfl) (by kernel_rfl) (by exact fun _ _ _ h=>h) (by first|exact Or.inr ⟨by rfl,rfl⟩|(refine Or.inl ⟨by rfl,?_⟩;intro w' hSw;(try dsimp only at hSw);(try go_simp);try with_reducible rfl)) hHeld ?_
   try simp only[Act.put,List.setIfInBounds_toArray,List.set_cons_zero,List.set_cons_succ]
   refine fV 0 0 (by simp only[List.size_toArray,List.length_cons,List.length_nil,Nat.reduceAdd,Nat.reduceSub]<;>rfl) (by simp only[List.getElem?_toArray,List.getElem?_cons_succ,List.getElem?_cons_zero];rfl) (by kernel_rfl) (by exact fun _ _ _ h=>h) (by first|exact Or.inr ⟨by rfl,rfl⟩|(refine Or.inl ⟨by rfl,?_⟩;intro w' hSw;(try dsimp only at hSw);(try go_simp);try with_reducible rfl)) hHeld ?_
   try simp only[Act.put,List.setIfInBounds_toArray,List.set_cons_zero,List.set_cons_succ]
   refine fV 0 0 (by simp only[List.size_toArray,List.length_cons,List.length_nil,Nat.reduceAdd,Nat.reduceSub]<;>rfl) (by simp only[List.getElem?_toArray,List.getElem?_cons_succ,List.getElem?_cons_zero];rfl) (by kernel_rfl) (by exact fun _ _ _ h=>h) (by first|exact Or.inr ⟨by rfl,rfl⟩|(refine Or.inl ⟨by rfl,?_⟩;intro w' hSw;(try dsimp only at hSw);(try go_simp);try with_reducible rfl)) hHeld ?_
   try simp only[Act.put,List.setIfInBounds_toArray,List.set_cons_zero,List.set_cons_succ]
   refine fV 0 0 (by simp only[List.size_toArray,List.length_cons,List.length_nil,Nat.reduceAdd,Nat.reduceSub]<;>rfl) (by simp only[List.getElem?_toArray,List.getElem?_cons_succ,List.getElem?_cons_zero];rfl) (by kernel_rfl) (by exact fun _ _ _ h=>h) (by first|exact Or.inr ⟨by rfl,rfl⟩|(refine Or.inl ⟨by rfl,?_⟩;intro w' hSw;(try dsimp only at hSw);(try go_simp);try with_reducible rfl)) hHeld ?_
   try simp only[Act.put,List.setIfInBounds_toArray,List.set_cons_zero,List.set_cons_succ]
   refine fV 1 0 (by simp only[List.size_toArray,List.length_cons,List.length_nil,Nat.reduceAdd,Nat.reduceSub]<;>rfl) (by simp only[List.getElem?_toArray,List.getElem?_cons_succ,List.getElem?_cons_zero];rfl) (by kernel_rfl) (by exact fun _ _ _ h=>h) (by first|exact Or.inr ⟨by rfl,rfl⟩|(refine Or.inl ⟨by rfl,?_⟩;intro w' hSw;(try dsimp only at hSw);(try go_simp);try with_reducible rfl)) hHeld ?_
   try simp only[Act.put,List.setIfInBounds_toArray,List.set_cons_zero,List.set_cons_succ]
   refine fV 1 0 (by simp only[List.size_toArray,List.length_cons,List.length_nil,Nat.reduceAdd,Nat.reduceSub]<;>rfl) (by simp only[List.getElem?_toArray,List.getElem?_cons_succ,List.getElem?_cons_zero];rfl) (by kernel_rfl) (by exact fun _ _ _ h=>h) (by first|exact Or.inr ⟨by rfl,rfl⟩|(refine Or.inl ⟨by rfl,?_⟩;intro w' hSw;(try dsimp only at hSw);(try go_simp);try with_reducible rfl)) hHeld ?_
   try simp only[Act.put,List.setIfInBounds_toArray,List.set_cons_zero,List.set_cons_succ]
   refine fV 1 0 (by simp only[List.size_toArray,List.length_cons,List.length_nil,Nat.reduceAdd,Nat.reduceSub]<;>rfl) (by simp only[List.getElem?_toArray,List.getElem?_cons_succ,List.getElem?_cons_zero];rfl) (by kernel_rfl) (by exact fun _ _ _ h=>h) (by first|exact Or.inr ⟨by rfl,rfl⟩|(refine Or.inl ⟨by rfl,?_⟩;intro w' hSw;(try dsimp only at hSw);(try go_simp);try with_reducible rfl)) hHeld ?_
   try simp only[Act.put,List.setIfInBounds_toArray,List.set_cons_zero,List.set_cons_succ]
   refine fV 2 0 (by simp only[List.size_toArray,List.length_cons,List.length_nil,Nat.reduceAdd,Nat.reduceSub]<;>rfl) (by simp only[List.getElem?_toArray,List.getElem?_cons_succ,List.getElem?_cons_zero];rfl) (by kernel_rfl) (by exact fun _ _ _ h=>h) (by first|exact Or.inr ⟨by rfl,rfl⟩|(refine Or.inl ⟨by rfl,?_⟩;intro w' hSw;(try dsimp only at hSw);(try go_simp);try with_reducible rfl)) hHeld ?_
   try simp only[Act.put,List.setIfInBounds_toArray,List.set_cons_zero,List.set_cons_succ]
   refine fV 3 0 (by simp only[List.size_toArray,List.length_cons,List.length_nil,Nat.reduceAdd,Nat.reduceSub]<;>rfl) (by simp only[List.getElem?_toArray,List.getElem?_cons_succ,List.getElem?_cons_zero];rfl) (by kernel_rfl) (by exact fun _ _ _ h=>h) (by first|exact Or.inr ⟨by rfl,rfl⟩|(refine Or.inl ⟨by rfl,?_⟩;intro w' hSw;(try dsimp only at hSw);(try go_simp);try with_reducible rfl)) hHeld ?_
   try simp only[Act.put,List.setIfInBounds_toArray,List.set_cons_zero,List.set_cons_succ]
   refine fV 3 0 (by simp only[List.size_toArray,List.length_cons,List.length_nil,Nat.reduceAdd,Nat.reduceSub]<;>rfl) (by simp only[List.getElem?_toArray,List.getElem?_cons_succ,List.getElem?_cons_zero];rfl) (by kernel_rfl) (by exact fun _ _ _ h=>h) (by first|exact Or.inr ⟨by rfl,rfl⟩|(refine Or.inl ⟨by rfl,?_⟩;intro w' hSw;(try dsimp only at hSw);(try go_simp);try with_reducible rfl)) hHeld ?_
   try simp only[Act.put,List.setIfInBounds_toArray,List.set_cons_zero,List.set_cons_succ]
   refine fV 3 0 (by simp only[List.size_toArray,List.length_cons,List.length_nil,Nat.reduceAdd,Nat.reduceSub]<;>rfl) (by simp only[List.getElem?_toArray,List.getElem?_cons_succ,List.getElem?_cons_zero];rfl) (by kernel_rfl) (by exact fun _ _ _ h=>h) (by first|exact Or.inr ⟨by rfl,rfl⟩|(refine Or.inl ⟨by rfl,?_⟩;intro w' hSw;(try dsimp only at hSw);(try go_simp);try with_reducible rfl)) hHeld ?_
   try simp only[Act.put,List.setIfInBounds_toArray,List.set_cons_zero,List.set_cons_succ]
   refine fV 4 0 (by simp only[List.size_toArray,List.length_cons,List.length_nil,Nat.reduceAdd,Nat.reduceSub]<;>rfl) (by simp only[List.getElem?_toArray,List.getElem?_cons_succ,List.getElem?_cons_zero];rfl) (by kernel_rfl) (by exact fun _ _ _ h=>h) (by first|exact Or.inr ⟨by rfl,rfl⟩|(refine Or.inl ⟨by rfl,?_⟩;intro w' hSw;(try dsimp only at hSw);(try go_simp);try with_reducible rfl)) hHeld ?_
   try simp only[Act.put,List.setIfInBounds_toArray,List.set_cons_zero,List.set_cons_succ]
   refine fV 4 0 (by simp only[List.size_toArray,List.length_cons,List.length_nil,Nat.reduceAdd,Nat.reduceSub]<;>rfl) (by simp only[List.getElem?_toArray,List.getElem?_cons_succ,List.getElem?_cons_zero];rfl) (by kernel_rfl) (by exact fun _ _ _ h=>h) (by first|exact Or.inr ⟨by rfl,rfl⟩|(refine Or.inl ⟨by rfl,?_⟩;intro w' hSw;(try dsimp only at hSw);(try go_simp);try with_reducible rfl)) hHeld ?_
   try simp only[Act.put,List.setIfInBounds_toArray,List.set_cons_zero,List.set_cons_succ]
   refine fV 4 0 (by simp only[List.size_toArray,List.length_cons,List.length_nil,Nat.reduceAdd,Nat.reduceSub]<;>rfl) (by simp only[List.getElem?_toArray,List.getElem?_cons_succ,List.getElem?_cons_zero];rfl) (by kernel_rfl) (by exact fun _ _ _ h=>h) (by first|exact Or.inr ⟨by rfl,rfl⟩|(refine Or.inl ⟨by rfl,?_⟩;intro w' hSw;(try dsimp only at hSw);(try go_simp);try with_reducible rfl)) hHeld ?_
   try simp only[Act.put,List.setIfInBounds_toArray,List.set_cons_zero,List.set_cons_succ]
   refine fV 4 0 (by simp only[List.size_toArray,List.length_cons,List.length_nil,Nat.reduceAdd,Nat.reduceSub]<;>rfl) (by simp only[List.getElem?_toArray,List.getElem?_cons_succ,List.getElem?_cons_zero];rfl) (by kernel_rfl) (by exact fun _ _ _ h=>h) (by first|exact Or.inr ⟨by rfl,rfl⟩|(refine Or.inl ⟨by rfl,?_⟩;intro w' hSw;(try dsimp only at hSw);(try go_simp);try with_reducible rfl)) hHeld ?_
   try simp only[Act.put,List.setIfInBounds_toArray,List.set_cons_zero,List.set_cons_succ]
   refine fV 4 0 (by simp only[List.size_toArray,List.length_cons,List.length_nil,Nat.reduceAdd,Nat.reduceSub]<;>rfl) (by simp only[List.getElem?_toArray,List.getElem?_cons_succ,List.getElem?_cons_zero];rfl) (by kernel_rfl) (by exact fun _ _ _ h=>h) (by first|exact Or.inr ⟨by rfl,rfl⟩|(refine Or.inl ⟨by rfl,?_⟩;intro w' hSw;(try dsimp only at hSw);(try go_simp);try with_reducible rfl)) hHeld ?_
   try simp only[Act.put,List.setIfInBounds_toArray,List.set_cons_zero,List.set_cons_succ]
   refine fV 6 0 (by simp only[List.size_toArray,List.length_cons,List.length_nil,Nat.reduceAdd,Nat.reduceSub]<;>rfl) (by simp only[List.getElem?_toArray,List.getElem?_cons_succ,List.getElem?_cons_zero];rfl) (by kernel_rfl) (by exact fun _ _ _ h=>h) (by first|exact Or.inr ⟨by rfl,rfl⟩|(refine Or.inl ⟨by rfl,?_⟩;intro w' hSw;(try dsimp only at hSw);(try go_simp);try with_reducible rfl)) hHeld ?_
   try simp only[Act.put,List.setIfInBounds_toArray,List.set_cons_zero,List.set_cons_succ]
   refine dJ (i:=4) (by kernel_rfl) rfl (fun K hK=>?_);go_simp;refine(htG _).mono ?_;rintro e w11 ⟨U1,rfl,hU1,hb1⟩;have hS1:Below w9.heap.size w9 w11/\w9.heap.size<=w11.heap.size:=⟨hS0.1.trans (hb1.mono hS0.2),Nat.le_trans hS0.2 hb1.size⟩
   (try go_wp2_with fail)
   refine hK.out _ _ hS1 (fun _=>?_)
   try simp only[Act.put,List.setIfInBounds_toArray,List.set_cons_zero,List.set_cons_succ]
   clear hK K;refine dJ (i:=8) (by kernel_rfl) rfl (fun K hK=>?_);go_simp;refine(hsA _).mono ?_;rintro e w12 ⟨rfl,hb2⟩;have hS2:Below w9.heap.size w9 w12/\w9.heap.size<=w12.heap.size:=⟨hS1.1.trans (hb2.mono hS1.2),Nat.le_trans hS1.2 hb2.size⟩
   (try go_wp2_with fail)
   refine hK.out _ _ hS2 (fun _=>?_)
   try simp only[Act.put,List.setIfInBounds_toArray,List.set_cons_zero,List.set_cons_succ]
   clear hK K;refine dJ (i:=10) (by kernel_rfl) rfl (fun K hK=>?_);go_simp;refine(hT1 _ (ho9.below hS2.1)).mono ?_;rintro e w13 ⟨U3,rfl,hU3,hb3⟩;have hS3:Below w9.heap.size w9 w13/\w9.heap.size<=w13.heap.size:=⟨hS2.1.trans (hb3.mono hS2.2),Nat.le_trans hS2.2 hb3.size⟩
   (try go_wp2_with fail)
   refine hK.out _ _ hS3 (fun _=>?_)
   try simp only[Act.put,List.setIfInBounds_toArray,List.set_cons_zero,List.set_cons_succ]
   clear hK K;refine dJ (i:=14) (by kernel_rfl) rfl (fun K hK=>?_);go_simp;refine(hT2 _ (hi9.below hS3.1)).mono ?_;rintro e w14 ⟨U4,rfl,hU4,hb4⟩;have hS4:Below w9.heap.size w9 w14/\w9.heap.size<=w14.heap.size:=⟨hS3.1.trans (hb4.mono hS3.2),Nat.le_trans hS3.2 hb4.size⟩
   (try go_wp2_with fail)
   refine hK.out _ _ hS4 (fun _=>?_)
   try simp only[Act.put,List.setIfInBounds_toArray,List.set_cons_zero,List.set_cons_succ]
   clear hK K;have hBr:=Arr.new w14 9 [.string G,.string U1,.string U3,.string U4,.string X6];change Arr (w14.alloc (.cells #[.string G,.string U1,.string U3,.string U4,.string X6] 9)) _ _ _ at hBr;have hbr:Below w14.heap.size w14 (w14.alloc (.cells #[.string G,.string U1,.string U3,.string U4,.string X6] 9)):=bD (Below.refl _ _) _
   have hS5:Below w9.heap.size w9 (w14.alloc (.cells #[.string G,.string U1,.string U3,.string U4,.string X6] 9))/\w9.heap.size<=(w14.alloc (.cells #[.string G,.string U1,.string U3,.string U4,.string X6] 9)).heap.size:=⟨hS4.1.trans (hbr.mono hS4.2),Nat.le_trans hS4.2 hbr.size⟩;refine dJ (i:=20) (by kernel_rfl) rfl (fun K hK=>?_);go_simp;refine hK.out _ _ hS5 (fun _=>?_)
   try simp only[Act.put,List.setIfInBounds_toArray,List.set_cons_zero,List.set_cons_succ]
   clear hK K;refine fV 0 1 (by simp only[List.size_toArray,List.length_cons,List.length_nil,Nat.reduceAdd,Nat.reduceSub]<;>rfl) (by simp only[List.getElem?_toArray,List.getElem?_cons_succ,List.getElem?_cons_zero];rfl) (by kernel_rfl) (by exact fun _ _ _ h=>h) (by first|exact Or.inr ⟨by rfl,rfl⟩|(refine Or.inl ⟨by rfl,?_⟩;intro w' hSw;(try dsimp only at hSw);(try go_simp);try with_reducible rfl)) hS5 ?_
   try simp only[Act.put,List.setIfInBounds_toArray,List.set_cons_zero,List.set_cons_succ]
   refine wpAnyH_done (by kernel_rfl) ?_ _;obtain⟨zr,hzr⟩:∃zr,zr=w14.heap.size:=⟨_,rfl⟩;rw[<-hzr] at hBr ⊢;generalize w14.alloc (.cells #[.string G,.string U1,.string U3,.string U4,.string X6] 9)=w15 at*
   have HR5:=hid (show ∀k,k<5->∃T:ByteArray,w15.cell? ⟨zr,k,none⟩=some (.string T)/\T.size<=30000 from fun k hk=>by
    have:k=0\/k=1\/k=2\/k=3\/k=4:=by omega
    rcases this with rfl|rfl|rfl|rfl|rfl
    ·exact⟨_,hBr.cell (i:=0) rfl,by omega⟩
    ·exact⟨_,hBr.cell (i:=1) rfl,by omega⟩
    ·exact⟨_,hBr.cell (i:=2) rfl,by omega⟩
    ·exact⟨_,hBr.cell (i:=3) rfl,by omega⟩
    ·exact⟨_,hBr.cell (i:=4) rfl,by omega⟩)
   have hzr5:=hBr.lt;have hE15:=hE9.below hS5.1;have h15:=aW h09 hS5.1;clear hHeld hS0 hS1 hS2 hS3 hS4 hS5 hb1 hb2 hb3 hb4 hbr hBr hzr htG hsA hT1 hT2 hE9 hi9 hu9 ho9 h09 hU1 hU3 hU4 hX6s hX6' hm6 hm6' q6 hGs HJ HROW hil hPw hOw hPl hOl;obtain⟨m4,hm4,hm41,hm42⟩:=BE odd.size 40 (by decide);have hm4':min (odd.size:Int) 40=(m4:Int):=by omega
   have q4:(m4:Int)<=(odd.size:Int):=by omega
   obtain⟨X4,hX4⟩:∃X,X=odd.extract 0 m4:=⟨_,rfl⟩;have hX4s:X4.size<=40:=by rw[hX4];simp;omega
   have hX4':=hX4.symm;clear hX4 hm41 hm42;have htA:=fun W=>bHo a which x W (by have:=HA.out;omega) hw1 hw2 hx1 hx2
   go_wp2_with fail
   go_loopg [33,34,35,36,37,38,39,40,41,43,44,45,46,47,134,181,183] 5 (fun g _s33 _s34 _s35 _s36 _s37 _s38 _s39 _s40 _s41 _s43 _s44 _s45 _s46 _s47 s134 _s181 _s183 wr=>∃k:Nat,k<=5/\g=5-k/\s134=.int .i64 (k:Int)/\Below w15.heap.size w15 wr)
   case atStart=>exact⟨0,by omega,rfl,rfl,Below.refl _ _⟩
   case round=>
    obtain⟨k,hk,hg,rfl,hbel⟩:=hrel;have HG:=hid hg;clear hg
    by_cases hlt:k<5
    ·have t1:decide ((k:Int)<5)=true:=aG (by omega);have hk5:(k:Int)<5:=by omega
     obtain⟨T,hc,hTs⟩:=HR5.out k hlt;have c0:=(hbel.cell (p:=⟨zr,k,none⟩) hzr5).trans hc;obtain⟨n,c,E,l,hl,hP,hQ⟩:=bKd T (by omega);clear hc;go_wp2_with fail;refine(hP _).mono ?_;rintro e wa ⟨va,rfl,hra,ha⟩;clear hP c0;go_wp2_with fail;refine(hQ _).mono ?_;rintro e wb ⟨vb,rfl,hrb,hb⟩;have hra2:=hra.below hb;have hbb:=hbel.trans ((aW ha hb).mono hbel.size);clear hQ hra ha hb;have hsame:=bHi va vb l l;go_wp2_with fail;refine(hsame _ hra2 hrb hl hl).mono ?_;rintro e wc ⟨rfl,hcb⟩;have hdt:decide (l=l)=true:=aG rfl;have hbc:=hbb.trans (hcb.mono hbb.size);have hEc:=hE15.below hbc
     clear hsame hra2 hrb hbb hcb hbel;go_wp2_with fail;have hR0:Below wc.heap.size wc wc.drew/\wc.heap.size<=wc.drew.heap.size:=⟨(Below.refl _ _).drew,Nat.le_refl _⟩;refine wp_region_held_drew (S:=fun wx=>Below wc.heap.size wc wx/\wc.heap.size<=wx.heap.size) (by kernel_rfl) hR0 (fun hHeld=>?_)
     refine fV 0 0 (by simp only[List.size_toArray,List.length_cons,List.length_nil,Nat.reduceAdd,Nat.reduceSub]<;>rfl) (by simp only[List.getElem?_toArray,List.getElem?_cons_succ,List.getElem?_cons_zero];rfl) (by kernel_rfl) (by exact fun _ _ _ h=>h) (by first|exact Or.inr ⟨by rfl,rfl⟩|(refine Or.inl ⟨by rfl,?_⟩;intro w' hSw;(try dsimp only at hSw);(try go_simp);try with_reducible rfl)) hHeld ?_
     try simp only[Act.put,List.setIfInBounds_toArray,List.set_cons_zero,List.set_cons_succ]
     refine fV 0 0 (by simp only[List.size_toArray,List.length_cons,List.length_nil,Nat.reduceAdd,Nat.reduceSub]<;>rfl) (by simp only[List.getElem?_toArray,List.getElem?_cons_succ,List.getElem?_cons_zero];rfl) (by kernel_rfl) (by exact fun _ _ _ h=>h) (by first|exact Or.inr ⟨by rfl,rfl⟩|(refine Or.inl ⟨by rfl,?_⟩;intro w' hSw;(try dsimp only at hSw);(try go_simp);try with_reducible rfl)) hHeld ?_
     try simp only[Act.put,List.setIfInBounds_toArray,List.set_cons_zero,List.set_cons_succ]
     refine fV 0 0 (by simp only[List.size_toArray,List.length_cons,List.length_nil,Nat.reduceAdd,Nat.reduceSub]<;>rfl) (by simp only[List.getElem?_toArray,List.getElem?_cons_succ,List.getElem?_cons_zero];rfl) (by kernel_rfl) (by exact fun _ _ _ h=>h) (by first|exact Or.inr ⟨by rfl,rfl⟩|(refine Or.inl ⟨by rfl,?_⟩;intro w' hSw;(try dsimp only at hSw);(try go_simp);try with_reducible rfl)) hHeld ?_
     try simp only[Act.put,List.setIfInBounds_toArray,List.set_cons_zero,List.set_cons_succ]
     refine fV 0 0 (by simp only[List.size_toArray,List.length_cons,List.length_nil,Nat.reduceAdd,Nat.reduceSub]<;>rfl) (by simp only[List.getElem?_toArray,List.getElem?_cons_succ,List.getElem?_cons_zero];rfl) (by kernel_rfl) (by exact fun _ _ _ h=>h) (by first|exact Or.inr ⟨by rfl,rfl⟩|(refine Or.inl ⟨by rfl,?_⟩;intro w' hSw;(try dsimp only at hSw);(try go_simp);try with_reducible rfl)) hHeld ?_
     try simp only[Act.put,List.setIfInBounds_toArray,List.set_cons_zero,List.set_cons_succ]
     refine fV 1 0 (by simp only[List.size_toArray,List.length_cons,List.length_nil,Nat.reduceAdd,Nat.reduceSub]<;>rfl) (by simp only[List.getElem?_toArray,List.getElem?_cons_succ,List.getElem?_cons_zero];rfl) (by kernel_rfl) (by exact fun _ _ _ h=>h) (by first|exact Or.inr ⟨by rfl,rfl⟩|(refine Or.inl ⟨by rfl,?_⟩;intro w' hSw;(try dsimp only at hSw);(try go_simp);try with_reducible rfl)) hHeld ?_
     try simp only[Act.put,List.setIfInBounds_toArray,List.set_cons_zero,List.set_cons_succ]
     refine fV 1 0 (by simp only[List.size_toArray,List.length_cons,List.length_nil,Nat.reduceAdd,Nat.reduceSub]<;>rfl) (by simp only[List.getElem?_toArray,List.getElem?_cons_succ,List.getElem?_cons_zero];rfl) (by kernel_rfl) (by exact fun _ _ _ h=>h) (by first|exact Or.inr ⟨by rfl,rfl⟩|(refine Or.inl ⟨by rfl,?_⟩;intro w' hSw;(try dsimp only at hSw);(try go_simp);try with_reducible rfl)) hHeld ?_
     try simp only[Act.put,List.setIfInBounds_toArray,List.set_cons_zero,List.set_cons_succ]
     refine fV 1 0 (by simp only[List.size_toArray,List.length_cons,List.length_nil,Nat.reduceAdd,Nat.reduceSub]<;>rfl) (by simp only[List.getElem?_toArray,List.getElem?_cons_succ,List.getElem?_cons_zero];rfl) (by kernel_rfl) (by exact fun _ _ _ h=>h) (by first|exact Or.inr ⟨by rfl,rfl⟩|(refine Or.inl ⟨by rfl,?_⟩;intro w' hSw;(try dsimp only at hSw);(try go_simp);try with_reducible rfl)) hHeld ?_
     try simp only[Act.put,List.setIfInBounds_toArray,List.set_cons_zero,List.set_cons_succ]
     refine fV 1 0 (by simp only[List.size_toArray,List.length_cons,List.length_nil,Nat.reduceAdd,Nat.reduceSub]<;>rfl) (by simp only[List.getElem?_toArray,List.getElem?_cons_succ,List.getElem?_cons_zero];rfl) (by kernel_rfl) (by exact fun _ _ _ h=>h) (by first|exact Or.inr ⟨by rfl,rfl⟩|(refine Or.inl ⟨by rfl,?_⟩;intro w' hSw;(try dsimp only at hSw);(try go_simp);try with_reducible rfl)) hHeld ?_
     try simp only[Act.put,List.setIfInBounds_toArray,List.set_cons_zero,List.set_cons_succ]
     refine fV 1 0 (by simp only[List.size_toArray,List.length_cons,List.length_nil,Nat.reduceAdd,Nat.reduceSub]<;>rfl) (by simp only[List.getElem?_toArray,List.getElem?_cons_succ,List.getElem?_cons_zero];rfl) (by kernel_rfl) (by exact fun _ _ _ h=>h) (by first|exact Or.inr ⟨by rfl,rfl⟩|(refine Or.inl ⟨by rfl,?_⟩;intro w' hSw;(try dsimp only at hSw);(try go_simp);try with_reducible rfl)) hHeld ?_
     try simp only[Act.put,List.setIfInBounds_toArray,List.set_cons_zero,List.set_cons_succ]
     refine fV 3 0 (by simp only[List.size_toArray,List.length_cons,List.length_nil,Nat.reduceAdd,Nat.reduceSub]<;>rfl) (by simp only[List.getElem?_toArray,List.getElem?_cons_succ,List.getElem?_cons_zero];rfl) (by kernel_rfl) (by exact fun _ _ _ h=>h) (by first|exact Or.inr ⟨by rfl,rfl⟩|(refine Or.inl ⟨by rfl,?_⟩;intro w' hSw;(try dsimp only at hSw);(try go_simp);try with_reducible rfl)) hHeld ?_
     try simp only[Act.put,List.setIfInBounds_toArray,List.set_cons_zero,List.set_cons_succ]
     refine dJ (i:=4) (by kernel_rfl) rfl (fun K hK=>?_);go_simp;refine(htA _).mono ?_;rintro e wd ⟨V1,rfl,hV1,hbd⟩;have hR1:Below wc.heap.size wc wd/\wc.heap.size<=wd.heap.size:=⟨hR0.1.trans (hbd.mono hR0.2),Nat.le_trans hR0.2 hbd.size⟩
     (try go_wp2_with fail)
     refine hK.out _ _ hR1 (fun _=>?_)
     try simp only[Act.put,List.setIfInBounds_toArray,List.set_cons_zero,List.set_cons_succ]
     clear hK K;have hBs:=Arr.new wd 9 [.string a,.string V1,.string X4];change Arr (wd.alloc (.cells #[.string a,.string V1,.string X4] 9)) _ _ _ at hBs;have hbs:Below wd.heap.size wd (wd.alloc (.cells #[.string a,.string V1,.string X4] 9)):=bD (Below.refl _ _) _;have hR2:Below wc.heap.size wc (wd.alloc (.cells #[.string a,.string V1,.string X4] 9))/\wc.heap.size<=(wd.alloc (.cells #[.string a,.string V1,.string X4] 9)).heap.size:=⟨hR1.1.trans (hbs.mono hR1.2),Nat.le_trans hR1.2 hbs.size⟩;refine dJ (i:=10) (by kernel_rfl) rfl (fun K hK=>?_);go_simp;refine hK.out _ _ hR2 (fun _=>?_)
     try simp only[Act.put,List.setIfInBounds_toArray,List.set_cons_zero,List.set_cons_succ]
     clear hK K;refine fV 0 1 (by simp only[List.size_toArray,List.length_cons,List.length_nil,Nat.reduceAdd,Nat.reduceSub]<;>rfl) (by simp only[List.getElem?_toArray,List.getElem?_cons_succ,List.getElem?_cons_zero];rfl) (by kernel_rfl) (by exact fun _ _ _ h=>h) (by first|exact Or.inr ⟨by rfl,rfl⟩|(refine Or.inl ⟨by rfl,?_⟩;intro w' hSw;(try dsimp only at hSw);(try go_simp);try with_reducible rfl)) hR2 ?_
     try simp only[Act.put,List.setIfInBounds_toArray,List.set_cons_zero,List.set_cons_succ]
     refine wpAnyH_done (by kernel_rfl) ?_ _;obtain⟨zs,hzs⟩:∃zs,zs=wd.heap.size:=⟨_,rfl⟩;rw[<-hzs] at hBs ⊢;generalize wd.alloc (.cells #[.string a,.string V1,.string X4] 9)=we at*
     have HR3:=hid (show ∀i,i<3->∃T:ByteArray,we.cell? ⟨zs,i,none⟩=some (.string T)/\T.size<=20000 from fun i hi=>by
      have:=HA.out;have:i=0\/i=1\/i=2:=by omega
      rcases this with rfl|rfl|rfl
      ·exact⟨_,hBs.cell (i:=0) rfl,by omega⟩
      ·exact⟨_,hBs.cell (i:=1) rfl,by omega⟩
      ·exact⟨_,hBs.cell (i:=2) rfl,by omega⟩)
     have hzs3:=hBs.lt;have hEe:=hEc.below hR2.1;have hbe:=hbc.trans (hR2.1.mono hbc.size);clear hHeld hR0 hR1 hR2 hbd hbs hBs hzs hEc hbc hV1;go_wp2_with fail
     go_loopg [43,44,45,46,47,183] 3 (fun g _s43 _s44 _s45 _s46 _s47 s183 wq=>∃i:Nat,i<=3/\g=3-i/\s183=.int .i64 (i:Int)/\Below we.heap.size we wq)
     case atStart=>exact⟨0,by omega,rfl,rfl,Below.refl _ _⟩
     case round=>
      obtain⟨i,hi,hg,rfl,hbel⟩:=hrel;have HG2:=hid hg;clear hg
      by_cases hlt3:i<3
      ·have t2:decide ((i:Int)<3)=true:=aG (by omega);have hi3:(i:Int)<3:=by omega
       obtain⟨U,hc,hUs⟩:=HR3.out i hlt3;have c0:=(hbel.cell (p:=⟨zs,i,none⟩) hzs3).trans hc;have hEq:=hEe.below hbel;obtain⟨E',l',hl',hP,hQ⟩:=bKe U T (by omega) (by omega);clear hc;go_wp2_with fail;refine(hP _ hEq).mono ?_;rintro e wf ⟨vf,rfl,hrf,hf⟩;clear hP c0 hEq;go_wp2_with fail;refine(hQ _).mono ?_;rintro e wg ⟨vg,rfl,hrg,hgb⟩;have hrf2:=hrf.below hgb;have hbg:=hbel.trans ((aW hf hgb).mono hbel.size);clear hQ hrf hf hgb;have hsame:=bHi vf vg l' l';go_wp2_with fail;refine(hsame _ hrf2 hrg hl' hl').mono ?_;rintro e wh ⟨rfl,hcb⟩;have hdt':decide (l'=l')=true:=aG rfl
       have hbh:=hbg.trans (hcb.mono hbg.size);clear hsame hrf2 hrg hbg hcb hbel;go_wp2_with fail;have hg:=HG2.out
       go_roundg (3-(i+1))
       case measure=>omega
       case rel=>exact⟨i+1,by omega,rfl,by go_num,hbh⟩
      ·have t2:decide ((i:Int)<3)=false:=aE (by omega);have hbn:=hbe.trans (hbel.mono hbe.size);go_wp2_with fail;have hg:=HG.out
       go_roundg (5-(k+1))
       case measure=>omega
       case rel=>exact⟨k+1,by omega,rfl,by go_num,hbn⟩
    ·have t1:decide ((k:Int)<5)=false:=aE (by omega);have hfin:=aW h15 hbel;go_wp2_with fail;go_ret;exact⟨rfl,hfin⟩
end Go.Proofs.YtfplbbphficcjaaGreatDoor
