/-
  The walk of the statement PackTells.
-/
import Derived.Test.YtihbnmlinkbnkaaGreatDoorB18Z
import Derived.Test.YtihbnmlinkbnkaaGreatDoorP18gZ
import Derived.Test.YtihbnmlinkbnkaaGreatDoorZ42
set_option linter.unusedVariables false
set_option linter.unusedSimpArgs false
set_option maxRecDepth 100000
set_option maxHeartbeats 12800000
namespace Go.Proofs.YtihbnmlinkbnkaaGreatDoor
open Go.RowKit Go Go.Shelf
theorem packN (n:Int) (Y:ByteArray) (hY:Y.size<=200) (few:List ByteArray) (hf:few.length<=3) (hfs:∀t∈few,t.size<=50):
  ∃(E E2:Int) (A C:ByteArray) (pcs:List ByteArray),pcs.length<=100/\
   (∀W,Calls Tryz.prog 28 #[.string Y,.int .i64 n] W fun e w'=>∃v,e=.returned (.tuple #[v,.int .i64 E])/\RdT w' v pcs/\Below W.heap.size W w')/\
   (∀W,Calls Tryz.prog 29 #[.string Y,.int .i64 n] W fun e w'=>∃v,e=.returned (.tuple #[v,.int .i64 E])/\RdT w' v pcs/\Below W.heap.size W w')/\
   (∀W,Calls Tryz.prog 30 #[.string Y,.int .i64 n] W fun e w'=>e=.returned (.tuple #[.string A,.int .i64 E])/\Below W.heap.size W w')/\
   (∀W,Calls Tryz.prog 31 #[.string Y,.int .i64 n] W fun e w'=>e=.returned (.tuple #[.string A,.int .i64 E])/\Below W.heap.size W w')/\
   (∀W v,RdT W v few->Calls Tryz.prog 32 #[.int .i64 n,v] W fun e w'=>e=.returned (.tuple #[.string C,.int .i64 E2])/\Below W.heap.size W w')/\
   (∀W v,RdT W v few->Calls Tryz.prog 33 #[.int .i64 n,v] W fun e w'=>e=.returned (.tuple #[.string C,.int .i64 E2])/\Below W.heap.size W w'):=by
 have same:∀{W w':World},w'=W->Below W.heap.size W w':=fun{W w'} h=>by rw[h];exact Below.refl _ _
 by_cases h:n<1\/9<n
 ·refine⟨1,1,⟨#[]⟩,⟨#[]⟩,[],by decide,fun W=>?_,fun W=>?_,fun W=>?_,fun W=>?_,fun W v hv=>?_,fun W v hv=>?_⟩
  ·exact(pieces18_no n Y W h).mono fun e w' k=>⟨_,k.1,RdT.nil _,k.2⟩
  ·exact(refPieces18_no n Y W h).mono fun e w' k=>⟨_,k.1,RdT.nil _,same k.2⟩
  ·exact(pack18_no n Y W h).mono fun e w' k=>⟨k.1,same k.2⟩
  ·exact(refPack18_no n Y W h).mono fun e w' k=>⟨k.1,same k.2⟩
  ·exact(streams18_no n v few W hv (.inl h)).mono fun e w' k=>⟨k.1,same k.2⟩
  ·exact(refStreams18_no n v few W hv (.inl h)).mono fun e w' k=>⟨k.1,same k.2⟩
 obtain⟨lv,rfl⟩:∃lv:Nat,n=(lv:Int):=⟨n.toNat,by omega⟩;have h1:1<=lv:=by omega
 have h9:lv<=9:=by omega
 have hlen:=CZ h1 Y;have p1:=fun W=>aJn lv Y W (by omega) h1 h9
 rw[show(fK (40*lv) Y.data.toList).map mkS=pcT lv Y from rfl] at p1
 by_cases h0:few=[]
 ·refine⟨0,1,_,⟨#[]⟩,pcT lv Y,by omega,p1,fun W=>refPieces18_any lv Y W (by omega) h1 h9,fun W=>(GG lv Y W (by omega) h1 h9).mono fun e w' k=>⟨k.1,k.2.2⟩,fun W=>(refPack18_any lv Y W (by omega) h1 h9).mono fun e w' k=>⟨k.1,k.2.2⟩,fun W v hv=>?_,fun W v hv=>?_⟩
  ·exact(streams18_no (lv:Int) v few W hv (.inr h0)).mono fun e w' k=>⟨k.1,same k.2⟩
  ·exact(refStreams18_no (lv:Int) v few W hv (.inr h0)).mono fun e w' k=>⟨k.1,same k.2⟩
 ·have hp:=List.length_pos_iff.2 h0;exact⟨0,0,_,_,pcT lv Y,by omega,p1,fun W=>refPieces18_any lv Y W (by omega) h1 h9,fun W=>(GG lv Y W (by omega) h1 h9).mono fun e w' k=>⟨k.1,k.2.2⟩,fun W=>(refPack18_any lv Y W (by omega) h1 h9).mono fun e w' k=>⟨k.1,k.2.2⟩,
   fun W v hv=>(aJp lv v few W hv hp hf (fun t ht=>by have:=hfs t ht;omega) h1 h9).mono fun e w' k=>⟨k.1,k.2.2⟩,
   fun W v hv=>(refStreams18_any lv v few W hv hp hf (fun t ht=>by have:=hfs t ht;omega) h1 h9).mono fun e w' k=>⟨k.1,k.2⟩⟩
theorem packTells_any (s:ByteArray) (v:Value) (raw:List (Int×Int)) (level:Int) (vp:Value) (parts:List ByteArray) (w:World) (hE:dU w) (_hs:s.size<=maxLen) (hr:RdP w v raw) (hwf:WfP raw) (hl1: -9223372036854775808<=level) (hl2:level<=9223372036854775807) (hp:RdT w vp parts) (hps:∀t∈parts,t.size<=maxLen):
  Calls Tryz.prog 5 #[.string s,v,.int .i64 level,vp] w fun e w'=>e=.returned (.bool true)/\Below w.heap.size w w':=by
 obtain⟨qa,R,ra1,ra2,ma,ma',pka⟩:=bDx level hl1 hl2;obtain⟨m,hmi,hm1,hm2⟩:=BE s.size 100 (by decide);have hmi2:min (s.size:Int) 100=(m:Int):=by rw[<-hmi,Int.min_def];split<;>split<;>omega
 obtain⟨X,hX⟩:∃X,X=s.extract 0 m:=⟨_,rfl⟩;have hXs:X.size<=100:=by rw[hX];simp;omega
 have hX':=hX.symm;have q1:(m:Int)<=(s.size:Int):=by omega
 clear hX;go_enter Tryz.func5,Tryz.ntmps5;go_wp2_with fail;refine(bD2 _ hE).mono ?_;rintro e w1 ⟨rfl,h1⟩;have hr1:=hr.below h1;have hp1:=hp.below h1;clear hr hE hp;go_wp2_with fail;refine(bDy X v raw 200 _ hr1 hwf (by omega) (by decide)).mono ?_;rintro e w2 ⟨Y,rfl,hY,h2⟩;have h02:=aW h1 h2;have hp2:=hp1.below h2;clear h1 h2 hr1 hp1 hwf hX' hmi hmi2 hm1 hm2 q1 hXs;obtain⟨a,ca,rfl,hca,hma,hA⟩:=hp2.open;have hma0:=hid hma;unfold maxLen at hma hps;clear hp2;go_wp2_with fail
 go_loopg [11,12] 3 (fun g s11 s12 wr=>∃(k:Nat) (l:List ByteArray),k<=3/\k<=parts.length/\g=3-k/\s12=.int .i64 (k:Int)/\Hid (l.length=k)/\Hid (∀t∈l,t.size<=50)/\OwT wr w2.heap.size s11 l/\Below w2.heap.size w2 wr)
 case atStart=>exact⟨0,[],by decide,Nat.zero_le _,rfl,rfl,hid rfl,hid (fun t ht=>by simp at ht),Ow.nil _ _ _,Below.refl _ _⟩
 case round=>
 obtain⟨k,l,hk3,hkp,hg,rfl,HLL,HF,hot,hbel⟩:=hrel;have HG:=hid hg;clear hg;have hsz:=hbel.size
 by_cases hgo:k<parts.length/\k<3
 ·obtain⟨hlt,h3⟩:=hgo;have t1:decide ((k:Int)<(parts.length:Int))=true:=aG (by omega);have t2:decide ((k:Int)<3)=true:=aG (by omega);obtain⟨b,off,rfl,hb,hc⟩:=hA (by omega);obtain⟨t,ht⟩:∃t,parts[k]? =some t:=⟨_,List.getElem?_eq_getElem hlt⟩;have hcw:=hc k t ht;have c0:=(hbel.cell (p:=⟨b,off+k,none⟩) hb).trans hcw;have hts:=hps t (List.mem_of_getElem? ht);obtain⟨m,hmi,hm1,hm2⟩:=BE t.size 50 (by decide);have hmi2:min (t.size:Int) 50=(m:Int):=by rw[<-hmi,Int.min_def];split<;>split<;>omega
  obtain⟨x,hx⟩:∃x,x=t.extract 0 m:=⟨_,rfl⟩;have hxs:x.size<=50:=by rw[hx];simp;omega
  have hx':=hx.symm;have q1:(m:Int)<=(t.size:Int):=by omega
  have q2:(k:Int)<(parts.length:Int):=by omega
  have HF2:=hid (show ∀u∈l++[x],u.size<=50 from fun u hu=>by
   rcases List.mem_append.1 hu with hu|hu
   ·exact HF.out u hu
   ·obtain rfl:=List.mem_singleton.1 hu;exact hxs)
  have HLL2:=hid (show(l++[x]).length=k+1 by rw[List.length_append,HLL.out];rfl);have hll:(oI l).length<=3:=by rw[FX,HLL.out];exact hk3
  obtain⟨W9a,hW9a⟩:∃W9a,W9a=(wr.alloc (.cells #[.string x] 9)).drew:=⟨_,rfl⟩;have ho9a:OwT W9a w2.heap.size u11 l:=by rw[hW9a];exact Ow.alloc hot _
  have hN9:W9a.cell? ⟨wr.heap.size,0,none⟩=some (.string x):=by rw[hW9a];exact bX wr (.string x) 9
  have hb9a:Below w2.heap.size w2 W9a:=by rw[hW9a];exact(hbel.alloc hsz _).drew
  have hs9a:=hb9a.size;obtain⟨v',W10,hr,ho10,hb10,hg10⟩:=aHn aJe 22 w2.heap.size u11 _ ho9a wr.heap.size (.string x) hN9 rfl (by omega) hs9a;have ho10:OwT W10 w2.heap.size v' (l++[x]):=by unfold OwT oI;rw[List.map_append];exact ho10
  have hbel10:=hb9a.trans hb10;rw[hW9a] at hr;have hS0:wr.drew.cell? ⟨b,off+k,none⟩=some (.string t):=c0;have hS1:(wr.alloc (.cells #[.string x] 9)).drew.cell? ⟨b,off+k,none⟩=some (.string t):=((bD (Below.refl _ wr) (.cells #[.string x] 9)).drew.cell (World.block_lt_of_cell? wr _ c0)).trans c0;have hS2:=(hbel10.cell (p:=⟨b,off+k,none⟩) hb).trans hcw;clear ho9a hN9 hb9a hs9a hW9a hg10 hb10 hot c0 hcw hc hA ht hx hxs HF HLL hma0 pka hl1 hl2 h02 hps;go_wp2_with fail;refine wp_region_held_drew (S:=fun wx=>wx.cell? ⟨b,off+k,none⟩=some (.string t)) (by kernel_rfl) hS0 (fun hHeld=>?_)
  iterate 12
   refine fV 0 0 (by simp only[List.size_toArray,List.length_cons,List.length_nil,Nat.reduceAdd,Nat.reduceSub]<;>rfl) (by simp only[List.getElem?_toArray,List.getElem?_cons_succ,List.getElem?_cons_zero];rfl) (by kernel_rfl) (by exact fun _ _ _ h=>h) (by first|exact Or.inr ⟨by rfl,rfl⟩|(refine Or.inl ⟨by rfl,?_⟩;intro w' hSw;(try dsimp only at hSw);(try go_simp);try with_reducible rfl)) (by assumption) ?_
   try simp only[Act.put,List.setIfInBounds_toArray,List.set_cons_zero,List.set_cons_succ]
  refine dJ (i:=12) (by kernel_rfl) rfl (fun K hK=>?_);go_simp;refine hK.out _ _ hS1 (fun _=>?_)
  try simp only[Act.put,List.setIfInBounds_toArray,List.set_cons_zero,List.set_cons_succ]
  clear hK K;refine dJ (i:=13) (by kernel_rfl) rfl (fun K hK=>?_);refine sX rfl (.tmp 46) (.tmp 58) 22 rfl u11 (.slice (some ⟨wr.heap.size,0,none⟩) 1 1) v' W10 (by simp[Act.eval]) (by simp[Act.eval]) hr ?_;refine hK.out _ _ hS2 (fun _=>?_)
  try simp only[Act.put,List.setIfInBounds_toArray,List.set_cons_zero,List.set_cons_succ]
  clear hK K;refine dJ (i:=14) (by kernel_rfl) rfl (fun K hK=>?_);go_simp;refine hK.out _ _ hS2 (fun _=>?_)
  try simp only[Act.put,List.setIfInBounds_toArray,List.set_cons_zero,List.set_cons_succ]
  clear hK K;refine wpAnyH_done (by kernel_rfl) ?_ _;clear hr hS0 hS1 hS2 hHeld;go_wp2_with fail;have hg:=HG.out
  go_roundg (3-(k+1))
  case measure=>omega
  case rel=>exact⟨k+1,l++[x],by omega,by omega,rfl,by go_num,HLL2,HF2,ho10,hbel10⟩
 have hrd:=hot.rd;have hl3:l.length<=3:=by rw[HLL.out];exact hk3
 have hpk:=fun n=>packN n Y hY l hl3 HF.out
 have h0r:=h02.trans (hbel.mono h02.size);obtain⟨wx,hwx⟩:∃wx:World,wx=wr:=⟨_,rfl⟩;have HK:=hid (show ¬(k<parts.length/\k<3) from hgo);have hM:=Arr.new wr 3 [.int .i64 level,.int .i64 (R:Int)];change Arr (wr.alloc (.cells #[.int .i64 level,.int .i64 (R:Int)] 3)) _ _ _ at hM;have hbb:Below wr.heap.size wr (wr.alloc (.cells #[.int .i64 level,.int .i64 (R:Int)] 3)):=bD (Below.refl _ _) _;have hrd2:=hrd.below hbb;have h03:=aW h0r hbb;clear HG HLL HF hot hbel h02 hrd hbb hA hps hma hma0 hY hl3 hca h0r hwx
 by_cases hlt:k<parts.length
 have t1:decide ((k:Int)<(parts.length:Int))=true:=aG (by omega);have t2:decide ((k:Int)<3)=false:=aE (by have:=HK.out;omega)
 rotate_left
 have t1:decide ((k:Int)<(parts.length:Int))=false:=aE (by omega)
 all_goals
  clear hgo HK;go_wp2_with fail;refine(pka _).mono ?_;rintro e w' ⟨rfl,rfl⟩;clear pka;go_wp2_with fail;obtain⟨Z,hZ⟩:∃Z,Z=wr.heap.size:=⟨_,rfl⟩;generalize wr.alloc (.cells #[.int .i64 level,.int .i64 (R:Int)] 3)=w3 at*
  rw[<-hZ] at hM ⊢;clear hZ ma ma'
  go_loopg [14,15,16,17,18,19,20,21,22,23,24,25,26,27,66] 2 (fun g _s14 _s15 _s16 _s17 _s18 _s19 _s20 _s21 _s22 _s23 _s24 _s25 _s26 _s27 s66 wq=>∃j:Nat,j<=2/\g=2-j/\s66=.int .i64 (j:Int)/\Arr wq Z 3 [.int .i64 level,.int .i64 (R:Int)]/\RdT wq u11 l/\Below w.heap.size w wq)
  case atStart=>exact⟨0,by decide,rfl,rfl,hM,hrd2,h03⟩
  case round=>
  obtain⟨j,hj,hg,rfl,hMr,hfr,hbel⟩:=hrel;have HJ:=hid hg;clear hg hM hrd2 h03
  by_cases hlt:j<2
  rotate_left
  ·have t3:decide ((j:Int)<2)=false:=aE (by omega);have t3':decide (j<2)=false:=aE (by omega);clear HJ hMr hpk;go_wp2_with fail;go_ret;exact⟨rfl,hbel⟩
  have t3:decide ((j:Int)<2)=true:=aG (by omega);have t3':decide (j<2)=true:=aG (by omega);obtain⟨n,hn⟩:∃n:Int,([.int .i64 level,.int .i64 (R:Int)]:List Value)[j]? =some (.int .i64 n):=by
   rcases j with _|_|j
   ·exact⟨_,rfl⟩
   ·exact⟨_,rfl⟩
   ·omega
  have c0:=hMr.cell hn;obtain⟨E,E2,A,C,pcs,hpl,f1,f2,f3,f4,f5,f6⟩:=hpk n;clear hn hpk;go_wp2_with fail;refine(f1 _).mono ?_;rintro e w4 ⟨v4,rfl,hv4,h4⟩;have hM4:=hMr.below h4 hMr.lt;have hf4:=hfr.below h4;have h04:=aW hbel h4;clear f1 hMr hfr hbel h4 c0;go_wp2_with fail;refine(f2 _).mono ?_;rintro e w5 ⟨v5,rfl,hv5,h5⟩;have hM5:=hM4.below h5 hM4.lt;have hf5:=hf4.below h5;have hv45:=hv4.below h5;have h05:=aW h04 h5;clear f2 hM4 hf4 h04 h5 hv4;go_wp2_with fail;refine(f3 _).mono ?_;rintro e w6 ⟨rfl,h6⟩;have hM6:=hM5.below h6 hM5.lt;have hf6:=hf5.below h6;have hv46:=hv45.below h6
  have hv56:=hv5.below h6;have h06:=aW h05 h6;clear f3 hM5 hf5 h05 h6 hv45 hv5;go_wp2_with fail;refine(f4 _).mono ?_;rintro e w7 ⟨rfl,h7⟩;have hM7:=hM6.below h7 hM6.lt;have hf7:=hf6.below h7;have hv47:=hv46.below h7;have hv57:=hv56.below h7;have h07:=aW h06 h7;clear f4 hM6 hf6 h06 h7 hv46 hv56;go_wp2_with fail;refine(f5 _ _ hf7).mono ?_;rintro e w8 ⟨rfl,h8⟩;have hM8:=hM7.below h8 hM7.lt;have hf8:=hf7.below h8;have hv48:=hv47.below h8;have hv58:=hv57.below h8;have h08:=aW h07 h8;clear f5 hM7 hf7 h07 h8 hv47 hv57;go_wp2_with fail;refine(f6 _ _ hf8).mono ?_;rintro e w9 ⟨rfl,h9⟩
  have hM9:=hM8.below h9 hM8.lt;have hf9:=hf8.below h9;have hv49:=hv48.below h9;have hv59:=hv58.below h9;have h09:=aW h08 h9;clear f6 hM8 hf8 h08 h9 hv48 hv58;obtain⟨a4,c4,rfl,hc4,hm4,hA4⟩:=hv49.open;obtain⟨a5,c5,rfl,hc5,hm5,hA5⟩:=hv59.open;unfold maxLen at hm4 hm5;have y1:(A.toList==A.toList)=true:=by simp
  have y2:(C.toList==C.toList)=true:=by simp
  clear hv49 hv59;go_wp2_with fail
  go_loopg [27] pcs.length (fun g s27 wz=>∃i:Nat,i<=pcs.length/\g=pcs.length-i/\s27=.int .i64 (i:Int)/\Below w9.heap.size w9 wz)
  case atStart=>exact⟨0,Nat.zero_le _,rfl,rfl,Below.refl _ _⟩
  case round=>
  obtain⟨i,hi,hg,rfl,hbz⟩:=hrel;have HI:=hid hg;clear hg
  by_cases hil:i<pcs.length
  ·have t4:decide ((i:Int)<(pcs.length:Int))=true:=aG (by omega);obtain⟨b4,o4,rfl,hb4,hcl4⟩:=hA4 (by omega);obtain⟨b5,o5,rfl,hb5,hcl5⟩:=hA5 (by omega);obtain⟨p,hp⟩:∃p,pcs[i]? =some p:=⟨_,List.getElem?_eq_getElem hil⟩;have d4:=(hbz.cell (p:=⟨b4,o4+i,none⟩) hb4).trans (hcl4 i p hp);have d5:=(hbz.cell (p:=⟨b5,o5+i,none⟩) hb5).trans (hcl5 i p hp);have y3:(p.toList==p.toList)=true:=by simp
   clear hA4 hA5 hcl4 hcl5 hp;go_wp2_with fail
   go_quiet (fail)
   go_wp2_with fail;have hg:=HI.out
   go_roundg (pcs.length-(i+1))
   case measure=>omega
   case rel=>exact⟨i+1,by omega,rfl,by go_num,below_drewN hbz _⟩
  ·have t4:decide ((i:Int)<(pcs.length:Int))=false:=aE (by omega);have hMz:=hM9.below hbz hM9.lt;have hfz:=hf9.below hbz;have h0z:=aW h09 hbz;clear HI hA4 hA5 hbz hM9 hf9 h09;go_wp2_with fail;have hg:=HJ.out
   go_roundg (2-(j+1))
   case measure=>omega
   case rel=>exact⟨j+1,by omega,rfl,by go_num,hMz,hfz,h0z⟩
end Go.Proofs.YtihbnmlinkbnkaaGreatDoor
