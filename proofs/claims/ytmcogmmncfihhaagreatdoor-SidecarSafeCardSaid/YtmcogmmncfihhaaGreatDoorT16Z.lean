/-
  What the statements of chapter 16 share: bytes in which one thing is another one.
-/
import Derived.Test.YtmcogmmncfihhaaGreatDoorZ16
import Derived.Test.YtmcogmmncfihhaaGreatDoorZ21
set_option linter.unusedVariables false
set_option linter.unusedSimpArgs false
set_option maxRecDepth 100000
set_option maxHeartbeats 12800000
namespace Go.Proofs.YtmcogmmncfihhaaGreatDoor
open Go.RowKit Go Go.Shelf
theorem pick16_any2 (c n:Int) (w:World) (h1: -9223372036854775808<=c) (h2:c<=9223372036854775807) (h3:1<=n) (h4:n<=1000000000):
  Calls Tryz.prog 33 #[.int .i64 c,.int .i64 n] w fun e w'=>e=.returned (.int .i64 (gA c n))/\w=w':=by
 by_cases hc:c<0
 ·have hfin:=hid (show gA c n=(-(c+1))%n from by simp[gA,hc]);go_enter Tryz.func33,Tryz.ntmps33;go_wp2;go_ret;exact⟨fX (by rw[hfin.out];rw[<-Int.neg_tmod,Int.tmod_eq_emod_of_nonneg (by omega)]),rfl⟩
 ·have hfin:=hid (show gA c n=c%n from by simp[gA,hc]);have hc':0<=c:=by omega
  go_enter Tryz.func33,Tryz.ntmps33;go_wp2;go_ret;exact⟨fX (by rw[hfin.out]),rfl⟩
theorem tdivB2 {x:Int} (c:Nat) (hc:0<c) (h1: -9223372036854775808<=x) (h2:x<=9223372036854775807): -9223372036854775808<=x.tdiv c/\x.tdiv c<=9223372036854775807:=by
 rcases Int.lt_or_le x 0 with h|h
 ·have e:x.tdiv c= -((-x).tdiv c):=by rw[Int.neg_tdiv,Int.neg_neg]
  have k1:=Int.tdiv_nonneg (a:= -x) (b:=(c:Int)) (by omega) (by omega);have k2:=Int.tdiv_le_self (a:= -x) (c:Int) (by omega);omega
 ·have k1:=Int.tdiv_nonneg (a:=x) (b:=(c:Int)) (by omega) (by omega);have k2:=Int.tdiv_le_self (a:=x) (c:Int) (by omega);omega
theorem tdivW2 {x:Int} (c:Nat) (hc:0<c) (h1: -9223372036854775808<=x) (h2:x<=9223372036854775807):IntKind.i64.wrap (x.tdiv c)=x.tdiv c:=by
 have:=tdivB2 c hc h1 h2;rw[IntKind.wrap_i64];omega
theorem u8_lt_of2 {q:Nat} (h:q<256):(UInt8.ofNat q).toNat=q:=by
 simp;omega
theorem flipW2 (y:UInt8) (r:Nat):bits .xor .u8 (y.toNat:Int) ((128:Int)/2^r)=((UInt8.ofNat (y.toNat^^^(128>>>r))).toNat:Int):=by
 have h1:(128:Int)/(2:Int)^r=((128>>>r:Nat):Int):=by rw[Nat.shiftRight_eq_div_pow];exact yG 128 r
 have h2:128>>>r<256:=Nat.lt_of_le_of_lt (by rw[Nat.shiftRight_eq_div_pow];exact Nat.div_le_self _ _) (by decide);rw[h1,u8_xor_nat _ _ y.toNat_lt h2,u8_lt_of2 (Nat.xor_lt_two_pow (n:=8) y.toNat_lt h2)]
theorem ByA.rdB {w:World} {g cap:Nat} {l:List UInt8} (h:ByA w g l) (hc:l.length<=cap) (hm:cap<=maxLen):RdB w (.slice (some ⟨g,0,none⟩) l.length cap) l:=by
 refine⟨_,cap,rfl,hc,hm,.inr ⟨g,0,rfl,h.1,fun j hj=>?_⟩⟩;rw[rE] at hj;obtain⟨b,hb⟩:∃b,l[j]? =some b:=⟨_,List.getElem?_eq_getElem hj⟩;rw[Nat.zero_add,h.2.1 j b hb,List.getD_eq_getElem?_getD,BH hb];rfl
theorem ByA.drew {w:World} {g:Nat} {l:List UInt8} (h:ByA w g l):ByA w.drew g l:=h
theorem conv_num2 (q:Nat) (hq:q<256) (W:World):(convert 47 9 (.slice (some ⟨W.heap.size,0,none⟩) 1 1)).run Tryz.prog (W.alloc (.cells #[.int .u8 (q:Int)] 5))=.ok (.string (mkS [UInt8.ofNat q])) (W.alloc (.cells #[.int .u8 (q:Int)] 5)):=by
 have:=aN3 (UInt8.ofNat q) W;rw[u8_lt_of2 hq] at this;exact this
theorem turned16b_any (a:ByteArray) (which x:Int) (w:World) (ha:a.size<=100000) (hw1: -9223372036854775808<=which) (hw2:which<=9223372036854775807) (hx1: -9223372036854775808<=x) (hx2:x<=9223372036854775807):
  Calls Tryz.prog 16 #[.string a,.int .i64 which,.int .i64 x] w fun e w'=>∃t:ByteArray,e=.returned (.string t)/\t.size<=a.size/\Below w.heap.size w w':=by
 have HL:=hid (show a.data.toList.length=a.size by simp)
 by_cases h0:a.size=0
 ·have u1:a.toList.isEmpty=true:=vA (List.eq_nil_of_length_eq_zero (by rw[HL.out];exact h0));have HZ:=hid h0;clear h0;go_enter Tryz.func16,Tryz.ntmps16;go_wp2_with fail;go_ret;exact⟨a,rfl,Nat.le_refl _,Below.refl _ _⟩
 have u1:a.toList.isEmpty=false:=rY (by omega);have m1:IntKind.i64.wrap (8*(a.size:Int))=8*(a.size:Int):=by rw[IntKind.wrap_i64];omega
 have hk:=pick16_any2 x (8*(a.size:Int)) w hx1 hx2 (by omega) (by omega);obtain⟨k1,k2⟩:=vU x (8*(a.size:Int)) (by omega);obtain⟨K,hK⟩:∃K:Nat,gA x (8*(a.size:Int))=(K:Int):=⟨_,(Int.toNat_of_nonneg k1).symm⟩;rw[hK] at hk;have hp:=pick16_any2 which 4 w hw1 hw2 (by decide) (by decide);obtain⟨p1,p2⟩:=vU which 4 (by decide);obtain⟨V,hV⟩:∃V:Nat,gA which 4=(V:Int):=⟨_,(Int.toNat_of_nonneg p1).symm⟩;rw[hV] at hp;have hV4:V=0\/V=1\/V=2\/V=3:=by omega
 have hKb:K<8*a.size:=by omega
 obtain⟨q,hq⟩:∃q,q=K/8:=⟨_,rfl⟩;obtain⟨r,hr⟩:∃r,r=K%8:=⟨_,rfl⟩;have hqa:q<a.size:=by omega
 have hr8:r<8:=by omega
 have m2:(K:Int).tdiv 8=(q:Int):=by rw[hq];exact Int.ofNat_tdiv K 8
 have m3:IntKind.i64.wrap (q:Int)=(q:Int):=by rw[IntKind.wrap_i64];omega
 have m4:(K:Int)/8=(q:Int):=by omega
 have m5:(K:Int).tmod 8=(r:Int):=by rw[Int.tmod_eq_emod_of_nonneg (by omega)];omega
 have m6:IntKind.i64.wrap (r:Int)=(r:Int):=by rw[IntKind.wrap_i64];omega
 have m7:(K:Int)%8=(r:Int):=by omega
 have m8:min r 8=r:=by omega
 clear hK hV k1 k2 p1 p2 hq hr h0;rcases hV4 with rfl|rfl|hV23
 ·have m9:IntKind.i64.wrap ((a.size:Int)+1)=(a.size:Int)+1:=by rw[IntKind.wrap_i64];omega
  have hs:=pick16_any2 x ((a.size:Int)+1) w hx1 hx2 (by omega) (by omega);obtain⟨k1,k2⟩:=vU x ((a.size:Int)+1) (by omega);obtain⟨j,hj⟩:∃j:Nat,gA x ((a.size:Int)+1)=(j:Int):=⟨_,(Int.toNat_of_nonneg k1).symm⟩;rw[hj] at hs;have j1:j<=a.size:=by omega
  have j2:(j:Int)<=(a.size:Int):=by omega
  clear hj k1 k2 m2 m3 m4 m5 m6 m7 m8;go_enter Tryz.func16,Tryz.ntmps16;go_wp2_with fail;refine hk.mono ?_;rintro e w' ⟨rfl,rfl⟩;go_wp2_with fail;refine hp.mono ?_;rintro e w' ⟨rfl,rfl⟩;go_wp2_with fail;refine hs.mono ?_;rintro e w' ⟨rfl,rfl⟩;go_wp2_with fail;go_ret;exact⟨_,rfl,by rw[ByteArray.size_extract];omega,Below.refl _ _⟩
 ·obtain⟨q9,hq9⟩:∃q9,q9=q+1:=⟨_,rfl⟩;have n1:IntKind.i64.wrap ((q:Int)+1)=(q9:Int):=by rw[IntKind.wrap_i64];omega
  have n2:(q:Int)+1=(q9:Int):=by omega
  have n3:q9<=a.size:=by omega
  have n4:(q9:Int)<=(a.size:Int):=by omega
  have n5:q<=a.size:=by omega
  have n12:IntKind.i64.wrap (q9:Int)=(q9:Int):=by rw[IntKind.wrap_i64];omega
  have n10:(0:Int)<=(q9:Int):=by omega
  have n11:(0:Int)<=(q:Int):=by omega
  have n6:(q:Int)<=(a.size:Int):=by omega
  have n7:IntKind.i64.wrap (x.tdiv 7)=x.tdiv 7:=tdivW2 7 (by decide) hx1 hx2;obtain⟨t1,t2⟩:=tdivB2 7 (by decide) hx1 hx2;have hz:=fun W=>pick16_any2 (x.tdiv 7) 256 W t1 t2 (by decide) (by decide)
  obtain⟨k1,k2⟩:=vU (x.tdiv 7) 256 (by decide);obtain⟨j,hj⟩:∃j:Nat,gA (x.tdiv 7) 256=(j:Int):=⟨_,(Int.toNat_of_nonneg k1).symm⟩;rw[hj] at hz;have j1:j<256:=by omega
  have n8:IntKind.u8.wrap (j:Int)=(j:Int):=by rw[IntKind.wrap_u8];omega
  have n9:(j:Int)%256=(j:Int):=by omega
  have hcv:(convert 47 9 (.slice (some ⟨w.heap.size,0,none⟩) 1 1)).run Tryz.prog (w.alloc (.cells #[.int .u8 (j:Int)] 5)).drew=.ok (.string (mkS [UInt8.ofNat j])) (w.alloc (.cells #[.int .u8 (j:Int)] 5)).drew:=conv_num2 j j1 w.drew;have hx1s:(a.extract 0 q).size=q:=by rw[ByteArray.size_extract];omega
  have hx3s:(a.extract q9 a.size).size=a.size-q9:=by rw[ByteArray.size_extract];omega
  obtain⟨X1,hX1⟩:∃X1,a.extract 0 q=X1:=⟨_,rfl⟩;obtain⟨X3,hX3⟩:∃X3,a.extract q9 a.size=X3:=⟨_,rfl⟩;obtain⟨X2,hX2⟩:∃X2,mkS [UInt8.ofNat j]=X2:=⟨_,rfl⟩;have hx2s:X2.size=1:=by rw[<-hX2];rfl
  rw[hX1] at hx1s;rw[hX3] at hx3s;rw[hX2] at hcv;have o1:¬9223372036854775807<X1.size+X2.size:=by omega
  have o2:¬9223372036854775807<(X1.size:Int)+(X2.size:Int):=by omega
  have o3:¬9223372036854775807<X1.size+X2.size+X3.size:=by omega
  have o4:¬9223372036854775807<(X1.size:Int)+(X2.size:Int)+(X3.size:Int):=by omega
  have HSZ:=hid (show(X1++X2++X3).size<=a.size by rw[ByteArray.size_append,ByteArray.size_append];omega);clear hj k1 k2 m5 m6 m7 m8 hx1s hx2s hx3s hq9 hX2;go_enter Tryz.func16,Tryz.ntmps16;go_wp2_with fail;refine hk.mono ?_;rintro e w' ⟨rfl,rfl⟩;go_wp2_with fail;refine hp.mono ?_;rintro e w' ⟨rfl,rfl⟩;clear hk hp;go_wp2_with fail;have hS0:Below w.heap.size w w.drew:=(Below.refl _ _).drew;have hS1:Below w.heap.size w (w.alloc (.cells #[.int .u8 (j:Int)] 5)).drew:=bD hS0 _;refine wp_region_held_drew (S:=fun w'=>Below w.heap.size w w') (by kernel_rfl) hS0 (fun hHeld=>?_)
  refine wpAnyH_take (i:=0) (oi:=?oi0) (v:=?v0) ?hi0 (by kernel_rfl) (by kernel_rfl) (by kernel_rfl) ?hq0 ?hy0 hS0 ?_
  case hi0=>(simp only[List.getElem?_toArray,List.getElem?_cons_zero];rfl)
  case hq0=>exact fun _ _ _ h=>h
  case hy0=>(refine Or.inl ⟨by rfl,?_⟩;intro w' hSw;(try dsimp only at hSw);(try go_simp);try with_reducible rfl)
  try simp only[Act.put,List.setIfInBounds_toArray,List.set_cons_zero,List.set_cons_succ]
  refine wpAnyH_take (i:=1) (oi:=?oi1) (v:=?v1) ?hi1 (by kernel_rfl) (by kernel_rfl) (by kernel_rfl) ?hq1 ?hy1 hS0 ?_
  case hi1=>(simp only[List.getElem?_toArray,List.getElem?_cons_succ,List.getElem?_cons_zero];rfl)
  case hq1=>exact fun _ _ _ h=>h
  case hy1=>(refine Or.inl ⟨by rfl,?_⟩;intro w' hSw;(try dsimp only at hSw);(try go_simp);try with_reducible rfl)
  try simp only[Act.put,List.setIfInBounds_toArray,List.set_cons_zero,List.set_cons_succ]
  refine wpAnyH_take (i:=2) (oi:=?oi2) (v:=?v2) ?hi2 (by kernel_rfl) (by kernel_rfl) (by kernel_rfl) ?hq2 ?hy2 hS0 ?_
  case hi2=>(simp only[List.getElem?_toArray,List.getElem?_cons_succ,List.getElem?_cons_zero];rfl)
  case hq2=>exact fun _ _ _ h=>h
  case hy2=>(refine Or.inl ⟨by rfl,?_⟩;intro w' hSw;(try dsimp only at hSw);(try go_simp);try with_reducible rfl)
  try simp only[Act.put,List.setIfInBounds_toArray,List.set_cons_zero,List.set_cons_succ]
  refine wpAnyH_take (i:=3) (oi:=?oi3) (v:=?v3) ?hi3 (by kernel_rfl) (by kernel_rfl) (by kernel_rfl) ?hq3 ?hy3 hS0 ?_
  case hi3=>(simp only[List.getElem?_toArray,List.getElem?_cons_succ,List.getElem?_cons_zero];rfl)
  case hq3=>exact fun _ _ _ h=>h
  case hy3=>(refine Or.inl ⟨by rfl,?_⟩;intro w' hSw;(try dsimp only at hSw);(try go_simp);try with_reducible rfl)
  try simp only[Act.put,List.setIfInBounds_toArray,List.set_cons_zero,List.set_cons_succ]
  refine wpAnyH_take (i:=4) (oi:=?oi4) (v:=?v4) ?hi4 (by kernel_rfl) (by kernel_rfl) (by kernel_rfl) ?hq4 ?hy4 hS0 ?_
  case hi4=>(simp only[List.getElem?_toArray,List.getElem?_cons_succ,List.getElem?_cons_zero];rfl)
  case hq4=>exact fun _ _ _ h=>h
  case hy4=>(refine Or.inl ⟨by rfl,?_⟩;intro w' hSw;(try dsimp only at hSw);(try go_simp);try with_reducible rfl)
  try simp only[Act.put,List.setIfInBounds_toArray,List.set_cons_zero,List.set_cons_succ]
  refine wpAnyH_take (i:=5) (oi:=?oi5) (v:=?v5) ?hi5 (by kernel_rfl) (by kernel_rfl) (by kernel_rfl) ?hq5 ?hy5 hS0 ?_
  case hi5=>(simp only[List.getElem?_toArray,List.getElem?_cons_succ,List.getElem?_cons_zero];rfl)
  case hq5=>exact fun _ _ _ h=>h
  case hy5=>(refine Or.inl ⟨by rfl,?_⟩;intro w' hSw;(try dsimp only at hSw);(try go_simp);try with_reducible rfl)
  try simp only[Act.put,List.setIfInBounds_toArray,List.set_cons_zero,List.set_cons_succ]
  refine wpAnyH_take (i:=11) (oi:=?oi11) (v:=?v11) ?hi11 (by kernel_rfl) (by kernel_rfl) (by kernel_rfl) ?hq11 ?hy11 hS0 ?_
  case hi11=>(simp only[List.getElem?_toArray,List.getElem?_cons_succ,List.getElem?_cons_zero];rfl)
  case hq11=>exact fun _ _ _ h=>h
  case hy11=>(refine Or.inl ⟨by rfl,?_⟩;intro w' hSw;(try dsimp only at hSw);(try go_simp);try with_reducible rfl)
  try simp only[Act.put,List.setIfInBounds_toArray,List.set_cons_zero,List.set_cons_succ]
  refine wpAnyH_take (i:=12) (oi:=?oi12) (v:=?v12) ?hi12 (by kernel_rfl) (by kernel_rfl) (by kernel_rfl) ?hq12 ?hy12 hS0 ?_
  case hi12=>(simp only[List.getElem?_toArray,List.getElem?_cons_succ,List.getElem?_cons_zero];rfl)
  case hq12=>exact fun _ _ _ h=>h
  case hy12=>(refine Or.inl ⟨by rfl,?_⟩;intro w' hSw;(try dsimp only at hSw);(try go_simp);try with_reducible rfl)
  try simp only[Act.put,List.setIfInBounds_toArray,List.set_cons_zero,List.set_cons_succ]
  refine wpAnyH_take (i:=13) (oi:=?oi13) (v:=?v13) ?hi13 (by kernel_rfl) (by kernel_rfl) (by kernel_rfl) ?hq13 ?hy13 hS0 ?_
  case hi13=>(simp only[List.getElem?_toArray,List.getElem?_cons_succ,List.getElem?_cons_zero];rfl)
  case hq13=>exact fun _ _ _ h=>h
  case hy13=>(refine Or.inl ⟨by rfl,?_⟩;intro w' hSw;(try dsimp only at hSw);(try go_simp);try with_reducible rfl)
  try simp only[Act.put,List.setIfInBounds_toArray,List.set_cons_zero,List.set_cons_succ]
  refine wpAnyH_take (i:=14) (oi:=?oi14) (v:=?v14) ?hi14 (by kernel_rfl) (by kernel_rfl) (by kernel_rfl) ?hq14 ?hy14 hS0 ?_
  case hi14=>(simp only[List.getElem?_toArray,List.getElem?_cons_succ,List.getElem?_cons_zero];rfl)
  case hq14=>exact fun _ _ _ h=>h
  case hy14=>(refine Or.inl ⟨by rfl,?_⟩;intro w' hSw;(try dsimp only at hSw);(try go_simp);try with_reducible rfl)
  try simp only[Act.put,List.setIfInBounds_toArray,List.set_cons_zero,List.set_cons_succ]
  refine wpAnyH_take (i:=15) (oi:=?oi15) (v:=?v15) ?hi15 (by kernel_rfl) (by kernel_rfl) (by kernel_rfl) ?hq15 ?hy15 hS0 ?_
  case hi15=>(simp only[List.getElem?_toArray,List.getElem?_cons_succ,List.getElem?_cons_zero];rfl)
  case hq15=>exact fun _ _ _ h=>h
  case hy15=>(refine Or.inl ⟨by rfl,?_⟩;intro w' hSw;(try dsimp only at hSw);(try go_simp);try with_reducible rfl)
  try simp only[Act.put,List.setIfInBounds_toArray,List.set_cons_zero,List.set_cons_succ]
  refine wpAnyH_ready (rs:=[6]) (by kernel_rfl) (by simp) ?_;refine AllReadyH.cons rfl (fun K hK=>?_) AllReadyH.nil;go_simp;refine(hz _).mono ?_;rintro e w4 ⟨rfl,rfl⟩;refine hK.out _ _ hS0 (fun _=>?_);clear hK K
  try simp only[Act.put,List.setIfInBounds_toArray,List.set_cons_zero,List.set_cons_succ]
  refine wpAnyH_take (i:=7) (oi:=?oi7) (v:=?v7) ?hi7 (by kernel_rfl) (by kernel_rfl) (by kernel_rfl) ?hq7 ?hy7 hS0 ?_
  case hi7=>(simp only[List.getElem?_toArray,List.getElem?_cons_succ,List.getElem?_cons_zero];rfl)
  case hq7=>exact fun _ _ _ h=>h
  case hy7=>(refine Or.inl ⟨by rfl,?_⟩;intro w' hSw;(try dsimp only at hSw);(try go_simp);try with_reducible rfl)
  try simp only[Act.put,List.setIfInBounds_toArray,List.set_cons_zero,List.set_cons_succ]
  refine wpAnyH_ready (rs:=[8]) (by kernel_rfl) (by simp) ?_;refine AllReadyH.cons rfl (fun K hK=>?_) AllReadyH.nil;go_simp;refine hK.out _ _ hS1 (fun _=>?_);clear hK K
  try simp only[Act.put,List.setIfInBounds_toArray,List.set_cons_zero,List.set_cons_succ]
  refine wpAnyH_ready (rs:=[9]) (by kernel_rfl) (by simp) ?_;refine AllReadyH.cons rfl (fun K hK=>?_) AllReadyH.nil;go_simp;refine hK.out _ _ hS1 (fun _=>?_);clear hK K
  try simp only[Act.put,List.setIfInBounds_toArray,List.set_cons_zero,List.set_cons_succ]
  refine wpAnyH_ready (rs:=[10]) (by kernel_rfl) (by simp) ?_;refine AllReadyH.cons rfl (fun K hK=>?_) AllReadyH.nil;go_simp;refine hK.out _ _ hS1 (fun _=>?_);clear hK K
  try simp only[Act.put,List.setIfInBounds_toArray,List.set_cons_zero,List.set_cons_succ]
  refine wpAnyH_ready (rs:=[16]) (by kernel_rfl) (by simp) ?_;refine AllReadyH.cons rfl (fun K hK=>?_) AllReadyH.nil;go_simp;refine hK.out _ _ hS1 (fun _=>?_);clear hK K
  try simp only[Act.put,List.setIfInBounds_toArray,List.set_cons_zero,List.set_cons_succ]
  refine wpAnyH_ready (rs:=[17]) (by kernel_rfl) (by simp) ?_;refine AllReadyH.cons rfl (fun K hK=>?_) AllReadyH.nil;go_simp;refine hK.out _ _ hS1 (fun _=>?_);clear hK K
  try simp only[Act.put,List.setIfInBounds_toArray,List.set_cons_zero,List.set_cons_succ]
  refine wpAnyH_done (by kernel_rfl) ?_ _;go_wp2_with fail;go_ret;exact⟨_,rfl,HSZ.out,hS1⟩
 ·obtain⟨cap,w2,hcv,hc1,hc2,hA,hb2,hz2⟩:=DX w a (by omega);obtain⟨Y,hY⟩:∃Y,a.data.toList[q]? =some Y:=⟨_,List.getElem?_eq_getElem (by rw[HL.out];exact hqa)⟩;have c1:=hA.2.1 q Y hY;have f1:=hA.2.2 q (by rw[HL.out];exact hqa);have hfl:=flipW2 Y r;obtain⟨Y2,hY2⟩:∃Y2,Y2=UInt8.ofNat (Y.toNat^^^(128>>>r)):=⟨_,rfl⟩;rw[<-hY2] at hfl;have q1:(q:Int)<(a.size:Int):=by omega
  have v1:((V:Int)==0)=false:=by rw[beq_eq_false_iff_ne];omega
  have v2:((V:Int)==1)=false:=by rw[beq_eq_false_iff_ne];omega
  have v3:(V==0)=false:=by rw[beq_eq_false_iff_ne];omega
  have v4:(V==1)=false:=by rw[beq_eq_false_iff_ne];omega
  have hA3:=(hA.drew).set q Y2;have hbk:=lQ (hA3.rdB (cap:=cap) (by rw[List.length_set,HL.out];exact hc1) hc2);rw[List.length_set,HL.out] at hbk;have HB:=hid hbk;have hyb:=Y.toNat_lt;obtain⟨yv,hyv⟩:∃yv,yv=Y.toNat:=⟨_,rfl⟩;rw[<-hyv] at c1 hfl hyb;clear hV23 hY hY2 hyv hA hA3 hbk;go_enter Tryz.func16,Tryz.ntmps16;go_wp2_with fail;refine hk.mono ?_;rintro e w' ⟨rfl,rfl⟩;go_wp2_with fail;refine hp.mono ?_;rintro e w' ⟨rfl,rfl⟩;clear hk hp;go_wp2_with fail
  go_still_tail 13,(by kernel_rfl)
  change wpList _ _ _ _ _ w2.drew;have c2:w2.drew.cell? ⟨w.heap.size,q,none⟩=some (.int .u8 (yv:Int)):=c1;have f2:w2.drew.frozen? ⟨w.heap.size,q,none⟩=false:=f1;have hb3:=hb2.drew;clear c1 f1 hb2 hz2 hcv;generalize w2.drew=w3 at*
  have hbk:=HB.out;go_wp2_with fail;go_ret;exact⟨_,rfl,by rw[cP,List.length_set,HL.out];exact Nat.le_refl _,hb3.setCell (p:=⟨w.heap.size,q,none⟩) (Nat.le_refl _) _⟩
end Go.Proofs.YtmcogmmncfihhaaGreatDoor
