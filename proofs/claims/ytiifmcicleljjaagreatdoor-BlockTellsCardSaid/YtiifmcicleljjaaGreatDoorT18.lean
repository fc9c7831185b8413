/- The walks and the plain laws, part 18. -/
import Derived.Test.YtiifmcicleljjaaGreatDoorT16
set_option maxRecDepth 100000
set_option maxHeartbeats 12800000
set_option linter.unusedVariables false
open ByteArray renaming size_append->aTx,size_extract->aTq
open Go renaming wpAnyH_ready->fL,wpAnyH_take->aQ
open Go.Act renaming put->aJ
open Go.AllReadyH renaming cons->fA,nil->fM
open Go.IntKind renaming i64->aI,wrap_i64->aM
open Go.RowKit.Below renaming refl->aB
open Int renaming toNat_of_nonneg->aC5
open List renaming getElem?_cons_succ->aS,getElem?_cons_zero->aP,getElem?_eq_getElem->aN,getElem?_toArray->aR,length_append->aL,length_cons->cR,length_set->mW,setIfInBounds_toArray->aK,set_cons_succ->aG,set_cons_zero->aH
open Nat renaming le_refl->aA,shiftRight_eq_div_pow->AK
open Or renaming inl->aT
open UInt8 renaming ofNat->eK
namespace Go.Proofs.YtiifmcicleljjaaGreatDoor
open Go.RowKit Go Go.Shelf
theorem YU {t0 t1:List Int} {n:Nat} (d:fY t0) (z:fY t1) (l0:t0.length=n) (A:t1.length=n):∀(cs:List Int) (gs:List (List Int)),(∀g∈gs,g.length<=10/\∀x∈g,0<=x/\x<(n:Int))->(gP t0 t1 cs gs).length<=200*gs.length
 |[],gs,_=>by cases gs<;>simp[gP]
 |_::_,[],_=>by simp[gP]
 |c::cs,g::gs,h=>by
  have H:=YU d z l0 A cs gs (fun F G=>h F (List.mem_cons_of_mem _ G));obtain⟨I,E⟩:=h g (List.mem_cons_self ..);show(eR (if c=0 then t0 else t1) g++gP t0 t1 cs gs).length<=_;rw[aL,cR];have:(eR (if c=0 then t0 else t1) g).length<=20*g.length:=by
   split
   ·exact rR d g (by rw[l0];exact E)
   ·exact rR z g (by rw[A];exact E)
  omega
theorem YV {m g:List Int} (h:g∈cK m):g.length<=10/\∀x∈g,x∈m:=by
 obtain⟨i,_,rfl⟩:=List.mem_map.1 h;refine⟨by rw[List.length_take];omega,fun x d=>List.mem_of_mem_drop (List.mem_of_mem_take d)⟩
theorem aOt (d x:Int):0<(jU d x).length:=by
 unfold jU;rw[aL,List.length_singleton];omega
theorem YW:∀(l:List Int) (d:Int),l.length<=(eI d l).length
 |[],_=>by simp
 |x::l,d=>by
  have z:=YW l x;have:=aOt d x;unfold eI;rw[aL,cR];omega
theorem YX (l:List Int):5+l.length<=(dW l).length:=by
 have:=YW l (l.getD 0 0);unfold dW;rw[aL,cY];omega
theorem zR {t:ByteArray} (A:0<t.size) (L:(bC t.data.toList).length<=360) (E:fS (mkS (bC t.data.toList))):
  (cB t).length<=28000/\96+(fZ (bK (bC t.data.toList))).length+18+2*(5+((bK (bC t.data.toList)).length+2))<(cB t).length:=by
 obtain⟨P,a,m,o,n,d⟩:=BIn.of A (by omega) E;have M:m.length<=361:=by
  have:=(LW (mkS P)).1;rw[<-d.hm,cP,d.hP] at this;omega
 have O:=CD a;have F:=wL (dO (cT m n)) 2 (yW (DE m n));have T:=YQ (l:=dO (cT m n)) (by rw[uU,wJ];have:=d.m0;omega);have U:=wW (eH d.c0).1;have V:=wW (eH d.c1).1;have G:=YX (dN m n 0);have H:=YX (dN m n 1);have I:=YU (n:=n) (eH d.c0).1 (eH d.c1).1 d.l0 d.l1 (cT m n) (cK m) (fun g z=>⟨(YV z).1,fun x J=>d.rng x ((YV z).2 x J)⟩);rw[uU,wJ] at F;rw[iD] at I;rw[d.l0] at G;rw[d.l1] at H;have Y:=d.hn;rw[d.blk,<-d.hP,<-d.ha]
 simp only[aL,cY];omega
theorem aOu {t:ByteArray} {n:Int} (h:eZ t n=0):0<t.size/\1<=n/\n<=360/\((bC t.data.toList).length:Int)<=n:=by
 unfold eZ at h;split at h
 ·omega
 ·split at h
  ·omega
  ·omega
theorem wY {t:ByteArray} {n:Int} (d:0<t.size) (z:1<=n) (A:n<=360) (E:((bC t.data.toList).length:Int)<=n):eZ t n=0:=by
 unfold eZ;rw[if_neg (by omega),if_neg (by omega)]
theorem EM {t:ByteArray} {n:Int} (h:eZ t n=0):mP t n=cB t:=by unfold mP;rw[if_pos h]
theorem YY {t:ByteArray} {n:Int} (h:eZ t n≠0):mP t n=[]:=by unfold mP;rw[if_neg h]
theorem aOv {t:ByteArray} {n:Int} (d:eZ t n=0->fS (mkS (bC t.data.toList))):(mP t n).length<=28000:=by
 by_cases h:eZ t n=0
 ·rw[EM h];obtain⟨z,A,E,F⟩:=aOu h;exact(zR z (by omega) (d h)).1
 ·rw[YY h];simp
theorem aTw {x:Int} (c:Nat) (A:0<c) (E: -9223372036854775808<=x) (F:x<=9223372036854775807): -9223372036854775808<=x.tdiv c/\x.tdiv c<=9223372036854775807:=by
 rcases Int.lt_or_le x 0 with h|h
 ·have e:x.tdiv c= -((-x).tdiv c):=by rw[Int.neg_tdiv,Int.neg_neg]
  have d:=Int.tdiv_nonneg (a:= -x) (b:=(c:Int)) (by omega) (by omega);have z:=Int.tdiv_le_self (a:= -x) (c:Int) (by omega);omega
 ·have d:=Int.tdiv_nonneg (a:=x) (b:=(c:Int)) (by omega) (by omega);have z:=Int.tdiv_le_self (a:=x) (c:Int) (by omega);omega
theorem aTy {x:Int} (c:Nat) (d:0<c) (z: -9223372036854775808<=x) (A:x<=9223372036854775807):aI.wrap (x.tdiv c)=x.tdiv c:=by
 have:=aTw c d z A;rw[aM];omega
theorem aPv {q:Nat} (h:q<256):(eK q).toNat=q:=by
 simp;omega
theorem ZV (y:UInt8) (r:Nat):bits .xor .u8 (y.toNat:Int) ((128:Int)/2^r)=((eK (y.toNat^^^(128>>>r))).toNat:Int):=by
 have z:(128:Int)/(2:Int)^r=((128>>>r:Nat):Int):=by rw[AK];exact yG 128 r
 have d:128>>>r<256:=Nat.lt_of_le_of_lt (by rw[AK];exact Nat.div_le_self _ _) (by decide);rw[z,u8_xor_nat _ _ y.toNat_lt d,aPv (Nat.xor_lt_two_pow (n:=8) y.toNat_lt d)]
theorem ByA.rdB {w:World} {g cap:Nat} {l:List UInt8} (h:ByA w g l) (A:l.length<=cap) (E:cap<=maxLen):RdB w (.slice (some ⟨g,0,none⟩) l.length cap) l:=by
 refine⟨_,cap,rfl,A,E,.inr ⟨g,0,rfl,h.1,fun j d=>?_⟩⟩;rw[rE] at d;obtain⟨b,z⟩:∃b,l[j]? =some b:=⟨_,aN d⟩;rw[Nat.zero_add,h.2.1 j b z,List.getD_eq_getElem?_getD,BH z];rfl
theorem ByA.drew {w:World} {g:Nat} {l:List UInt8} (h:ByA w g l):ByA w.drew g l:=h
theorem aTz (q:Nat) (d:q<256) (W:World):(convert 45 9 (.slice (some ⟨W.heap.size,0,none⟩) 1 1)).run Tryz.prog (W.alloc (.cells #[.int .u8 (q:Int)] 5))=.ok (.string (mkS [eK q])) (W.alloc (.cells #[.int .u8 (q:Int)] 5)):=by
 have:=aN3 (eK q) W;rw[aPv d] at this;exact this
theorem aT0 (a:ByteArray) (which x:Int) (w:World) (ha:a.size<=100000) (b2: -9223372036854775808<=which) (b3:which<=9223372036854775807) (Z: -9223372036854775808<=x) (a0:x<=9223372036854775807):
  Calls Tryz.prog 14 #[.string a,.int .i64 which,.int .i64 x] w fun e w'=>∃t:ByteArray,e=.returned (.string t)/\t.size<=a.size/\Below w.heap.size w w':=by
 have I:=hid (show a.data.toList.length=a.size by simp)
 by_cases h0:a.size=0
 ·have u1:a.toList.isEmpty=true:=vA (List.eq_nil_of_length_eq_zero (by rw[I.out];exact h0));have HZ:=hid h0;clear h0;go_enter Tryz.func14,Tryz.ntmps14;go_wp2_with fail;go_ret;exact⟨a,rfl,aA _,aB _ _⟩
 have u1:a.toList.isEmpty=false:=rY (by omega);have m1:aI.wrap (8*(a.size:Int))=8*(a.size:Int):=by rw[aM];omega
 have J:=ZT x (8*(a.size:Int)) w Z a0 (by omega) (by omega);obtain⟨F,O⟩:=vU x (8*(a.size:Int)) (by omega);obtain⟨K,z⟩:∃K:Nat,gA x (8*(a.size:Int))=(K:Int):=⟨_,(aC5 F).symm⟩;rw[z] at J;have L:=ZT which 4 w b2 b3 (by decide) (by decide);obtain⟨p1,p2⟩:=vU which 4 (by decide);obtain⟨V,hV⟩:∃V:Nat,gA which 4=(V:Int):=⟨_,(aC5 p1).symm⟩;rw[hV] at L;have b4:V=0\/V=1\/V=2\/V=3:=by omega
 have c7:K<8*a.size:=by omega
 obtain⟨q,hq⟩:∃q,q=K/8:=⟨_,rfl⟩;obtain⟨r,hr⟩:∃r,r=K%8:=⟨_,rfl⟩;have a4:q<a.size:=by omega
 have c8:r<8:=by omega
 have m2:(K:Int).tdiv 8=(q:Int):=by rw[hq];exact Int.ofNat_tdiv K 8
 have m3:aI.wrap (q:Int)=(q:Int):=by rw[aM];omega
 have m4:(K:Int)/8=(q:Int):=by omega
 have m5:(K:Int).tmod 8=(r:Int):=by rw[Int.tmod_eq_emod_of_nonneg (by omega)];omega
 have m6:aI.wrap (r:Int)=(r:Int):=by rw[aM];omega
 have m7:(K:Int)%8=(r:Int):=by omega
 have m8:min r 8=r:=by omega
 clear z hV F O p1 p2 hq hr h0;rcases b4 with rfl|rfl|b5
 ·have m9:aI.wrap ((a.size:Int)+1)=(a.size:Int)+1:=by rw[aM];omega
  have hs:=ZT x ((a.size:Int)+1) w Z a0 (by omega) (by omega);obtain⟨F,O⟩:=vU x ((a.size:Int)+1) (by omega);obtain⟨j,T⟩:∃j:Nat,gA x ((a.size:Int)+1)=(j:Int):=⟨_,(aC5 F).symm⟩;rw[T] at hs;have j1:j<=a.size:=by omega
  have j2:(j:Int)<=(a.size:Int):=by omega
  clear T F O m2 m3 m4 m5 m6 m7 m8;go_enter Tryz.func14,Tryz.ntmps14;go_wp2_with fail;refine J.mono ?_;rintro e w' ⟨rfl,rfl⟩;go_wp2_with fail;refine L.mono ?_;rintro e w' ⟨rfl,rfl⟩;go_wp2_with fail;refine hs.mono ?_;rintro e w' ⟨rfl,rfl⟩;go_wp2_with fail;go_ret;exact⟨_,rfl,by rw[aTq];omega,aB _ _⟩
 ·obtain⟨E,hq9⟩:∃E,E=q+1:=⟨_,rfl⟩;have n1:aI.wrap ((q:Int)+1)=(E:Int):=by rw[aM];omega
  have n2:(q:Int)+1=(E:Int):=by omega
  have n3:E<=a.size:=by omega
  have n4:(E:Int)<=(a.size:Int):=by omega
  have n5:q<=a.size:=by omega
  have c9:aI.wrap (E:Int)=(E:Int):=by rw[aM];omega
  have d0:(0:Int)<=(E:Int):=by omega
  have d1:(0:Int)<=(q:Int):=by omega
  have n6:(q:Int)<=(a.size:Int):=by omega
  have n7:aI.wrap (x.tdiv 7)=x.tdiv 7:=aTy 7 (by decide) Z a0;obtain⟨t1,t2⟩:=aTw 7 (by decide) Z a0;have hz:=fun W=>ZT (x.tdiv 7) 256 W t1 t2 (by decide) (by decide)
  obtain⟨F,O⟩:=vU (x.tdiv 7) 256 (by decide);obtain⟨j,T⟩:∃j:Nat,gA (x.tdiv 7) 256=(j:Int):=⟨_,(aC5 F).symm⟩;rw[T] at hz;have j1:j<256:=by omega
  have n8:IntKind.u8.wrap (j:Int)=(j:Int):=by rw[IntKind.wrap_u8];omega
  have n9:(j:Int)%256=(j:Int):=by omega
  have a2:(convert 45 9 (.slice (some ⟨w.heap.size,0,none⟩) 1 1)).run Tryz.prog (w.alloc (.cells #[.int .u8 (j:Int)] 5)).drew=.ok (.string (mkS [eK j])) (w.alloc (.cells #[.int .u8 (j:Int)] 5)).drew:=aTz j j1 w.drew;have a5:(a.extract 0 q).size=q:=by rw[aTq];omega
  have a6:(a.extract E a.size).size=a.size-E:=by rw[aTq];omega
  obtain⟨H,b6⟩:∃H,a.extract 0 q=H:=⟨_,rfl⟩;obtain⟨U,b7⟩:∃U,a.extract E a.size=U:=⟨_,rfl⟩;obtain⟨G,a3⟩:∃G,mkS [eK j]=G:=⟨_,rfl⟩;have b8:G.size=1:=by rw[<-a3];rfl
  rw[b6] at a5;rw[b7] at a6;rw[a3] at a2;have o1:¬9223372036854775807<H.size+G.size:=by omega
  have o2:¬9223372036854775807<(H.size:Int)+(G.size:Int):=by omega
  have o3:¬9223372036854775807<H.size+G.size+U.size:=by omega
  have o4:¬9223372036854775807<(H.size:Int)+(G.size:Int)+(U.size:Int):=by omega
  have b9:=hid (show(H++G++U).size<=a.size by rw[aTx,aTx];omega);clear T F O m5 m6 m7 m8 a5 b8 a6 hq9 a3;go_enter Tryz.func14,Tryz.ntmps14;go_wp2_with fail;refine J.mono ?_;rintro e w' ⟨rfl,rfl⟩;go_wp2_with fail;refine L.mono ?_;rintro e w' ⟨rfl,rfl⟩;clear J L;go_wp2_with fail;have A:Below w.heap.size w w.drew:=(aB _ _).drew;have M:Below w.heap.size w (w.alloc (.cells #[.int .u8 (j:Int)] 5)).drew:=bD A _;refine wp_region_held_drew (S:=fun w'=>Below w.heap.size w w') (by kernel_rfl) A (fun d2=>?_)
  refine aQ (i:=0) (oi:=?oi0) (v:=?v0) ?hi0 (by kernel_rfl) (by kernel_rfl) (by kernel_rfl) ?hq0 ?hy0 A ?_
  case hi0=>(simp only[aR,aP];rfl)
  case hq0=>exact fun _ _ _ h=>h
  case hy0=>(refine aT ⟨by rfl,?_⟩;intro w' d;(try dsimp only at d);(try go_simp);try with_reducible rfl)
  try simp only[aJ,aK,aH,aG]
  refine aQ (i:=1) (oi:=?oi1) (v:=?v1) ?hi1 (by kernel_rfl) (by kernel_rfl) (by kernel_rfl) ?hq1 ?hy1 A ?_
  case hi1=>(simp only[aR,aS,aP];rfl)
  case hq1=>exact fun _ _ _ h=>h
  case hy1=>(refine aT ⟨by rfl,?_⟩;intro w' d;(try dsimp only at d);(try go_simp);try with_reducible rfl)
  try simp only[aJ,aK,aH,aG]
  refine aQ (i:=2) (oi:=?oi2) (v:=?v2) ?hi2 (by kernel_rfl) (by kernel_rfl) (by kernel_rfl) ?hq2 ?hy2 A ?_
  case hi2=>(simp only[aR,aS,aP];rfl)
  case hq2=>exact fun _ _ _ h=>h
  case hy2=>(refine aT ⟨by rfl,?_⟩;intro w' d;(try dsimp only at d);(try go_simp);try with_reducible rfl)
  try simp only[aJ,aK,aH,aG]
  refine aQ (i:=3) (oi:=?oi3) (v:=?v3) ?hi3 (by kernel_rfl) (by kernel_rfl) (by kernel_rfl) ?hq3 ?hy3 A ?_
  case hi3=>(simp only[aR,aS,aP];rfl)
  case hq3=>exact fun _ _ _ h=>h
  case hy3=>(refine aT ⟨by rfl,?_⟩;intro w' d;(try dsimp only at d);(try go_simp);try with_reducible rfl)
  try simp only[aJ,aK,aH,aG]
  refine aQ (i:=4) (oi:=?oi4) (v:=?v4) ?hi4 (by kernel_rfl) (by kernel_rfl) (by kernel_rfl) ?hq4 ?hy4 A ?_
  case hi4=>(simp only[aR,aS,aP];rfl)
  case hq4=>exact fun _ _ _ h=>h
  case hy4=>(refine aT ⟨by rfl,?_⟩;intro w' d;(try dsimp only at d);(try go_simp);try with_reducible rfl)
  try simp only[aJ,aK,aH,aG]
  refine aQ (i:=5) (oi:=?oi5) (v:=?v5) ?hi5 (by kernel_rfl) (by kernel_rfl) (by kernel_rfl) ?hq5 ?hy5 A ?_
  case hi5=>(simp only[aR,aS,aP];rfl)
  case hq5=>exact fun _ _ _ h=>h
  case hy5=>(refine aT ⟨by rfl,?_⟩;intro w' d;(try dsimp only at d);(try go_simp);try with_reducible rfl)
  try simp only[aJ,aK,aH,aG]
  refine aQ (i:=11) (oi:=?oi11) (v:=?v11) ?hi11 (by kernel_rfl) (by kernel_rfl) (by kernel_rfl) ?hq11 ?hy11 A ?_
  case hi11=>(simp only[aR,aS,aP];rfl)
  case hq11=>exact fun _ _ _ h=>h
  case hy11=>(refine aT ⟨by rfl,?_⟩;intro w' d;(try dsimp only at d);(try go_simp);try with_reducible rfl)
  try simp only[aJ,aK,aH,aG]
  refine aQ (i:=12) (oi:=?oi12) (v:=?v12) ?hi12 (by kernel_rfl) (by kernel_rfl) (by kernel_rfl) ?hq12 ?hy12 A ?_
  case hi12=>(simp only[aR,aS,aP];rfl)
  case hq12=>exact fun _ _ _ h=>h
  case hy12=>(refine aT ⟨by rfl,?_⟩;intro w' d;(try dsimp only at d);(try go_simp);try with_reducible rfl)
  try simp only[aJ,aK,aH,aG]
  refine aQ (i:=13) (oi:=?oi13) (v:=?v13) ?hi13 (by kernel_rfl) (by kernel_rfl) (by kernel_rfl) ?hq13 ?hy13 A ?_
  case hi13=>(simp only[aR,aS,aP];rfl)
  case hq13=>exact fun _ _ _ h=>h
  case hy13=>(refine aT ⟨by rfl,?_⟩;intro w' d;(try dsimp only at d);(try go_simp);try with_reducible rfl)
  try simp only[aJ,aK,aH,aG]
  refine aQ (i:=14) (oi:=?oi14) (v:=?v14) ?hi14 (by kernel_rfl) (by kernel_rfl) (by kernel_rfl) ?hq14 ?hy14 A ?_
  case hi14=>(simp only[aR,aS,aP];rfl)
  case hq14=>exact fun _ _ _ h=>h
  case hy14=>(refine aT ⟨by rfl,?_⟩;intro w' d;(try dsimp only at d);(try go_simp);try with_reducible rfl)
  try simp only[aJ,aK,aH,aG]
  refine aQ (i:=15) (oi:=?oi15) (v:=?v15) ?hi15 (by kernel_rfl) (by kernel_rfl) (by kernel_rfl) ?hq15 ?hy15 A ?_
  case hi15=>(simp only[aR,aS,aP];rfl)
  case hq15=>exact fun _ _ _ h=>h
  case hy15=>(refine aT ⟨by rfl,?_⟩;intro w' d;(try dsimp only at d);(try go_simp);try with_reducible rfl)
  try simp only[aJ,aK,aH,aG]
  refine fL (rs:=[6]) (by kernel_rfl) (by simp) ?_;refine fA rfl (fun K z=>?_) fM;go_simp;refine(hz _).mono ?_;rintro e w4 ⟨rfl,rfl⟩;refine z.out _ _ A (fun _=>?_);clear z K
  try simp only[aJ,aK,aH,aG]
  refine aQ (i:=7) (oi:=?oi7) (v:=?v7) ?hi7 (by kernel_rfl) (by kernel_rfl) (by kernel_rfl) ?hq7 ?hy7 A ?_
  case hi7=>(simp only[aR,aS,aP];rfl)
  case hq7=>exact fun _ _ _ h=>h
  case hy7=>(refine aT ⟨by rfl,?_⟩;intro w' d;(try dsimp only at d);(try go_simp);try with_reducible rfl)
  try simp only[aJ,aK,aH,aG]
  refine fL (rs:=[8]) (by kernel_rfl) (by simp) ?_;refine fA rfl (fun K z=>?_) fM;go_simp;refine z.out _ _ M (fun _=>?_);clear z K
  try simp only[aJ,aK,aH,aG]
  refine fL (rs:=[9]) (by kernel_rfl) (by simp) ?_;refine fA rfl (fun K z=>?_) fM;go_simp;refine z.out _ _ M (fun _=>?_);clear z K
  try simp only[aJ,aK,aH,aG]
  refine fL (rs:=[10]) (by kernel_rfl) (by simp) ?_;refine fA rfl (fun K z=>?_) fM;go_simp;refine z.out _ _ M (fun _=>?_);clear z K
  try simp only[aJ,aK,aH,aG]
  refine fL (rs:=[16]) (by kernel_rfl) (by simp) ?_;refine fA rfl (fun K z=>?_) fM;go_simp;refine z.out _ _ M (fun _=>?_);clear z K
  try simp only[aJ,aK,aH,aG]
  refine fL (rs:=[17]) (by kernel_rfl) (by simp) ?_;refine fA rfl (fun K z=>?_) fM;go_simp;refine z.out _ _ M (fun _=>?_);clear z K
  try simp only[aJ,aK,aH,aG]
  refine wpAnyH_done (by kernel_rfl) ?_ _;go_wp2_with fail;go_ret;exact⟨_,rfl,b9.out,M⟩
 ·obtain⟨cap,w2,a2,c0,c3,hA,a7,c4⟩:=DX w a (by omega);obtain⟨Y,hY⟩:∃Y,a.data.toList[q]? =some Y:=⟨_,aN (by rw[I.out];exact a4)⟩;have c1:=hA.2.1 q Y hY;have f1:=hA.2.2 q (by rw[I.out];exact a4);have a8:=ZV Y r;obtain⟨Y2,a9⟩:∃Y2,Y2=eK (Y.toNat^^^(128>>>r)):=⟨_,rfl⟩;rw[<-a9] at a8;have q1:(q:Int)<(a.size:Int):=by omega
  have v1:((V:Int)==0)=false:=by rw[beq_eq_false_iff_ne];omega
  have v2:((V:Int)==1)=false:=by rw[beq_eq_false_iff_ne];omega
  have v3:(V==0)=false:=by rw[beq_eq_false_iff_ne];omega
  have v4:(V==1)=false:=by rw[beq_eq_false_iff_ne];omega
  have b0:=(hA.drew).set q Y2;have a1:=lQ (b0.rdB (cap:=cap) (by rw[mW,I.out];exact c0) c3);rw[mW,I.out] at a1;have HB:=hid a1;have c5:=Y.toNat_lt;obtain⟨yv,b1⟩:∃yv,yv=Y.toNat:=⟨_,rfl⟩;rw[<-b1] at c1 a8 c5;clear b5 hY a9 b1 hA b0 a1;go_enter Tryz.func14,Tryz.ntmps14;go_wp2_with fail;refine J.mono ?_;rintro e w' ⟨rfl,rfl⟩;go_wp2_with fail;refine L.mono ?_;rintro e w' ⟨rfl,rfl⟩;clear J L;go_wp2_with fail
  go_still_tail 13,(by kernel_rfl)
  change wpList _ _ _ _ _ w2.drew;have c2:w2.drew.cell? ⟨w.heap.size,q,none⟩=some (.int .u8 (yv:Int)):=c1;have f2:w2.drew.frozen? ⟨w.heap.size,q,none⟩=false:=f1;have c6:=a7.drew;clear c1 f1 a7 c4 a2;generalize w2.drew=w3 at*
  have a1:=HB.out;go_wp2_with fail;go_ret;exact⟨_,rfl,by rw[cP,mW,I.out];exact aA _,c6.setCell (p:=⟨w.heap.size,q,none⟩) (aA _) _⟩
end Go.Proofs.YtiifmcicleljjaaGreatDoor
