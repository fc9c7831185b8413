/-
  Texts put together (part 44): the walks and the plain laws on which the statement stands.
-/
import Derived.Test.YtihbnmlinkbnkaaGreatDoorZ41
set_option maxRecDepth 100000
set_option maxHeartbeats 12800000
set_option linter.unusedVariables false
set_option linter.unusedSimpArgs false
open Go.Proofs.Tryz
open Go.Proofs.Tryz renaming prog->pG
open ByteArray renaming size_append->rG,size_extract->aL6
open Go.Act renaming put->bJ
open Go.IntKind renaming i64->aJ,wrap_i64->aM
open Go.RowKit.Below renaming refl->aH
open Int renaming tmod_eq_emod_of_nonneg->mL,toNat_of_nonneg->rI
open List renaming getElem?_cons_succ->gH,getElem?_cons_zero->gB,getElem?_eq_getElem->aN,getElem?_toArray->gA,length_cons->aU,length_nil->aV,length_set->nW,setIfInBounds_toArray->bK,set_cons_succ->bB,set_cons_zero->bH,size_toArray->dB
open Nat renaming le_refl->aD,reduceAdd->cV,reduceSub->dC,shiftRight_eq_div_pow->AW
open Or renaming inl->gJ,inr->gI
open UInt8 renaming ofNat->eA
namespace Go.Proofs.YtihbnmlinkbnkaaGreatDoor
open Go.RowKit Go Go.Shelf
theorem bDn {s:List UInt8} (h:(cI s).2≠0):eY s=[]:=by unfold eY;rw[aA h]
theorem NO (c n:Int) (w:World) (F: -9223372036854775808<=c) (G:c<=9223372036854775807) (H:1<=n) (I:n<=1000000000):
  Calls pG 63 #[.int .i64 c,.int .i64 n] w fun e w'=>e=.returned (.int .i64 (cK c n))/\w=w':=by
 by_cases A:c<0
 ·have d:=hid (show cK c n=(-(c+1))%n from by simp[cK,A]);go_enter func63,ntmps63;go_wp2;go_ret;exact⟨eI (by rw[d.out];rw[<-Int.neg_tmod,mL (by omega)]),rfl⟩
 ·have d:=hid (show cK c n=c%n from by simp[cK,A]);have J:0<=c:=by omega
  go_enter func63,ntmps63;go_wp2;go_ret;exact⟨eI (by rw[d.out]),rfl⟩
theorem aK4 {x:Int} (c:Nat) (F:0<c) (G: -9223372036854775808<=x) (H:x<=9223372036854775807): -9223372036854775808<=x.tdiv c/\x.tdiv c<=9223372036854775807:=by
 rcases Int.lt_or_le x 0 with h|h
 ·have e:x.tdiv c= -((-x).tdiv c):=by rw[Int.neg_tdiv,Int.neg_neg]
  have d:=Int.tdiv_nonneg (a:= -x) (b:=(c:Int)) (by omega) (by omega);have A:=Int.tdiv_le_self (a:= -x) (c:Int) (by omega);omega
 ·have d:=Int.tdiv_nonneg (a:=x) (b:=(c:Int)) (by omega) (by omega);have A:=Int.tdiv_le_self (a:=x) (c:Int) (by omega);omega
theorem bF0 {x:Int} (c:Nat) (d:0<c) (A: -9223372036854775808<=x) (F:x<=9223372036854775807):aJ.wrap (x.tdiv c)=x.tdiv c:=by
 have:=aK4 c d A F;rw[aM];omega
theorem aK5 {q:Nat} (h:q<256):(eA q).toNat=q:=by
 simp;omega
theorem bF1 (y:UInt8) (r:Nat):bits .xor .u8 (y.toNat:Int) ((128:Int)/2^r)=((eA (y.toNat^^^(128>>>r))).toNat:Int):=by
 have A:(128:Int)/(2:Int)^r=((128>>>r:Nat):Int):=by grind [AW,CE]
 have d:128>>>r<256:=Nat.lt_of_le_of_lt (by rw[AW];exact Nat.div_le_self _ _) (by decide);rw[A,u8_xor_nat _ _ y.toNat_lt d,aK5 (Nat.xor_lt_two_pow (n:=8) y.toNat_lt d)]
theorem ByA.rdB {w:World} {g cap:Nat} {l:List UInt8} (h:ByA w g l) (A:l.length<=cap) (F:cap<=maxLen):RdB w (.slice (some ⟨g,0,none⟩) l.length cap) l:=by
 refine⟨_,cap,rfl,A,F,.inr ⟨g,0,rfl,h.1,fun j d=>?_⟩⟩;rw[vO] at d;obtain⟨b,G⟩:∃b,l[j]? =some b:=⟨_,aN d⟩
 grind [IZ,ByA,RdB]
theorem ByA.drew {w:World} {g:Nat} {l:List UInt8} (h:ByA w g l):ByA w.drew g l:=h
theorem bF2 (q:Nat) (d:q<256) (W:World):(convert 48 9 (.slice (some ⟨W.heap.size,0,none⟩) 1 1)).run pG (W.alloc (.cells #[.int .u8 (q:Int)] 5))=.ok (.string (mkS [eA q])) (W.alloc (.cells #[.int .u8 (q:Int)] 5)):=by grind [aBn,aK5,mkS]
theorem bHo (a:ByteArray) (which x:Int) (w:World) (ha:a.size<=100000) (b4: -9223372036854775808<=which) (b5:which<=9223372036854775807) (a1: -9223372036854775808<=x) (a2:x<=9223372036854775807):
  Calls pG 15 #[.string a,.int .i64 which,.int .i64 x] w fun e w'=>∃t:ByteArray,e=.returned (.string t)/\t.size<=a.size/\Below w.heap.size w w':=by
 have I:=hid (show a.data.toList.length=a.size by simp)
 by_cases h0:a.size=0
 ·have u1:a.toList.isEmpty=true:=EI (List.eq_nil_of_length_eq_zero (by rw[I.out];exact h0));have HZ:=hid h0;clear h0;go_enter func15,ntmps15;go_wp2_with fail;go_ret;exact⟨a,rfl,aD _,aH _ _⟩
 have u1:a.toList.isEmpty=false:=xK (by omega);have m1:aJ.wrap (8*(a.size:Int))=8*(a.size:Int):=by rw[aM];omega
 have J:=NO x (8*(a.size:Int)) w a1 a2 (by omega) (by omega);obtain⟨F,U⟩:=lN x (8*(a.size:Int)) (by omega);obtain⟨K,d⟩:∃K:Nat,cK x (8*(a.size:Int))=(K:Int):=⟨_,(rI F).symm⟩;rw[d] at J;have L:=NO which 4 w b4 b5 (by decide) (by decide);obtain⟨p1,p2⟩:=lN which 4 (by decide);obtain⟨V,hV⟩:∃V:Nat,cK which 4=(V:Int):=⟨_,(rI p1).symm⟩;rw[hV] at L;have b6:V=0\/V=1\/V=2\/V=3:=by omega
 have d0:K<8*a.size:=by omega
 obtain⟨q,hq⟩:∃q,q=K/8:=⟨_,rfl⟩;obtain⟨r,hr⟩:∃r,r=K%8:=⟨_,rfl⟩;have a6:q<a.size:=by omega
 have d1:r<8:=by omega
 have m2:(K:Int).tdiv 8=(q:Int):=by rw[hq];exact Int.ofNat_tdiv K 8
 have m3:aJ.wrap (q:Int)=(q:Int):=by rw[aM];omega
 have m4:(K:Int)/8=(q:Int):=by omega
 have m5:(K:Int).tmod 8=(r:Int):=by rw[mL (by omega)];omega
 have m6:aJ.wrap (r:Int)=(r:Int):=by rw[aM];omega
 have m7:(K:Int)%8=(r:Int):=by omega
 have m8:min r 8=r:=by omega
 clear d hV F U p1 p2 hq hr h0;rcases b6 with rfl|rfl|b7
 ·have m9:aJ.wrap ((a.size:Int)+1)=(a.size:Int)+1:=by rw[aM];omega
  have hs:=NO x ((a.size:Int)+1) w a1 a2 (by omega) (by omega);obtain⟨F,U⟩:=lN x ((a.size:Int)+1) (by omega);obtain⟨j,Z⟩:∃j:Nat,cK x ((a.size:Int)+1)=(j:Int):=⟨_,(rI F).symm⟩;rw[Z] at hs;have j1:j<=a.size:=by omega
  have j2:(j:Int)<=(a.size:Int):=by omega
  clear Z F U m2 m3 m4 m5 m6 m7 m8;go_enter func15,ntmps15;go_wp2_with fail;refine J.mono ?_;rintro e w' ⟨rfl,rfl⟩;go_wp2_with fail;refine L.mono ?_;rintro e w' ⟨rfl,rfl⟩;go_wp2_with fail;refine hs.mono ?_;rintro e w' ⟨rfl,rfl⟩;go_wp2_with fail;go_ret;exact⟨_,rfl,by rw[aL6];omega,aH _ _⟩
 ·obtain⟨A,b8⟩:∃A,A=q+1:=⟨_,rfl⟩;have n1:aJ.wrap ((q:Int)+1)=(A:Int):=by rw[aM];omega
  have n2:(q:Int)+1=(A:Int):=by omega
  have n3:A<=a.size:=by omega
  have n4:(A:Int)<=(a.size:Int):=by omega
  have n5:q<=a.size:=by omega
  have d2:aJ.wrap (A:Int)=(A:Int):=by rw[aM];omega
  have d3:(0:Int)<=(A:Int):=by omega
  have d4:(0:Int)<=(q:Int):=by omega
  have n6:(q:Int)<=(a.size:Int):=by omega
  have n7:aJ.wrap (x.tdiv 7)=x.tdiv 7:=bF0 7 (by decide) a1 a2;obtain⟨t1,t2⟩:=aK4 7 (by decide) a1 a2;have hz:=fun W=>NO (x.tdiv 7) 256 W t1 t2 (by decide) (by decide)
  obtain⟨F,U⟩:=lN (x.tdiv 7) 256 (by decide);obtain⟨j,Z⟩:∃j:Nat,cK (x.tdiv 7) 256=(j:Int):=⟨_,(rI F).symm⟩;rw[Z] at hz;have j1:j<256:=by omega
  have n8:IntKind.u8.wrap (j:Int)=(j:Int):=by rw[IntKind.wrap_u8];omega
  have n9:(j:Int)%256=(j:Int):=by omega
  have a4:(convert 48 9 (.slice (some ⟨w.heap.size,0,none⟩) 1 1)).run pG (w.alloc (.cells #[.int .u8 (j:Int)] 5)).drew=.ok (.string (mkS [eA j])) (w.alloc (.cells #[.int .u8 (j:Int)] 5)).drew:=bF2 j j1 w.drew;have a7:(a.extract 0 q).size=q:=by rw[aL6];omega
  have a8:(a.extract A a.size).size=a.size-A:=by rw[aL6];omega
  obtain⟨H,b9⟩:∃H,a.extract 0 q=H:=⟨_,rfl⟩;obtain⟨X3,c0⟩:∃X3,a.extract A a.size=X3:=⟨_,rfl⟩;obtain⟨G,a5⟩:∃G,mkS [eA j]=G:=⟨_,rfl⟩;have c3:G.size=1:=by rw[<-a5];rfl
  rw[b9] at a7;rw[c0] at a8;rw[a5] at a4;have o1:¬9223372036854775807<H.size+G.size:=by omega
  have o2:¬9223372036854775807<(H.size:Int)+(G.size:Int):=by omega
  have o3:¬9223372036854775807<H.size+G.size+X3.size:=by omega
  have o4:¬9223372036854775807<(H.size:Int)+(G.size:Int)+(X3.size:Int):=by omega
  have c4:=hid (show(H++G++X3).size<=a.size by rw[rG,rG];omega);clear Z F U m5 m6 m7 m8 a7 c3 a8 b8 a5;go_enter func15,ntmps15;go_wp2_with fail;refine J.mono ?_;rintro e w' ⟨rfl,rfl⟩;go_wp2_with fail;refine L.mono ?_;rintro e w' ⟨rfl,rfl⟩;clear J L;go_wp2_with fail;have M:Below w.heap.size w w.drew:=(aH _ _).drew;have O:Below w.heap.size w (w.alloc (.cells #[.int .u8 (j:Int)] 5)).drew:=bD M _;refine wp_region_held_drew (S:=fun w'=>Below w.heap.size w w') (by kernel_rfl) M (fun d5=>?_)
  iterate 6
   refine fV 0 0 (by simp only[dB,aU,aV,cV,dC]<;>rfl) (by simp only[gA,gH,gB];rfl) (by kernel_rfl) (by exact fun _ _ _ h=>h) (by first|exact gI ⟨by rfl,rfl⟩|(refine gJ ⟨by rfl,?_⟩;intro w' a0;(try dsimp only at a0);(try go_simp);try with_reducible rfl)) M ?_
   try simp only[bJ,bK,bH,bB]
  iterate 5
   refine fV 5 0 (by simp only[dB,aU,aV,cV,dC]<;>rfl) (by simp only[gA,gH,gB];rfl) (by kernel_rfl) (by exact fun _ _ _ h=>h) (by first|exact gI ⟨by rfl,rfl⟩|(refine gJ ⟨by rfl,?_⟩;intro w' a0;(try dsimp only at a0);(try go_simp);try with_reducible rfl)) M ?_
   try simp only[bJ,bK,bH,bB]
  refine dJ (i:=6) (by kernel_rfl) rfl (fun K d=>?_);go_simp;refine(hz _).mono ?_;rintro e w4 ⟨rfl,rfl⟩;refine d.out _ _ M (fun _=>?_);clear d K
  try simp only[bJ,bK,bH,bB]
  refine fV 0 5 (by simp only[dB,aU,aV,cV,dC]<;>rfl) (by simp only[gA,gH,gB];rfl) (by kernel_rfl) (by exact fun _ _ _ h=>h) (by first|exact gI ⟨by rfl,rfl⟩|(refine gJ ⟨by rfl,?_⟩;intro w' a0;(try dsimp only at a0);(try go_simp);try with_reducible rfl)) M ?_
  try simp only[bJ,bK,bH,bB]
  refine dJ (i:=8) (by kernel_rfl) rfl (fun K d=>?_);go_simp;refine d.out _ _ O (fun _=>?_);clear d K
  try simp only[bJ,bK,bH,bB]
  refine dJ (i:=9) (by kernel_rfl) rfl (fun K d=>?_);go_simp;refine d.out _ _ O (fun _=>?_);clear d K
  try simp only[bJ,bK,bH,bB]
  refine dJ (i:=10) (by kernel_rfl) rfl (fun K d=>?_);go_simp;refine d.out _ _ O (fun _=>?_);clear d K
  try simp only[bJ,bK,bH,bB]
  refine dJ (i:=16) (by kernel_rfl) rfl (fun K d=>?_);go_simp;refine d.out _ _ O (fun _=>?_);clear d K
  try simp only[bJ,bK,bH,bB]
  refine dJ (i:=17) (by kernel_rfl) rfl (fun K d=>?_);go_simp;refine d.out _ _ O (fun _=>?_);clear d K
  try simp only[bJ,bK,bH,bB]
  refine wpAnyH_done (by kernel_rfl) ?_ _;go_wp2_with fail;go_ret;exact⟨_,rfl,c4.out,O⟩
 ·obtain⟨cap,w2,a4,c5,c6,hA,a9,c7⟩:=PZ w a (by omega);obtain⟨Y,hY⟩:∃Y,a.data.toList[q]? =some Y:=⟨_,aN (by rw[I.out];exact a6)⟩;have c1:=hA.2.1 q Y hY;have f1:=hA.2.2 q (by rw[I.out];exact a6);have b0:=bF1 Y r;obtain⟨Y2,b1⟩:∃Y2,Y2=eA (Y.toNat^^^(128>>>r)):=⟨_,rfl⟩;rw[<-b1] at b0;have q1:(q:Int)<(a.size:Int):=by omega
  have v1:((V:Int)==0)=false:=by rw[cB];omega
  have v2:((V:Int)==1)=false:=by rw[cB];omega
  have v3:(V==0)=false:=by rw[cB];omega
  have v4:(V==1)=false:=by rw[cB];omega
  have b2:=(hA.drew).set q Y2;have a3:=mP (b2.rdB (cap:=cap) (by rw[nW,I.out];exact c5) c6);rw[nW,I.out] at a3;have HB:=hid a3;have c8:=Y.toNat_lt;obtain⟨yv,b3⟩:∃yv,yv=Y.toNat:=⟨_,rfl⟩;rw[<-b3] at c1 b0 c8;clear b7 hY b1 b3 hA b2 a3;go_enter func15,ntmps15;go_wp2_with fail;refine J.mono ?_;rintro e w' ⟨rfl,rfl⟩;go_wp2_with fail;refine L.mono ?_;rintro e w' ⟨rfl,rfl⟩;clear J L;go_wp2_with fail
  go_still_tail 13,(by kernel_rfl)
  change wpList _ _ _ _ _ w2.drew;have c2:w2.drew.cell? ⟨w.heap.size,q,none⟩=some (.int .u8 (yv:Int)):=c1;have f2:w2.drew.frozen? ⟨w.heap.size,q,none⟩=false:=f1;have c9:=a9.drew;clear c1 f1 a9 c7 a4;generalize w2.drew=w3 at*
  have a3:=HB.out;go_wp2_with fail;go_ret;exact⟨_,rfl,by rw[cS,nW,I.out];exact aD _,c9.setCell (p:=⟨w.heap.size,q,none⟩) (aD _) _⟩
end Go.Proofs.YtihbnmlinkbnkaaGreatDoor
