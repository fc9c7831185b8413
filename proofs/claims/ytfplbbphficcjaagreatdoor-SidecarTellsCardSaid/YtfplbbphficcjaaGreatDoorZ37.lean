/-
  Texts put together (part 37): the walks and the plain laws on which the statement stands.
-/
import Derived.Test.YtfplbbphficcjaaGreatDoorZ34
set_option maxRecDepth 100000
set_option maxHeartbeats 12800000
set_option linter.unusedVariables false
set_option linter.unusedSimpArgs false
open Go.Proofs.Tryz
open Go.Proofs.Tryz renaming prog->pG
open ByteArray renaming size_extract->aL6
open Go renaming wp_region_held_drew->rF
open Go.Act renaming put->bJ
open Go.IntKind renaming i64->aJ,u64->eZ,wrap_u64->fC
open Go.RowKit.Below renaming refl->aH
open List renaming getElem?_cons_succ->gH,getElem?_cons_zero->gB,getElem?_toArray->gA,length_cons->aU,length_nil->aV,length_take->aQ,setIfInBounds_toArray->bK,set_cons_succ->bB,set_cons_zero->bH,size_toArray->dB
open Nat renaming le_refl->aD,reduceAdd->cV,reduceSub->dC
open Or renaming inl->gJ,inr->gI
namespace Go.Proofs.YtfplbbphficcjaaGreatDoor
open Go.RowKit Go Go.Shelf
theorem bJg (l:List UInt8) (b:UInt8):bP (l++[b])=bP l*256+b.toNat:=by simp[bP]
theorem bJh {l:List UInt8} {k:Nat} {b:UInt8} (h:l[k]? =some b):bP (l.take (k+1))=bP (l.take k)*256+b.toNat:=by
 rw[List.take_add_one,h];exact bJg _ _
theorem bI2 (s:ByteArray) (w:World) (hs:s.size<=8):
  Calls pG 35 #[.string s] w fun e w'=>e=.returned (.int .u64 (bP s.data.toList:Int))/\w'=w:=by
 have J:=hid (show s.data.toList.length=s.size by simp);go_enter func35,ntmps35;go_wp2_with fail
 go_loopg [3,4] s.size (fun g L M wr=>∃k V:Nat,k<=s.size/\g=s.size-k/\M=.int .i64 (k:Int)/\L=.int .u64 (V:Int)/\Hid (V=bP (s.data.toList.take k))/\wr=w)
 case atStart=>exact⟨0,0,Nat.zero_le _,rfl,rfl,rfl,hid rfl,rfl⟩
 case round=>
  obtain⟨k,V,hk,A,rfl,rfl,D,rfl⟩:=hrel;have O:=hid A;clear A
  by_cases T:k<s.size
  ·have U:decide ((k:Int)<(s.size:Int))=true:=aG (by omega);have F:=fW s k T;have a1:=s[k].toNat_lt;have Y:V<72057594037927936:=by
    have Z:=VQ (s.data.toList.take k);have h2:(s.data.toList.take k).length<=7:=by rw[aQ];omega
    have h3:=Nat.pow_le_pow_right (n:=256) (by decide) h2;have h4:(256:Nat)^7=72057594037927936:=by decide
    rw[<-D.out] at Z;omega
   obtain⟨d,G⟩:∃d,d=256*V:=⟨_,rfl⟩;obtain⟨b,H⟩:∃b,b=s[k].toNat:=⟨_,rfl⟩;obtain⟨h,I⟩:∃h,h=d+b:=⟨_,rfl⟩;have m1:eZ.wrap (256*(V:Int))=(d:Int):=by rw[fC];omega
   have m2:eZ.wrap (s[k].toNat:Int)=(s[k].toNat:Int):=by rw[fC];omega
   have m3:eZ.wrap ((d:Int)+(s[k].toNat:Int))=(h:Int):=by rw[fC];omega
   have a0:=hid (show h=bP (s.data.toList.take (k+1)) by rw[bJh F,<-D.out,I,G,H,Nat.mul_comm]);clear F G H I Y;go_wp2_with fail;have A:=O.out
   go_roundg (s.size-(k+1))
   case measure=>omega
   case rel=>exact⟨k+1,h,by omega,rfl,by go_num,rfl,a0,rfl⟩
  ·have U:decide ((k:Int)<(s.size:Int))=false:=aE (by omega);have HF:=hid (show(V:Int)=(bP s.data.toList:Int) by rw[D.out,List.take_of_length_le (by rw[J.out];omega)]);go_wp2_with fail;go_ret;exact⟨eI HF.out,rfl⟩
theorem bJi:(pG.info? 47).map (·.size)=some 5:=by kernel_rfl
theorem bI3 {d:Func} {Q:Ending->World->Prop} {W:World} {a:Act} {z:Nat} {e A D F G u:Value} (H:d.results=#[.cell 2 47,.tmp 3]) (I:Arr W z 47 [e,A,D,F,G]) (J:a.tmps.getD 2 undef=.pointer (some ⟨z,0,none⟩)) (L:a.tmps.getD 3 undef=u) (M:a.defers=[])
  (h:Q (.returned (.tuple #[.agg #[e,A,D,F,G],u])) W):bodyPost pG d Q .ret a W:=by
 refine bodyPost_ret (uS H _ _ z _ _ (0,0) _ J I underlying47 rfl bJi) M ?_;rw[L];exact h
theorem bJj (s:ByteArray) (w:World) (hs:s.size=26):
  Calls pG 36 #[.string s] w fun e w'=>e=.returned (.tuple #[.agg (bG (AJ s.data.toList)).toArray,.bool (!wR s.data.toList)])/\Below w.heap.size w w':=by
 have hv:=fun(i j:Nat) (b3:j<=i+8) W=>bI2 (s.extract i j) W (by rw[aL6];omega)
 have ev:=fun i j=>show(s.extract i j).data.toList=(s.data.toList.drop i).take (j-i) by rw[iW,dP]
 have a3:=fun W=>hv 0 8 (by decide) W
 have a4:=fun W=>hv 8 10 (by decide) W
 have a5:=fun W=>hv 10 18 (by decide) W
 have a6:=fun W=>hv 18 22 (by decide) W
 have a7:=fun W=>hv 22 26 (by decide) W
 rw[ev] at a3 a4 a5 a6 a7;obtain⟨A,hA⟩:∃A,A=bP ((s.data.toList.drop 0).take (8-0)):=⟨_,rfl⟩;obtain⟨R,hR⟩:∃R,R=bP ((s.data.toList.drop 8).take (10-8)):=⟨_,rfl⟩;obtain⟨F,hF⟩:∃F,F=bP ((s.data.toList.drop 10).take (18-10)):=⟨_,rfl⟩;obtain⟨N,hN⟩:∃N,N=bP ((s.data.toList.drop 18).take (22-18)):=⟨_,rfl⟩;obtain⟨Y,hY⟩:∃Y,Y=bP ((s.data.toList.drop 22).take (26-22)):=⟨_,rfl⟩;rw[<-hA] at a3;rw[<-hR] at a4;rw[<-hF] at a5;rw[<-hN] at a6;rw[<-hY] at a7;have lR:R<65536:=by rw[hR];exact DD (k:=2) (by rw[aQ];omega) (by decide)
 have lN:N<4294967296:=by rw[hN];exact DD (k:=4) (by rw[aQ];omega) (by decide)
 have lY:Y<4294967296:=by rw[hY];exact DD (k:=4) (by rw[aQ];omega) (by decide)
 obtain⟨M,a8⟩:∃M,M=aJ.wrap (A:Int):=⟨_,rfl⟩;obtain⟨O,a9⟩:∃O,O=aJ.wrap (F:Int):=⟨_,rfl⟩;have HE:=hid (show bG (AJ s.data.toList)=[.int .i64 M,.int .i64 (R:Int),.int .i64 O,.int .i64 (N:Int),.int .u32 (Y:Int)] by
  rw[a8,a9,hA,hR,hF,hN,hY];simp only[bG,AJ,List.drop_zero,dC])
 obtain⟨p,hp⟩:∃p:Bool,p=decide ((A:Int)<9223372036854775808):=⟨_,rfl⟩;obtain⟨q,hq⟩:∃q:Bool,q=decide ((F:Int)<9223372036854775808):=⟨_,rfl⟩;have HG:=hid (show(p&&q)= !wR s.data.toList by
  rw[hp,hq];unfold wR;have eA:bP (s.data.toList.take 8)=A:=by rw[hA];rfl
  have eF:bP ((s.data.toList.drop 10).take 8)=F:=by rw[hF]
  rw[eA,eF,Bool.not_or,<-decide_not,<-decide_not];rw[show decide ((A:Int)<9223372036854775808)=decide (¬9223372036854775808<=A) from decide_eq_decide.2 (by omega),show decide ((F:Int)<9223372036854775808)=decide (¬9223372036854775808<=F) from decide_eq_decide.2 (by omega)])
 have mA:=a8.symm;have mF:=a9.symm;have mR:=lE R (by omega);have mN:=lE N (by omega);have mY:=aGs Y lY;have b4:=hp.symm;have b5:=hq.symm;have b6:decide (A<9223372036854775808)=p:=by rw[hp];exact decide_eq_decide.2 (by omega)
 have b7:decide (F<9223372036854775808)=q:=by rw[hq];exact decide_eq_decide.2 (by omega)
 have b8:(26:Int)<=(s.size:Int):=by omega
 clear hv ev hA hR hF hN hY a8 a9 hp hq;rw[HE.out,<-HG.out];clear HE HG
 cases p
 ·skip
  go_enter func36,ntmps36;go_wp2_with fail;refine(a3 _).mono ?_;rintro e w1 ⟨rfl,rfl⟩;go_wp2_with fail;refine(a5 _).mono ?_;rintro e w2 ⟨rfl,rfl⟩;go_wp2_with fail;have J:=Arr.new w 47 [.int .i64 0,.int .i64 0,.int .i64 0,.int .i64 0,.int .u32 0];change Arr (w.alloc (.cells #[.int .i64 0,.int .i64 0,.int .i64 0,.int .i64 0,.int .u32 0] 47)) _ _ _ at J;have T:Below w.heap.size w (w.alloc (.cells #[.int .i64 0,.int .i64 0,.int .i64 0,.int .i64 0,.int .u32 0] 47)):=bD (aH _ _) _;generalize w.alloc (.cells #[.int .i64 0,.int .i64 0,.int .i64 0,.int .i64 0,.int .u32 0] 47)=U at*
  obtain⟨z,V⟩:∃z,z=w.heap.size:=⟨_,rfl⟩;rw[<-V] at J T ⊢;have G:Arr U.drew z 47 [.int .i64 0,.int .i64 0,.int .i64 0,.int .i64 0,.int .u32 0]:=J;have b0:Below z w U.drew:=T.drew;have HZ:=hid V;clear J T V;generalize a0:U.drew=I at*
  obtain⟨H,L⟩:∃H,H=((((I.setCell ⟨z,0,none⟩ (.int .i64 M)).setCell ⟨z,1,none⟩ (.int .i64 (R:Int))).setCell ⟨z,2,none⟩ (.int .i64 O)).setCell ⟨z,3,none⟩ (.int .i64 (N:Int))).setCell ⟨z,4,none⟩ (.int .u32 (Y:Int)):=⟨_,rfl⟩;have b1:Arr H z 47 [.int .i64 M,.int .i64 (R:Int),.int .i64 O,.int .i64 (N:Int),.int .u32 (Y:Int)]:=by rw[L];exact((((G.set 0 _).set 1 _).set 2 _).set 3 _).set 4 _
  have a1:Below z w H:=by rw[L];exact((((b0.setCell (p:=⟨z,0,none⟩) (aD _) _).setCell (p:=⟨z,1,none⟩) (aD _) _).setCell (p:=⟨z,2,none⟩) (aD _) _).setCell (p:=⟨z,3,none⟩) (aD _) _).setCell (p:=⟨z,4,none⟩) (aD _) _
  refine rF (S:=fun wx=>wx=I\/wx=H) (by kernel_rfl) (by exact .inl a0) (fun b2=>?_);rw[a0];have Z:I=I\/I=H:=.inl rfl;have a2:H=I\/H=H:=.inr rfl;refine fV 0 0 (by simp only[dB,aU,aV,cV,dC]<;>rfl) (by simp only[gA,gH,gB];rfl) (by kernel_rfl) (by exact fun _ _ _ h=>h) (by first|exact gI ⟨by rfl,rfl⟩|(refine gJ ⟨by rfl,?_⟩;intro w' d;(try dsimp only at d);(try go_simp);try with_reducible rfl)) (by assumption) ?_
  try simp only[bJ,bK,bH,bB]
  refine fV 0 0 (by simp only[dB,aU,aV,cV,dC]<;>rfl) (by simp only[gA,gH,gB];rfl) (by kernel_rfl) (by exact fun _ _ _ h=>h) (by first|exact gI ⟨by rfl,rfl⟩|(refine gJ ⟨by rfl,?_⟩;intro w' d;(try dsimp only at d);(try go_simp);try with_reducible rfl)) (by assumption) ?_
  try simp only[bJ,bK,bH,bB]
  refine fV 0 0 (by simp only[dB,aU,aV,cV,dC]<;>rfl) (by simp only[gA,gH,gB];rfl) (by kernel_rfl) (by exact fun _ _ _ h=>h) (by first|exact gI ⟨by rfl,rfl⟩|(refine gJ ⟨by rfl,?_⟩;intro w' d;(try dsimp only at d);(try go_simp);try with_reducible rfl)) (by assumption) ?_
  try simp only[bJ,bK,bH,bB]
  refine fV 0 0 (by simp only[dB,aU,aV,cV,dC]<;>rfl) (by simp only[gA,gH,gB];rfl) (by kernel_rfl) (by exact fun _ _ _ h=>h) (by first|exact gI ⟨by rfl,rfl⟩|(refine gJ ⟨by rfl,?_⟩;intro w' d;(try dsimp only at d);(try go_simp);try with_reducible rfl)) (by assumption) ?_
  try simp only[bJ,bK,bH,bB]
  refine fV 2 0 (by simp only[dB,aU,aV,cV,dC]<;>rfl) (by simp only[gA,gH,gB];rfl) (by kernel_rfl) (by exact fun _ _ _ h=>h) (by first|exact gI ⟨by rfl,rfl⟩|(refine gJ ⟨by rfl,?_⟩;intro w' d;(try dsimp only at d);(try go_simp);try with_reducible rfl)) (by assumption) ?_
  try simp only[bJ,bK,bH,bB]
  refine fV 2 0 (by simp only[dB,aU,aV,cV,dC]<;>rfl) (by simp only[gA,gH,gB];rfl) (by kernel_rfl) (by exact fun _ _ _ h=>h) (by first|exact gI ⟨by rfl,rfl⟩|(refine gJ ⟨by rfl,?_⟩;intro w' d;(try dsimp only at d);(try go_simp);try with_reducible rfl)) (by assumption) ?_
  try simp only[bJ,bK,bH,bB]
  refine fV 2 0 (by simp only[dB,aU,aV,cV,dC]<;>rfl) (by simp only[gA,gH,gB];rfl) (by kernel_rfl) (by exact fun _ _ _ h=>h) (by first|exact gI ⟨by rfl,rfl⟩|(refine gJ ⟨by rfl,?_⟩;intro w' d;(try dsimp only at d);(try go_simp);try with_reducible rfl)) (by assumption) ?_
  try simp only[bJ,bK,bH,bB]
  refine fV 2 0 (by simp only[dB,aU,aV,cV,dC]<;>rfl) (by simp only[gA,gH,gB];rfl) (by kernel_rfl) (by exact fun _ _ _ h=>h) (by first|exact gI ⟨by rfl,rfl⟩|(refine gJ ⟨by rfl,?_⟩;intro w' d;(try dsimp only at d);(try go_simp);try with_reducible rfl)) (by assumption) ?_
  try simp only[bJ,bK,bH,bB]
  refine fV 4 0 (by simp only[dB,aU,aV,cV,dC]<;>rfl) (by simp only[gA,gH,gB];rfl) (by kernel_rfl) (by exact fun _ _ _ h=>h) (by first|exact gI ⟨by rfl,rfl⟩|(refine gJ ⟨by rfl,?_⟩;intro w' d;(try dsimp only at d);(try go_simp);try with_reducible rfl)) (by assumption) ?_
  try simp only[bJ,bK,bH,bB]
  refine fV 4 0 (by simp only[dB,aU,aV,cV,dC]<;>rfl) (by simp only[gA,gH,gB];rfl) (by kernel_rfl) (by exact fun _ _ _ h=>h) (by first|exact gI ⟨by rfl,rfl⟩|(refine gJ ⟨by rfl,?_⟩;intro w' d;(try dsimp only at d);(try go_simp);try with_reducible rfl)) (by assumption) ?_
  try simp only[bJ,bK,bH,bB]
  refine fV 7 0 (by simp only[dB,aU,aV,cV,dC]<;>rfl) (by simp only[gA,gH,gB];rfl) (by kernel_rfl) (by exact fun _ _ _ h=>h) (by first|exact gI ⟨by rfl,rfl⟩|(refine gJ ⟨by rfl,?_⟩;intro w' d;(try dsimp only at d);(try go_simp);try with_reducible rfl)) (by assumption) ?_
  try simp only[bJ,bK,bH,bB]
  refine fV 7 0 (by simp only[dB,aU,aV,cV,dC]<;>rfl) (by simp only[gA,gH,gB];rfl) (by kernel_rfl) (by exact fun _ _ _ h=>h) (by first|exact gI ⟨by rfl,rfl⟩|(refine gJ ⟨by rfl,?_⟩;intro w' d;(try dsimp only at d);(try go_simp);try with_reducible rfl)) (by assumption) ?_
  try simp only[bJ,bK,bH,bB]
  refine dJ (i:=4) (by kernel_rfl) rfl (fun K D=>?_);go_simp;refine(a4 _).mono ?_;rintro e w5 ⟨rfl,rfl⟩;refine D.out _ _ Z (fun _=>?_)
  try simp only[bJ,bK,bH,bB]
  clear D K;refine fV 0 8 (by simp only[dB,aU,aV,cV,dC]<;>rfl) (by simp only[gA,gH,gB];rfl) (by kernel_rfl) (by exact fun _ _ _ h=>h) (by first|exact gI ⟨by rfl,rfl⟩|(refine gJ ⟨by rfl,?_⟩;intro w' d;(try dsimp only at d);(try go_simp);try with_reducible rfl)) (by assumption) ?_
  try simp only[bJ,bK,bH,bB]
  refine dJ (i:=10) (by kernel_rfl) rfl (fun K D=>?_);go_simp;refine(a6 _).mono ?_;rintro e w5 ⟨rfl,rfl⟩;refine D.out _ _ Z (fun _=>?_)
  try simp only[bJ,bK,bH,bB]
  clear D K;refine fV 0 4 (by simp only[dB,aU,aV,cV,dC]<;>rfl) (by simp only[gA,gH,gB];rfl) (by kernel_rfl) (by exact fun _ _ _ h=>h) (by first|exact gI ⟨by rfl,rfl⟩|(refine gJ ⟨by rfl,?_⟩;intro w' d;(try dsimp only at d);(try go_simp);try with_reducible rfl)) (by assumption) ?_
  try simp only[bJ,bK,bH,bB]
  refine dJ (i:=14) (by kernel_rfl) rfl (fun K D=>?_);go_simp;refine(a7 _).mono ?_;rintro e w5 ⟨rfl,rfl⟩;refine D.out _ _ Z (fun _=>?_)
  try simp only[bJ,bK,bH,bB]
  clear D K;refine fV 0 2 (by simp only[dB,aU,aV,cV,dC]<;>rfl) (by simp only[gA,gH,gB];rfl) (by kernel_rfl) (by exact fun _ _ _ h=>h) (by first|exact gI ⟨by rfl,rfl⟩|(refine gJ ⟨by rfl,?_⟩;intro w' d;(try dsimp only at d);(try go_simp);try with_reducible rfl)) (by assumption) ?_
  try simp only[bJ,bK,bH,bB]
  refine fV 1 0 (by simp only[dB,aU,aV,cV,dC]<;>rfl) (by simp only[gA,gH,gB];rfl) (by kernel_rfl) (by exact fun _ _ _ h=>h) (by first|exact gI ⟨by rfl,rfl⟩|(refine gJ ⟨by rfl,?_⟩;intro w' d;(try dsimp only at d);(try go_simp);try with_reducible rfl)) (by assumption) ?_
  try simp only[bJ,bK,bH,bB]
  refine fV 1 0 (by simp only[dB,aU,aV,cV,dC]<;>rfl) (by simp only[gA,gH,gB];rfl) (by kernel_rfl) (by exact fun _ _ _ h=>h) (by first|exact gI ⟨by rfl,rfl⟩|(refine gJ ⟨by rfl,?_⟩;intro w' d;(try dsimp only at d);(try go_simp);try with_reducible rfl)) (by assumption) ?_
  try simp only[bJ,bK,bH,bB]
  refine fV 1 0 (by simp only[dB,aU,aV,cV,dC]<;>rfl) (by simp only[gA,gH,gB];rfl) (by kernel_rfl) (by exact fun _ _ _ h=>h) (by first|exact gI ⟨by rfl,rfl⟩|(refine gJ ⟨by rfl,?_⟩;intro w' d;(try dsimp only at d);(try go_simp);try with_reducible rfl)) (by assumption) ?_
  try simp only[bJ,bK,bH,bB]
  refine fV 1 0 (by simp only[dB,aU,aV,cV,dC]<;>rfl) (by simp only[gA,gH,gB];rfl) (by kernel_rfl) (by exact fun _ _ _ h=>h) (by first|exact gI ⟨by rfl,rfl⟩|(refine gJ ⟨by rfl,?_⟩;intro w' d;(try dsimp only at d);(try go_simp);try with_reducible rfl)) (by assumption) ?_
  try simp only[bJ,bK,bH,bB]
  refine fV 0 6 (by simp only[dB,aU,aV,cV,dC]<;>rfl) (by simp only[gA,gH,gB];rfl) (by kernel_rfl) (by exact fun _ _ _ h=>h) (by first|exact gI ⟨by rfl,rfl⟩|(refine gJ ⟨by rfl,?_⟩;intro w' d;(try dsimp only at d);(try go_simp);try with_reducible rfl)) (by assumption) ?_
  try simp only[bJ,bK,bH,bB]
  have g0:=G.cell (i:=0) rfl;have g1:=G.cell (i:=1) rfl;have g2:=G.cell (i:=2) rfl;have g3:=G.cell (i:=3) rfl;have g4:=G.cell (i:=4) rfl;have f0:=G.free 0;have f1:=G.free 1;have f2:=G.free 2;have f3:=G.free 3;have f4:=G.free 4;refine dJ (i:=23) (by kernel_rfl) rfl (fun K D=>?_);go_simp;rw[<-L];clear L;refine D.out _ _ a2 (fun _=>?_)
  try simp only[bJ,bK,bH,bB]
  clear D K;refine dJ (i:=24) (by kernel_rfl) rfl (fun K D=>?_);go_simp;refine D.out _ _ a2 (fun _=>?_)
  try simp only[bJ,bK,bH,bB]
  clear D K;refine wpAnyH_done (by kernel_rfl) ?_ _;clear b2 g0 g1 g2 g3 g4 f0 f1 f2 f3 f4;go_wp2_with fail;exact bI3 rfl b1 rfl rfl rfl ⟨rfl,by rw[HZ.out] at a1;exact a1⟩
 ·skip
  go_enter func36,ntmps36;go_wp2_with fail;refine(a3 _).mono ?_;rintro e w1 ⟨rfl,rfl⟩;go_wp2_with fail;refine(a5 _).mono ?_;rintro e w2 ⟨rfl,rfl⟩;go_wp2_with fail;have J:=Arr.new w 47 [.int .i64 0,.int .i64 0,.int .i64 0,.int .i64 0,.int .u32 0];change Arr (w.alloc (.cells #[.int .i64 0,.int .i64 0,.int .i64 0,.int .i64 0,.int .u32 0] 47)) _ _ _ at J;have T:Below w.heap.size w (w.alloc (.cells #[.int .i64 0,.int .i64 0,.int .i64 0,.int .i64 0,.int .u32 0] 47)):=bD (aH _ _) _;generalize w.alloc (.cells #[.int .i64 0,.int .i64 0,.int .i64 0,.int .i64 0,.int .u32 0] 47)=U at*
  obtain⟨z,V⟩:∃z,z=w.heap.size:=⟨_,rfl⟩;rw[<-V] at J T ⊢;have G:Arr U.drew z 47 [.int .i64 0,.int .i64 0,.int .i64 0,.int .i64 0,.int .u32 0]:=J;have b0:Below z w U.drew:=T.drew;have HZ:=hid V;clear J T V;generalize a0:U.drew=I at*
  obtain⟨H,L⟩:∃H,H=((((I.setCell ⟨z,0,none⟩ (.int .i64 M)).setCell ⟨z,1,none⟩ (.int .i64 (R:Int))).setCell ⟨z,2,none⟩ (.int .i64 O)).setCell ⟨z,3,none⟩ (.int .i64 (N:Int))).setCell ⟨z,4,none⟩ (.int .u32 (Y:Int)):=⟨_,rfl⟩;have b1:Arr H z 47 [.int .i64 M,.int .i64 (R:Int),.int .i64 O,.int .i64 (N:Int),.int .u32 (Y:Int)]:=by rw[L];exact((((G.set 0 _).set 1 _).set 2 _).set 3 _).set 4 _
  have a1:Below z w H:=by rw[L];exact((((b0.setCell (p:=⟨z,0,none⟩) (aD _) _).setCell (p:=⟨z,1,none⟩) (aD _) _).setCell (p:=⟨z,2,none⟩) (aD _) _).setCell (p:=⟨z,3,none⟩) (aD _) _).setCell (p:=⟨z,4,none⟩) (aD _) _
  refine rF (S:=fun wx=>wx=I\/wx=H) (by kernel_rfl) (by exact .inl a0) (fun b2=>?_);rw[a0];have Z:I=I\/I=H:=.inl rfl;have a2:H=I\/H=H:=.inr rfl;refine fV 0 0 (by simp only[dB,aU,aV,cV,dC]<;>rfl) (by simp only[gA,gH,gB];rfl) (by kernel_rfl) (by exact fun _ _ _ h=>h) (by first|exact gI ⟨by rfl,rfl⟩|(refine gJ ⟨by rfl,?_⟩;intro w' d;(try dsimp only at d);(try go_simp);try with_reducible rfl)) (by assumption) ?_
  try simp only[bJ,bK,bH,bB]
  refine fV 0 0 (by simp only[dB,aU,aV,cV,dC]<;>rfl) (by simp only[gA,gH,gB];rfl) (by kernel_rfl) (by exact fun _ _ _ h=>h) (by first|exact gI ⟨by rfl,rfl⟩|(refine gJ ⟨by rfl,?_⟩;intro w' d;(try dsimp only at d);(try go_simp);try with_reducible rfl)) (by assumption) ?_
  try simp only[bJ,bK,bH,bB]
  refine fV 0 0 (by simp only[dB,aU,aV,cV,dC]<;>rfl) (by simp only[gA,gH,gB];rfl) (by kernel_rfl) (by exact fun _ _ _ h=>h) (by first|exact gI ⟨by rfl,rfl⟩|(refine gJ ⟨by rfl,?_⟩;intro w' d;(try dsimp only at d);(try go_simp);try with_reducible rfl)) (by assumption) ?_
  try simp only[bJ,bK,bH,bB]
  refine fV 0 0 (by simp only[dB,aU,aV,cV,dC]<;>rfl) (by simp only[gA,gH,gB];rfl) (by kernel_rfl) (by exact fun _ _ _ h=>h) (by first|exact gI ⟨by rfl,rfl⟩|(refine gJ ⟨by rfl,?_⟩;intro w' d;(try dsimp only at d);(try go_simp);try with_reducible rfl)) (by assumption) ?_
  try simp only[bJ,bK,bH,bB]
  refine fV 2 0 (by simp only[dB,aU,aV,cV,dC]<;>rfl) (by simp only[gA,gH,gB];rfl) (by kernel_rfl) (by exact fun _ _ _ h=>h) (by first|exact gI ⟨by rfl,rfl⟩|(refine gJ ⟨by rfl,?_⟩;intro w' d;(try dsimp only at d);(try go_simp);try with_reducible rfl)) (by assumption) ?_
  try simp only[bJ,bK,bH,bB]
  refine fV 2 0 (by simp only[dB,aU,aV,cV,dC]<;>rfl) (by simp only[gA,gH,gB];rfl) (by kernel_rfl) (by exact fun _ _ _ h=>h) (by first|exact gI ⟨by rfl,rfl⟩|(refine gJ ⟨by rfl,?_⟩;intro w' d;(try dsimp only at d);(try go_simp);try with_reducible rfl)) (by assumption) ?_
  try simp only[bJ,bK,bH,bB]
  refine fV 2 0 (by simp only[dB,aU,aV,cV,dC]<;>rfl) (by simp only[gA,gH,gB];rfl) (by kernel_rfl) (by exact fun _ _ _ h=>h) (by first|exact gI ⟨by rfl,rfl⟩|(refine gJ ⟨by rfl,?_⟩;intro w' d;(try dsimp only at d);(try go_simp);try with_reducible rfl)) (by assumption) ?_
  try simp only[bJ,bK,bH,bB]
  refine fV 2 0 (by simp only[dB,aU,aV,cV,dC]<;>rfl) (by simp only[gA,gH,gB];rfl) (by kernel_rfl) (by exact fun _ _ _ h=>h) (by first|exact gI ⟨by rfl,rfl⟩|(refine gJ ⟨by rfl,?_⟩;intro w' d;(try dsimp only at d);(try go_simp);try with_reducible rfl)) (by assumption) ?_
  try simp only[bJ,bK,bH,bB]
  refine fV 4 0 (by simp only[dB,aU,aV,cV,dC]<;>rfl) (by simp only[gA,gH,gB];rfl) (by kernel_rfl) (by exact fun _ _ _ h=>h) (by first|exact gI ⟨by rfl,rfl⟩|(refine gJ ⟨by rfl,?_⟩;intro w' d;(try dsimp only at d);(try go_simp);try with_reducible rfl)) (by assumption) ?_
  try simp only[bJ,bK,bH,bB]
  refine fV 4 0 (by simp only[dB,aU,aV,cV,dC]<;>rfl) (by simp only[gA,gH,gB];rfl) (by kernel_rfl) (by exact fun _ _ _ h=>h) (by first|exact gI ⟨by rfl,rfl⟩|(refine gJ ⟨by rfl,?_⟩;intro w' d;(try dsimp only at d);(try go_simp);try with_reducible rfl)) (by assumption) ?_
  try simp only[bJ,bK,bH,bB]
  refine fV 7 0 (by simp only[dB,aU,aV,cV,dC]<;>rfl) (by simp only[gA,gH,gB];rfl) (by kernel_rfl) (by exact fun _ _ _ h=>h) (by first|exact gI ⟨by rfl,rfl⟩|(refine gJ ⟨by rfl,?_⟩;intro w' d;(try dsimp only at d);(try go_simp);try with_reducible rfl)) (by assumption) ?_
  try simp only[bJ,bK,bH,bB]
  refine fV 7 0 (by simp only[dB,aU,aV,cV,dC]<;>rfl) (by simp only[gA,gH,gB];rfl) (by kernel_rfl) (by exact fun _ _ _ h=>h) (by first|exact gI ⟨by rfl,rfl⟩|(refine gJ ⟨by rfl,?_⟩;intro w' d;(try dsimp only at d);(try go_simp);try with_reducible rfl)) (by assumption) ?_
  try simp only[bJ,bK,bH,bB]
  refine dJ (i:=4) (by kernel_rfl) rfl (fun K D=>?_);go_simp;refine(a4 _).mono ?_;rintro e w5 ⟨rfl,rfl⟩;refine D.out _ _ Z (fun _=>?_)
  try simp only[bJ,bK,bH,bB]
  clear D K;refine fV 0 8 (by simp only[dB,aU,aV,cV,dC]<;>rfl) (by simp only[gA,gH,gB];rfl) (by kernel_rfl) (by exact fun _ _ _ h=>h) (by first|exact gI ⟨by rfl,rfl⟩|(refine gJ ⟨by rfl,?_⟩;intro w' d;(try dsimp only at d);(try go_simp);try with_reducible rfl)) (by assumption) ?_
  try simp only[bJ,bK,bH,bB]
  refine dJ (i:=10) (by kernel_rfl) rfl (fun K D=>?_);go_simp;refine(a6 _).mono ?_;rintro e w5 ⟨rfl,rfl⟩;refine D.out _ _ Z (fun _=>?_)
  try simp only[bJ,bK,bH,bB]
  clear D K;refine fV 0 4 (by simp only[dB,aU,aV,cV,dC]<;>rfl) (by simp only[gA,gH,gB];rfl) (by kernel_rfl) (by exact fun _ _ _ h=>h) (by first|exact gI ⟨by rfl,rfl⟩|(refine gJ ⟨by rfl,?_⟩;intro w' d;(try dsimp only at d);(try go_simp);try with_reducible rfl)) (by assumption) ?_
  try simp only[bJ,bK,bH,bB]
  refine dJ (i:=14) (by kernel_rfl) rfl (fun K D=>?_);go_simp;refine(a7 _).mono ?_;rintro e w5 ⟨rfl,rfl⟩;refine D.out _ _ Z (fun _=>?_)
  try simp only[bJ,bK,bH,bB]
  clear D K;refine fV 0 2 (by simp only[dB,aU,aV,cV,dC]<;>rfl) (by simp only[gA,gH,gB];rfl) (by kernel_rfl) (by exact fun _ _ _ h=>h) (by first|exact gI ⟨by rfl,rfl⟩|(refine gJ ⟨by rfl,?_⟩;intro w' d;(try dsimp only at d);(try go_simp);try with_reducible rfl)) (by assumption) ?_
  try simp only[bJ,bK,bH,bB]
  refine fV 1 0 (by simp only[dB,aU,aV,cV,dC]<;>rfl) (by simp only[gA,gH,gB];rfl) (by kernel_rfl) (by exact fun _ _ _ h=>h) (by first|exact gI ⟨by rfl,rfl⟩|(refine gJ ⟨by rfl,?_⟩;intro w' d;(try dsimp only at d);(try go_simp);try with_reducible rfl)) (by assumption) ?_
  try simp only[bJ,bK,bH,bB]
  refine fV 1 0 (by simp only[dB,aU,aV,cV,dC]<;>rfl) (by simp only[gA,gH,gB];rfl) (by kernel_rfl) (by exact fun _ _ _ h=>h) (by first|exact gI ⟨by rfl,rfl⟩|(refine gJ ⟨by rfl,?_⟩;intro w' d;(try dsimp only at d);(try go_simp);try with_reducible rfl)) (by assumption) ?_
  try simp only[bJ,bK,bH,bB]
  refine fV 1 0 (by simp only[dB,aU,aV,cV,dC]<;>rfl) (by simp only[gA,gH,gB];rfl) (by kernel_rfl) (by exact fun _ _ _ h=>h) (by first|exact gI ⟨by rfl,rfl⟩|(refine gJ ⟨by rfl,?_⟩;intro w' d;(try dsimp only at d);(try go_simp);try with_reducible rfl)) (by assumption) ?_
  try simp only[bJ,bK,bH,bB]
  refine fV 1 0 (by simp only[dB,aU,aV,cV,dC]<;>rfl) (by simp only[gA,gH,gB];rfl) (by kernel_rfl) (by exact fun _ _ _ h=>h) (by first|exact gI ⟨by rfl,rfl⟩|(refine gJ ⟨by rfl,?_⟩;intro w' d;(try dsimp only at d);(try go_simp);try with_reducible rfl)) (by assumption) ?_
  try simp only[bJ,bK,bH,bB]
  refine fV 0 6 (by simp only[dB,aU,aV,cV,dC]<;>rfl) (by simp only[gA,gH,gB];rfl) (by kernel_rfl) (by exact fun _ _ _ h=>h) (by first|exact gI ⟨by rfl,rfl⟩|(refine gJ ⟨by rfl,?_⟩;intro w' d;(try dsimp only at d);(try go_simp);try with_reducible rfl)) (by assumption) ?_
  try simp only[bJ,bK,bH,bB]
  have g0:=G.cell (i:=0) rfl;have g1:=G.cell (i:=1) rfl;have g2:=G.cell (i:=2) rfl;have g3:=G.cell (i:=3) rfl;have g4:=G.cell (i:=4) rfl;have f0:=G.free 0;have f1:=G.free 1;have f2:=G.free 2;have f3:=G.free 3;have f4:=G.free 4;refine dJ (i:=23) (by kernel_rfl) rfl (fun K D=>?_);go_simp;rw[<-L];clear L;refine D.out _ _ a2 (fun _=>?_)
  try simp only[bJ,bK,bH,bB]
  clear D K;refine dJ (i:=24) (by kernel_rfl) rfl (fun K D=>?_);go_simp;refine D.out _ _ a2 (fun _=>?_)
  try simp only[bJ,bK,bH,bB]
  clear D K;refine wpAnyH_done (by kernel_rfl) ?_ _;clear b2 g0 g1 g2 g3 g4 f0 f1 f2 f3 f4;go_wp2_with fail;exact bI3 rfl b1 rfl rfl rfl ⟨rfl,by rw[HZ.out] at a1;exact a1⟩
end Go.Proofs.YtfplbbphficcjaaGreatDoor
