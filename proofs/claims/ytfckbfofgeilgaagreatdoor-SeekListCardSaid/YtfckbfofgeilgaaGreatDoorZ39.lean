/-
  Texts put together (part 39): the walks and the plain laws on which the statement stands.
-/
import Derived.Test.YtfckbfofgeilgaaGreatDoorZ38
set_option maxRecDepth 100000
set_option maxHeartbeats 12800000
set_option linter.unusedVariables false
set_option linter.unusedSimpArgs false
open Go.Proofs.Tryz
open Go.Proofs.Tryz renaming prog->pG
open Go renaming wpAnyH_done->nY,wp_region_held_drew->rF
open Go.Act renaming put->bJ
open Go.Proofs renaming enters_of->gQ
open Go.RowKit.Below renaming refl->aH
open Go.Value renaming slice->mM
open List renaming getElem?_cons_succ->gH,getElem?_cons_zero->gB,getElem?_eq_getElem->aN,getElem?_eq_some_iff->eF,getElem?_toArray->gA,length_cons->aU,length_nil->aV,mem_of_getElem?->cN,setIfInBounds_toArray->bK,set_cons_succ->bB,set_cons_zero->bH,size_toArray->dB
open Nat renaming le_refl->aD,reduceAdd->cV,reduceSub->dC
open Ne renaming symm->bK9
open Or renaming inl->gJ,inr->gI
namespace Go.Proofs.YtfckbfofgeilgaaGreatDoor
open Go.RowKit Go Go.Shelf
theorem bR0 (s:ByteArray) (p:Prt) (w:World) (D:dU w) (F:s.size<=120000) (h:zP s.data.toList p):
  Calls pG 130 #[.string s,.int .i64 p.a,.int .i64 p.r] w fun e w'=>e=.returned (.tuple #[.agg #[.string p.t,.int .u32 p.y,.int .i64 p.a,.int .i64 p.z],.int .i64 0])/\Below w.heap.size w w':=by
 have I:=h.facts;have J:s.data.toList.length=s.size:=rfl;obtain⟨G,d,A,-⟩:=h;refine(bCp s p.a p.r w D F (by omega) (by omega) (by omega) (by omega)).mono ?_;rintro e w' ⟨d,A⟩;rw[G,aH1] at d;exact⟨d,A⟩
theorem dU.atB {w W:World} {B:Nat} (h:dU w) (d:Below B w W) (e:0<B):dU W:=(d.cell (p:=⟨0,0,none⟩) e).trans h
theorem bR1 {w:World} {Z n g cap:Nat} {T:List Value} {a:ByteArray} {vi vh:Value} {room:Int} {P:List Prt} {S:Dk} (h:DkM w Z n g cap T a vi vh room S.clock P (byB S.Hs) S.Rs S.dec) (hS:bK7 P room S) (hd:S.dec<1099511627776) {r o m f e k:Nat} (hy:S.Rs[r]? =some (bK5 P o m e k 2 ⟨#[]⟩)) (hg:bL9 P o m f e k) {B:Nat} (hB:B<=g/\B<=n) (c4:∀b,vh.ownBlock=some b->B<=b) (hE:dU w) (c2:0<B) (hs:a.size<=120000) (hP:∀p∈P,zP a.data.toList p):
  Calls pG 93 #[atV n r] w (bNa w B n g cap T a vi room P (goD P room S r (bK5 P o m e k 2 ⟨#[]⟩))):=by
 have hr:=(eF.1 hy).1;obtain⟨p,hp⟩:∃p,P[k]? =some p:=⟨_,aN (Nat.lt_of_le_of_lt hg.ke hg.el)⟩;have hG:goD P room S r (bK5 P o m e k 2 ⟨#[]⟩)=((false,⟨#[]⟩,0),⟨S.clock,S.Hs,S.Rs.set r ⟨3,o,m,k,e,bLh P o m k,p.t⟩,S.dec+1⟩):=by
  unfold goD bK5;dsimp only
  rw[aA (by decide),aA (by decide),aB rfl,Int.toNat_natCast,bNm hp]
 have b6:=fun W (k:DkM W Z n g cap T a vi vh room S.clock P (byB S.Hs) S.Rs (S.dec+1))=>bMz k hr
 have b7:=fun W h=>bR0 a p W h hs (hP p (cN hp))
 unfold bK5 at hy;obtain⟨G,c3⟩:=ex1 (bLh P o m k);rw[<-c3] at hy hG;clear c3;obtain⟨q0,D0⟩:=bM8 h r hB;have b8:=bPh D0 hy (k:=k) rfl hp hS.few;obtain⟨A,hA⟩:=ex1 (ahB P k);rw[<-hA] at b8;have c7:=h.zw;have d2:=h.zn;have d3:=h.zg;have d4:=hS.d0;have t1:((p.t.size:Int) != (p.t.size:Int))=false:=bne_self_eq_false _;have t2:(p.y != p.y)=false:=bne_self_eq_false _;obtain⟨d1,b9⟩:=ex1 (S.dec+1);have m1:IntKind.i64.wrap (S.dec+1)=d1:=by rw[IntKind.wrap_i64];omega
 have m2:S.dec+1=d1:=b9.symm;have m3:min d1 1099511627776=d1:=by omega
 rw[<-b9] at b6 hG;clear hA b9;go_enter func93,ntmps93;go_wp2_with fail;refine b8.mono ?_;rintro e1 w2 ⟨rfl,h2⟩;obtain⟨z,hz⟩:=ex1 (w.heap.size);rw[<-hz] at q0 c7 ⊢;have HZ:=hid hz;clear hz b8;have q2:=q0.bel h2;have D2:=D0.bel h2;clear q0 D0 h2;go_upto_region 2 with fail;have V:=bD (aH w2.heap.size w2) (.cells #[.int .i64 p.a,.int .i64 p.r,.int .i64 (A:Int),.int .i64 (p.t.size:Int),.int .u32 p.y] 103);have hX:=Arr.new w2 103 [.int .i64 p.a,.int .i64 p.r,.int .i64 (A:Int),.int .i64 (p.t.size:Int),.int .u32 p.y];have d5:z+1<w2.heap.size:=q2.y.lt
 change Arr (w2.alloc (.cells #[.int .i64 p.a,.int .i64 p.r,.int .i64 (A:Int),.int .i64 (p.t.size:Int),.int .u32 p.y] 103)) _ _ _ at hX;have q3:=q2.bel V;have D3:=D2.bel V;clear q2 D2 V;generalize w2.alloc (.cells #[.int .i64 p.a,.int .i64 p.r,.int .i64 (A:Int),.int .i64 (p.t.size:Int),.int .u32 p.y] 103)=w3 at*
 generalize w2.heap.size=bx at*
 go_cut [5,6] (fun c5 c6 J=>∃d,c5=.pointer (some ⟨d,0,none⟩)/\c6=.int .i64 0/\AtE w J B z n r g (.string ⟨#[]⟩) (.int .i64 0)/\DkM J Z n g cap T a vi vh room S.clock P (byB S.Hs) S.Rs S.dec/\z+1<d/\Arr J bx 103 [.int .i64 p.a,.int .i64 p.r,.int .i64 (A:Int),.int .i64 (p.t.size:Int),.int .u32 p.y]/\Arr J d 89 [.string p.t,.int .u32 p.y,.int .i64 p.a,.int .i64 p.z])
 case first=>
  have L:∀W:World,AtE w W B z n r g (.string ⟨#[]⟩) (.int .i64 0)->DkM W Z n g cap T a vi vh room S.clock P (byB S.Hs) S.Rs S.dec->Arr W bx 103 [.int .i64 p.a,.int .i64 p.r,.int .i64 (A:Int),.int .i64 (p.t.size:Int),.int .u32 p.y]->(fun J:World=>J.cell? ⟨z,0,none⟩=some (.pointer (some ⟨n,0,none⟩))/\J.cell? ⟨n,0,none⟩=some (.string a)/\J.cell? ⟨bx,0,none⟩=some (.int .i64 p.a)/\J.cell? ⟨bx,1,none⟩=some (.int .i64 p.r)) W:=fun W q D h=>
   ⟨q.x.cell (i:=0) rfl,D.arr.cell (i:=0) rfl,h.cell (i:=0) rfl,h.cell (i:=1) rfl⟩
  have hd:=(aH w3.heap.size w3).drew;have q4:=q3.bel hd;have D4:=D3.bel hd;have a3:=hX.below hd hX.lt;refine rF (S:=(fun J:World=>J.cell? ⟨z,0,none⟩=some (.pointer (some ⟨n,0,none⟩))/\J.cell? ⟨n,0,none⟩=some (.string a)/\J.cell? ⟨bx,0,none⟩=some (.int .i64 p.a)/\J.cell? ⟨bx,1,none⟩=some (.int .i64 p.r))) (by kernel_rfl) (L _ q4 D4 a3) (fun a8=>?_);clear q3 D3 hX hd;generalize w3.drew=w4 at*
  refine bKf [0,1,2,3,4,5,6,7,8] ?_
  iterate 9
   refine bKg (by simp only[gA,gH,gB];rfl) (by kernel_rfl) (by exact fun _ _ _ h=>h) (by first|exact gI ⟨by rfl,rfl⟩|(refine gJ ⟨by rfl,?_⟩;intro w' M;(try dsimp only at M);(try go_simp);try with_reducible rfl)) a8 ?_
   try simp only[bJ,bK,bH,bB]
  refine bL3 9 13 (by kernel_rfl) rfl rfl (fun K F=>?_) (fun K F=>?_)
  ·go_simp;refine(b7 w4 (hE.atB q4.b c2)).mono ?_;rintro e1 Y ⟨rfl,h5⟩;have O:=q4.bel h5;have R:=D4.bel h5;have a1:=a3.below h5 a3.lt
   (try go_wp2_with fail)
   refine F.out _ _ (L _ O R a1) (fun _=>?_)
   try simp only[bJ,bK,bH,bB]
   clear F K
   iterate 3
    refine fV 0 0 (by simp only[dB,aU,aV,cV,dC]<;>rfl) (by simp only[gA,gH,gB];rfl) (by kernel_rfl) (by exact fun _ _ _ h=>h) (by first|exact gI ⟨by rfl,rfl⟩|(refine gJ ⟨by rfl,?_⟩;intro w' M;(try dsimp only at M);(try go_simp);try with_reducible rfl)) (L _ O R a1) ?_
    try simp only[bJ,bK,bH,bB]
   refine dJ (i:=13) (by kernel_rfl) rfl (fun K F=>?_);go_simp;have V:=bD (aH Y.heap.size Y) (.cells #[.string ⟨#[]⟩,.int .u32 0,.int .i64 0,.int .i64 0] 89);have I:=Arr.new Y 89 [.string ⟨#[]⟩,.int .u32 0,.int .i64 0,.int .i64 0];have l5:=a1.lt;have a0:z+1<Y.heap.size:=O.y.lt;change Arr (Y.alloc (.cells #[.string ⟨#[]⟩,.int .u32 0,.int .i64 0,.int .i64 0] 89)) _ _ _ at I;have q6:=O.bel V;have D6:=R.bel V;have a6:=a1.below V a1.lt;refine F.out _ _ (L _ q6 D6 a6) (fun _=>?_)
   try simp only[bJ,bK,bH,bB]
   clear F K;clear O R a1 V h5 q4 D4 a3;generalize Y.alloc (.cells #[.string ⟨#[]⟩,.int .u32 0,.int .i64 0,.int .i64 0] 89)=w6 at*
   generalize Y.heap.size=d at*
   have a2:bx≠d:=by omega
   have e0:=I.cell (i:=0) rfl;have e1:=I.cell (i:=1) rfl;have e2:=I.cell (i:=2) rfl;have e3:=I.cell (i:=3) rfl;have f0:=I.free 0;have f1:=I.free 1;have f2:=I.free 2;have f3:=I.free 3;refine dJ (i:=14) (by kernel_rfl) rfl (fun K F=>?_);go_simp;have U:=(((q6.box ⟨d,0,none⟩ a0 (.string p.t)).box ⟨d,1,none⟩ a0 (.int .u32 p.y)).box ⟨d,2,none⟩ a0 (.int .i64 p.a)).box ⟨d,3,none⟩ a0 (.int .i64 p.z);have D7:=(D6.put (b:=d) (by omega) 0 1 (.string p.t) (.int .u32 p.y)).put (b:=d) (by omega) 2 3 (.int .i64 p.a) (.int .i64 p.z)
   have a4:=(((a6.other ⟨d,0,none⟩ (bK9 a2) (.string p.t)).other ⟨d,1,none⟩ (bK9 a2) (.int .u32 p.y)).other ⟨d,2,none⟩ (bK9 a2) (.int .i64 p.a)).other ⟨d,3,none⟩ (bK9 a2) (.int .i64 p.z);refine F.out _ _ (L _ U D7 a4) (fun _=>?_)
   try simp only[bJ,bK,bH,bB]
   clear F K;refine fV 0 0 (by simp only[dB,aU,aV,cV,dC]<;>rfl) (by simp only[gA,gH,gB];rfl) (by kernel_rfl) (by exact fun _ _ _ h=>h) (by first|exact gI ⟨by rfl,rfl⟩|(refine gJ ⟨by rfl,?_⟩;intro w' M;(try dsimp only at M);(try go_simp);try with_reducible rfl)) (L _ U D7 a4) ?_
   try simp only[bJ,bK,bH,bB]
   refine nY (by kernel_rfl) ?_ _;go_wp2_with fail;go_meet;exact⟨d,rfl,rfl,U,D7,a0,a4,(((I.set 0 _).set 1 _).set 2 _).set 3 _⟩
  ·go_simp;have V:=bD (aH w4.heap.size w4) (.cells #[.string ⟨#[]⟩,.int .u32 0,.int .i64 0,.int .i64 0] 89);have I:=Arr.new w4 89 [.string ⟨#[]⟩,.int .u32 0,.int .i64 0,.int .i64 0];have l5:=a3.lt;have a0:z+1<w4.heap.size:=q4.y.lt;change Arr (w4.alloc (.cells #[.string ⟨#[]⟩,.int .u32 0,.int .i64 0,.int .i64 0] 89)) _ _ _ at I;have O:=q4.bel V;have R:=D4.bel V;have a1:=a3.below V a3.lt;refine F.out _ _ (L _ O R a1) (fun _=>?_)
   try simp only[bJ,bK,bH,bB]
   clear F K;clear q4 D4 a3 V;generalize w4.alloc (.cells #[.string ⟨#[]⟩,.int .u32 0,.int .i64 0,.int .i64 0] 89)=Y at*
   generalize w4.heap.size=d at*
   have a2:bx≠d:=by omega
   refine dJ (i:=9) (by kernel_rfl) rfl (fun K F=>?_);go_simp;refine(b7 Y (hE.atB O.b c2)).mono ?_;rintro e1 w6 ⟨rfl,h6⟩;have q6:=O.bel h6;have D6:=R.bel h6;have a6:=a1.below h6 a1.lt;have I:=I.below h6 I.lt
   (try go_wp2_with fail)
   refine F.out _ _ (L _ q6 D6 a6) (fun _=>?_)
   try simp only[bJ,bK,bH,bB]
   clear F K;clear O R a1 h6
   iterate 3
    refine fV 0 1 (by simp only[dB,aU,aV,cV,dC]<;>rfl) (by simp only[gA,gH,gB];rfl) (by kernel_rfl) (by exact fun _ _ _ h=>h) (by first|exact gI ⟨by rfl,rfl⟩|(refine gJ ⟨by rfl,?_⟩;intro w' M;(try dsimp only at M);(try go_simp);try with_reducible rfl)) (L _ q6 D6 a6) ?_
    try simp only[bJ,bK,bH,bB]
   have e0:=I.cell (i:=0) rfl;have e1:=I.cell (i:=1) rfl;have e2:=I.cell (i:=2) rfl;have e3:=I.cell (i:=3) rfl;have f0:=I.free 0;have f1:=I.free 1;have f2:=I.free 2;have f3:=I.free 3;refine dJ (i:=14) (by kernel_rfl) rfl (fun K F=>?_);go_simp;have U:=(((q6.box ⟨d,0,none⟩ a0 (.string p.t)).box ⟨d,1,none⟩ a0 (.int .u32 p.y)).box ⟨d,2,none⟩ a0 (.int .i64 p.a)).box ⟨d,3,none⟩ a0 (.int .i64 p.z);have D7:=(D6.put (b:=d) (by omega) 0 1 (.string p.t) (.int .u32 p.y)).put (b:=d) (by omega) 2 3 (.int .i64 p.a) (.int .i64 p.z)
   have a4:=(((a6.other ⟨d,0,none⟩ (bK9 a2) (.string p.t)).other ⟨d,1,none⟩ (bK9 a2) (.int .u32 p.y)).other ⟨d,2,none⟩ (bK9 a2) (.int .i64 p.a)).other ⟨d,3,none⟩ (bK9 a2) (.int .i64 p.z);refine F.out _ _ (L _ U D7 a4) (fun _=>?_)
   try simp only[bJ,bK,bH,bB]
   clear F K;refine fV 0 0 (by simp only[dB,aU,aV,cV,dC]<;>rfl) (by simp only[gA,gH,gB];rfl) (by kernel_rfl) (by exact fun _ _ _ h=>h) (by first|exact gI ⟨by rfl,rfl⟩|(refine gJ ⟨by rfl,?_⟩;intro w' M;(try dsimp only at M);(try go_simp);try with_reducible rfl)) (L _ U D7 a4) ?_
   try simp only[bJ,bK,bH,bB]
   refine nY (by kernel_rfl) ?_ _;go_wp2_with fail;go_meet;exact⟨d,rfl,rfl,U,D7,a0,a4,(((I.set 0 _).set 1 _).set 2 _).set 3 _⟩
 case rest=>
  obtain⟨d,rfl,rfl,q1,D1,a0,hX,I⟩:=hcut;have x0:=q1.x.cell (i:=0) rfl;have c6:=D1.arr.cell (i:=6) rfl;have f6:=D1.arr.free 6;have ln:=D1.arr.lt;clear b7;go_wp2_with fail
  go_region
  have q2:=(q1.put ⟨n,6,none⟩ (.inr rfl) (.int .i64 d1)).drew;have D2:=(D1.setD d1).drew;have c1:Arr (wc.setCell ⟨n,6,none⟩ (.int .i64 d1)).drew bx 103 _:=hX.other ⟨n,6,none⟩ (show n≠bx by omega) (.int .i64 d1);have a7:Arr (wc.setCell ⟨n,6,none⟩ (.int .i64 d1)).drew d 89 _:=I.other ⟨n,6,none⟩ (show n≠d by omega) (.int .i64 d1);clear x0 c6 f6 ln q1 D1 hX I;generalize (wc.setCell ⟨n,6,none⟩ (.int .i64 d1)).drew=w2 at*
  have e3:=c1.cell (i:=3) rfl;have e4:=c1.cell (i:=4) rfl;have b0:=a7.cell (i:=0) rfl;have b1:=a7.cell (i:=1) rfl;go_wp2_with fail;have L:∀(W:World),AtE w W B z n r g (.string ⟨#[]⟩) (.int .i64 0)->Arr W d 89 [.string p.t,.int .u32 p.y,.int .i64 p.a,.int .i64 p.z]->(fun J:World=>J.cell? ⟨z,0,none⟩=some (.pointer (some ⟨n,0,none⟩))/\J.cell? ⟨z,1,none⟩=some (.int .i64 (r:Int))/\J.cell? ⟨d,0,none⟩=some (.string p.t)) W:=fun W q h=>⟨q.x.cell (i:=0) rfl,q.x.cell (i:=1) rfl,h.cell (i:=0) rfl⟩
  have hd:=(aH w2.heap.size w2).drew;have q3:=q2.bel hd;have D3:=D2.bel hd;have a9:=a7.below hd a7.lt;refine rF (S:=(fun J:World=>J.cell? ⟨z,0,none⟩=some (.pointer (some ⟨n,0,none⟩))/\J.cell? ⟨z,1,none⟩=some (.int .i64 (r:Int))/\J.cell? ⟨d,0,none⟩=some (.string p.t))) (by kernel_rfl) (L _ q3 a9) (fun a8=>?_);clear e3 e4 b0 b1 c1 a7 q2 D2 hd;generalize w2.drew=w3 at*
  refine bKf [0,2,4,5] ?_
  iterate 4
   refine bKg (by simp only[gA,gH,gB];rfl) (by kernel_rfl) (by exact fun _ _ _ h=>h) (by first|exact gI ⟨by rfl,rfl⟩|(refine gJ ⟨by rfl,?_⟩;intro w' M;(try dsimp only at M);(try go_simp);try with_reducible rfl)) a8 ?_
   try simp only[bJ,bK,bH,bB]
  refine dJ (i:=1) (by kernel_rfl) rfl (fun K F=>?_);go_simp;refine(b6 w3 D3).mono ?_;rintro e1 w4 ⟨rfl,h4⟩;have q4:=q3.bel h4;have D4:=D3.bel h4;have b2:=a9.below h4 a9.lt
  (try go_wp2_with fail)
  refine F.out _ _ (L _ q4 b2) (fun _=>?_)
  try simp only[bJ,bK,bH,bB]
  clear F K;refine dJ (i:=3) (by kernel_rfl) rfl (fun K F=>?_);go_simp;refine(b6 w4 D4).mono ?_;rintro e1 Y ⟨rfl,h5⟩;have O:=q4.bel h5;have R:=D4.bel h5;have b3:=b2.below h5 b2.lt
  (try go_wp2_with fail)
  refine F.out _ _ (L _ O b3) (fun _=>?_)
  try simp only[bJ,bK,bH,bB]
  clear F K
  iterate 2
   refine fV 0 0 (by simp only[dB,aU,aV,cV,dC]<;>rfl) (by simp only[gA,gH,gB];rfl) (by kernel_rfl) (by exact fun _ _ _ h=>h) (by first|exact gI ⟨by rfl,rfl⟩|(refine gJ ⟨by rfl,?_⟩;intro w' M;(try dsimp only at M);(try go_simp);try with_reducible rfl)) (L _ O b3) ?_
   try simp only[bJ,bK,bH,bB]
  have c0:Y.cell? ⟨g,r*7,none⟩=_:=R.cell hy (j:=0) rfl;have f0:=R.rds.free (r*7);have lg:=R.rds.lt;refine dJ (i:=8) (by kernel_rfl) rfl (fun K F=>?_);go_simp;have q6:=O.put ⟨g,r*7,none⟩ (.inl rfl) (.int .i64 3);have b4:=b3.other ⟨g,r*7,none⟩ (show g≠d by omega) (.int .i64 3);have D6:=R.setR hy (j:=0) (u:=.int .i64 3) (y':=⟨3,o,m,k,e,G,⟨#[]⟩⟩) (by decide) rfl;have c8:(S.Rs.set r ⟨3,o,m,k,e,G,⟨#[]⟩⟩)[r]? =some ⟨3,o,m,k,e,G,⟨#[]⟩⟩:=List.getElem?_set_self hr;refine F.out _ _ (L _ q6 b4) (fun _=>?_)
  try simp only[bJ,bK,bH,bB]
  clear F K
  iterate 2
   refine fV 0 0 (by simp only[dB,aU,aV,cV,dC]<;>rfl) (by simp only[gA,gH,gB];rfl) (by kernel_rfl) (by exact fun _ _ _ h=>h) (by first|exact gI ⟨by rfl,rfl⟩|(refine gJ ⟨by rfl,?_⟩;intro w' M;(try dsimp only at M);(try go_simp);try with_reducible rfl)) (L _ q6 b4) ?_
   try simp only[bJ,bK,bH,bB]
  clear c0 f0 lg;generalize Y.setCell ⟨g,r*7,none⟩ (.int .i64 3)=w6 at*
  have c0:=D6.cell c8 (j:=6) rfl;have f0:=D6.rds.free (r*7+6);have lg:=D6.rds.lt;refine dJ (i:=11) (by kernel_rfl) rfl (fun K F=>?_);go_simp;have U:=q6.put ⟨g,r*7+6,none⟩ (.inl rfl) (.string p.t);have c9:=b4.other ⟨g,r*7+6,none⟩ (show g≠d by omega) (.string p.t);have D7:=R.upd hy D6 (j:=6) (u:=.string p.t) (y2:=⟨3,o,m,k,e,G,p.t⟩) (by decide) rfl;refine F.out _ _ (L _ U c9) (fun _=>?_)
  try simp only[bJ,bK,bH,bB]
  clear F K;refine nY (by kernel_rfl) ?_ _;clear c0 f0 lg D6 q6 b4 O R b3 q4 D4 b2 q3 D3 a9 a8 L h4 h5;generalize w6.setCell ⟨g,r*7+6,none⟩ (.string p.t)=w7 at*
  have e0:=U.y.cell (i:=0) rfl;have e1:=U.y.cell (i:=1) rfl;have g0:=U.y.free 0;have g1:=U.y.free 1;have ly:=U.y.lt;go_wp2_with fail;have q8:=U.rep (.string ⟨#[]⟩) (.int .i64 0);have D8:=D7.put (b:=z+1) (by omega) 0 1 (.string ⟨#[]⟩) (.int .i64 0);refine bMd rfl q8.y rfl rfl rfl ?_;rw[hG];exact⟨vh,rfl,D8.up D8.zw (aD _),q8.b,q8.k,c4⟩
theorem bR2 {P:List Prt} {room:Int} {S:Dk} (d:bK7 P room S) (a1:room<=11) (O:S.clock<1099511627776) (k:Nat) (hk:k<=2000) (t:ByteArray) (v:Value) (W:World) (R:RdR W v ((byB S.Hs).map mX)):
  Calls pG 132 #[.agg #[.int .i64 room,.int .i64 S.clock,v],.int .i64 (k:Int),.string t] W fun e w'=>∃(i:Int) (A:Option Addr) (F D:Nat),e=.returned (.tuple #[.int .i64 i,.agg #[.int .i64 room,.int .i64 (S.clock+1),.slice A F D],.int .i64 0])/\Below W.heap.size W w'/\RdR w' (.slice A F D) ((byB (bLo room S.clock S.Hs k t)).map mX)/\∀b,(mM A F D).ownBlock=some b->W.heap.size<=b/\b<w'.heap.size:=by
 have G:=d.shelf.perm;have U:∀h∈byB S.Hs,h.b<=9223372036854775807:=fun h I=>by have:=(d.hld (G.mem_iff.1 I)).2.1;omega
 have hl:=G.length_eq;have a2:=d.shelf.len
 have V:∀(i:Int) (L:List Hld),L=byB (bLo room S.clock S.Hs k t)->∀(e:Ending) (w':World),(∃u:Value,e=.returned (.tuple #[.int .i64 i,.agg #[.int .i64 room,.int .i64 (S.clock+1),u],.int .i64 0])/\OwR w' W.heap.size 113 3 u (L.map mX)/\Below W.heap.size W w')->∃(i:Int) (A:Option Addr) (F D:Nat),e=.returned (.tuple #[.int .i64 i,.agg #[.int .i64 room,.int .i64 (S.clock+1),.slice A F D],.int .i64 0])/\Below W.heap.size W w'/\RdR w' (.slice A F D) ((byB (bLo room S.clock S.Hs k t)).map mX)/\∀b,(mM A F D).ownBlock=some b->W.heap.size<=b/\b<w'.heap.size:=by
  rintro i L rfl e w' ⟨u,rfl,Y,hb⟩;obtain⟨A,D,rfl,-⟩:=bLm Y.rd;exact⟨i,A,_,D,rfl,hb,Y.rd,Y.lt⟩
 by_cases J:∀h∈S.Hs,h.b≠(k:Int)
 ·by_cases a0:(S.Hs.length:Int)=room
  ·obtain⟨y,M⟩:∃y,S.Hs[S.Hs.length-1]? =some y:=⟨_,aN (by have:=d.shelf.r;omega)⟩;exact(bRd v room S.clock k t (byB S.Hs) W R d.shelf.okH U (by omega) O (by omega) (by omega) (fun h I=>J h (G.mem_iff.1 I)) (by omega) S.Hs G.symm d.shelf.ord y (by rw[hl];exact M)).mono (V _ _ (bRl d.shelf t (by omega) (by omega) J a0 M))
  ·exact(bRc v room S.clock k t (byB S.Hs) W R d.shelf.okH U (by omega) O (by omega) (by omega) (fun h I=>J h (G.mem_iff.1 I)) (by omega)).mono (V _ _ (bN8 d.shelf t (by omega) (by omega) (by rw[bL5 J];omega)))
 ·obtain⟨y,M,Z⟩:∃y∈S.Hs,y.b=(k:Int):=by simpa using J
  exact(bRb v room S.clock k t (byB S.Hs) W R d.shelf.okH U (by omega) O (by omega) (by omega) (G.mem_iff.2 M) Z).mono (V _ _ (bN8 d.shelf t (by omega) (by omega) (by have:=bOo M Z;omega)))
theorem bR3 {w:World} {Z n g cap:Nat} {T:List Value} {a:ByteArray} {vi vh:Value} {room:Int} {P:List Prt} {S:Dk} (h:DkM w Z n g cap T a vi vh room S.clock P (byB S.Hs) S.Rs S.dec) (hS:bK7 P room S) (b8:room<=11) (hc:S.clock<1099511627776) {r o m f e k:Nat} {p:Prt} (hp:P[k]? =some p) (hy:S.Rs[r]? =some (bK5 P o m e k 3 p.t)) (hg:bL9 P o m f e k) {B:Nat} (hB:B<=g/\B<=n):
  Calls pG 94 #[atV n r] w (bNa w B n g cap T a vi room P (goD P room S r (bK5 P o m e k 3 p.t))):=by
 have hr:=(eF.1 hy).1;have b9:k<=2000:=by have:=hS.few;have:=hg.ke;have:=hg.el;omega
 have hG:goD P room S r (bK5 P o m e k 3 p.t)=bMy P (bMq room S k p.t) r o m e k:=by
  unfold goD bK5;dsimp only
  rw[aA (by decide),aA (by decide),aA (by decide)];rfl
 obtain⟨q0,D0⟩:=bM8 h r hB;have b2:=bMz D0 hr;have hT:=fun W=>bR2 hS b8 hc k b9 p.t vh W
 have c3:=hy;unfold bK5 at hy;obtain⟨G,b3⟩:=ex1 (bLh P o m k);rw[<-b3] at hy;clear b3;have c4:=h.zw;have c8:=h.zn;have c9:=h.zg;go_enter func94,ntmps94;go_wp2_with fail;refine b2.mono ?_;rintro e1 w2 ⟨rfl,h2⟩;obtain⟨z,hz⟩:=ex1 (w.heap.size);rw[<-hz] at q0 c4 ⊢;have HZ:=hid hz;clear hz b2;have q2:=q0.bel h2;have R:=D0.bel h2;clear q0 D0 h2;have k0:w2.cell? ⟨g,r*7,none⟩=_:=R.cell hy (j:=0) rfl;have k1:=R.cell hy (j:=1) rfl;have k2:=R.cell hy (j:=2) rfl;have k3:=R.cell hy (j:=3) rfl;have k4:=R.cell hy (j:=4) rfl;have k5:=R.cell hy (j:=5) rfl;have k6:=R.cell hy (j:=6) rfl
 have lg:=R.rds.lt;go_upto_region 2 with fail;have O:=bD (aH w2.heap.size w2) (.cells #[.int .i64 3,.int .i64 (o:Int),.int .i64 (m:Int),.int .i64 (k:Int),.int .i64 (e:Int),.string G,.string p.t] 116);have hX:=Arr.new w2 116 [.int .i64 3,.int .i64 (o:Int),.int .i64 (m:Int),.int .i64 (k:Int),.int .i64 (e:Int),.string G,.string p.t];have d0:z+1<w2.heap.size:=q2.y.lt;change Arr (w2.alloc (.cells #[.int .i64 3,.int .i64 (o:Int),.int .i64 (m:Int),.int .i64 (k:Int),.int .i64 (e:Int),.string G,.string p.t] 116)) _ _ _ at hX;have q3:=q2.bel O;have D3:=R.bel O
 clear q2 R O k0 k1 k2 k3 k4 k5 k6 lg;generalize w2.alloc (.cells #[.int .i64 3,.int .i64 (o:Int),.int .i64 (m:Int),.int .i64 (k:Int),.int .i64 (e:Int),.string G,.string p.t] 116)=w3 at*
 generalize w2.heap.size=bx at*
 go_cut [6,7] (fun c6 c7 L=>∃d F I J,c6=.pointer (some ⟨d,0,none⟩)/\c7=.int .i64 0/\AtE w L B z n r g (.string ⟨#[]⟩) (.int .i64 0)/\DkM L Z n g cap T a vi vh room S.clock P (byB S.Hs) S.Rs S.dec/\z+1<d/\Arr L bx 116 [.int .i64 3,.int .i64 (o:Int),.int .i64 (m:Int),.int .i64 (k:Int),.int .i64 (e:Int),.string G,.string p.t]/\Arr L d 37 [.int .i64 room,.int .i64 (S.clock+1),.slice F I J]/\RdR L (.slice F I J) ((byB (bLo room S.clock S.Hs k p.t)).map mX)/\∀b,(mM F I J).ownBlock=some b->z+2<=b/\b≠d)
 case first=>
  have U:∀W:World,AtE w W B z n r g (.string ⟨#[]⟩) (.int .i64 0)->DkM W Z n g cap T a vi vh room S.clock P (byB S.Hs) S.Rs S.dec->Arr W bx 116 [.int .i64 3,.int .i64 (o:Int),.int .i64 (m:Int),.int .i64 (k:Int),.int .i64 (e:Int),.string G,.string p.t]->(fun L:World=>L.cell? ⟨z,0,none⟩=some (.pointer (some ⟨n,0,none⟩))/\L.cell? ⟨n,2,none⟩=some (.int .i64 room)/\L.cell? ⟨n,3,none⟩=some (.int .i64 S.clock)/\L.cell? ⟨n,4,none⟩=some vh/\L.cell? ⟨bx,3,none⟩=some (.int .i64 (k:Int))/\L.cell? ⟨bx,6,none⟩=some (.string p.t)) W:=fun W q D h=>
   ⟨q.x.cell (i:=0) rfl,D.arr.cell (i:=2) rfl,D.arr.cell (i:=3) rfl,D.arr.cell (i:=4) rfl,h.cell (i:=3) rfl,h.cell (i:=6) rfl⟩
  have hd:=(aH w3.heap.size w3).drew;have Y:=q3.bel hd;have D4:=D3.bel hd;have a3:=hX.below hd hX.lt;refine rF (S:=(fun L:World=>L.cell? ⟨z,0,none⟩=some (.pointer (some ⟨n,0,none⟩))/\L.cell? ⟨n,2,none⟩=some (.int .i64 room)/\L.cell? ⟨n,3,none⟩=some (.int .i64 S.clock)/\L.cell? ⟨n,4,none⟩=some vh/\L.cell? ⟨bx,3,none⟩=some (.int .i64 (k:Int))/\L.cell? ⟨bx,6,none⟩=some (.string p.t))) (by kernel_rfl) (U _ Y D4 a3) (fun c5=>?_);clear q3 D3 hX hd;generalize w3.drew=w4 at*
  refine bKf [0,1,2,3,4,5,6,7,8] ?_
  iterate 9
   refine bKg (by simp only[gA,gH,gB];rfl) (by kernel_rfl) (by exact fun _ _ _ h=>h) (by first|exact gI ⟨by rfl,rfl⟩|(refine gJ ⟨by rfl,?_⟩;intro w' V;(try dsimp only at V);(try go_simp);try with_reducible rfl)) c5 ?_
   try simp only[bJ,bK,bH,bB]
  refine bL3 9 14 (by kernel_rfl) rfl rfl (fun K M=>?_) (fun K M=>?_)
  ·go_simp;refine(hT w4 D4.rh.1).mono ?_;rintro e1 w5 ⟨i,F,I,J,rfl,h5,a8,a4⟩;have q5:=Y.bel h5;have D5:=D4.bel h5;have a0:=a3.below h5 a3.lt
   (try go_wp2_with fail)
   refine M.out _ _ (U _ q5 D5 a0) (fun _=>?_)
   try simp only[bJ,bK,bH,bB]
   clear M K
   iterate 4
    refine fV 0 0 (by simp only[dB,aU,aV,cV,dC]<;>rfl) (by simp only[gA,gH,gB];rfl) (by kernel_rfl) (by exact fun _ _ _ h=>h) (by first|exact gI ⟨by rfl,rfl⟩|(refine gJ ⟨by rfl,?_⟩;intro w' V;(try dsimp only at V);(try go_simp);try with_reducible rfl)) (U _ q5 D5 a0) ?_
    try simp only[bJ,bK,bH,bB]
   refine dJ (i:=14) (by kernel_rfl) rfl (fun K M=>?_);go_simp;have O:=bD (aH w5.heap.size w5) (.cells #[.int .i64 0,.int .i64 0,.slice none 0 0] 37);have A:=Arr.new w5 37 [.int .i64 0,.int .i64 0,.slice none 0 0];have l4:=Y.y.lt;have l5:=a0.lt;have a1:z+1<w5.heap.size:=q5.y.lt;change Arr (w5.alloc (.cells #[.int .i64 0,.int .i64 0,.slice none 0 0] 37)) _ _ _ at A;have q6:=q5.bel O;have D6:=D5.bel O;have a5:=a0.below O a0.lt;have b0:=a8.below O;have a2:∀b,(mM F I J).ownBlock=some b->z+2<=b/\b≠w5.heap.size:=fun b q=>by have:=a4 b q;omega
   refine M.out _ _ (U _ q6 D6 a5) (fun _=>?_)
   try simp only[bJ,bK,bH,bB]
   clear M K;clear q5 D5 a0 O h5 Y D4 a3 a8 a4;generalize w5.alloc (.cells #[.int .i64 0,.int .i64 0,.slice none 0 0] 37)=w6 at*
   generalize w5.heap.size=d at*
   have a6:bx≠d:=by omega
   refine fV 0 0 (by simp only[dB,aU,aV,cV,dC]<;>rfl) (by simp only[gA,gH,gB];rfl) (by kernel_rfl) (by exact fun _ _ _ h=>h) (by first|exact gI ⟨by rfl,rfl⟩|(refine gJ ⟨by rfl,?_⟩;intro w' V;(try dsimp only at V);(try go_simp);try with_reducible rfl)) (U _ q6 D6 a5) ?_
   try simp only[bJ,bK,bH,bB]
   have e0:=A.cell (i:=0) rfl;have e1:=A.cell (i:=1) rfl;have e2:=A.cell (i:=2) rfl;have f0:=A.free 0;have f1:=A.free 1;have f2:=A.free 2;refine dJ (i:=16) (by kernel_rfl) rfl (fun K M=>?_);go_simp;have q7:=((q6.box ⟨d,0,none⟩ a1 (.int .i64 room)).box ⟨d,1,none⟩ a1 (.int .i64 (S.clock+1))).box ⟨d,2,none⟩ a1 (.slice F I J);have D7:=(D6.put (b:=d) (by omega) 0 1 (.int .i64 room) (.int .i64 (S.clock+1))).below ((aH Z _).setCell (p:=⟨d,2,none⟩) (show Z<=d by omega) (.slice F I J))
   have a7:=((a5.other ⟨d,0,none⟩ (bK9 a6) (.int .i64 room)).other ⟨d,1,none⟩ (bK9 a6) (.int .i64 (S.clock+1))).other ⟨d,2,none⟩ (bK9 a6) (.slice F I J);have b1:=bLb (bLb (bLb b0 (p:=⟨d,0,none⟩) (fun q=>(a2 _ q).2 rfl) (.int .i64 room)) (p:=⟨d,1,none⟩) (fun q=>(a2 _ q).2 rfl) (.int .i64 (S.clock+1))) (p:=⟨d,2,none⟩) (fun q=>(a2 _ q).2 rfl) (.slice F I J);refine M.out _ _ (U _ q7 D7 a7) (fun _=>?_)
   try simp only[bJ,bK,bH,bB]
   clear M K;refine fV 0 0 (by simp only[dB,aU,aV,cV,dC]<;>rfl) (by simp only[gA,gH,gB];rfl) (by kernel_rfl) (by exact fun _ _ _ h=>h) (by first|exact gI ⟨by rfl,rfl⟩|(refine gJ ⟨by rfl,?_⟩;intro w' V;(try dsimp only at V);(try go_simp);try with_reducible rfl)) (U _ q7 D7 a7) ?_
   try simp only[bJ,bK,bH,bB]
   refine nY (by kernel_rfl) ?_ _;go_wp2_with fail;go_meet;exact⟨d,F,I,J,rfl,rfl,q7,D7,a1,a7,((A.set 0 _).set 1 _).set 2 _,b1,a2⟩
  ·go_simp;have O:=bD (aH w4.heap.size w4) (.cells #[.int .i64 0,.int .i64 0,.slice none 0 0] 37);have A:=Arr.new w4 37 [.int .i64 0,.int .i64 0,.slice none 0 0];have l5:=a3.lt;have a1:z+1<w4.heap.size:=Y.y.lt;change Arr (w4.alloc (.cells #[.int .i64 0,.int .i64 0,.slice none 0 0] 37)) _ _ _ at A;have q5:=Y.bel O;have D5:=D4.bel O;have a0:=a3.below O a3.lt;refine M.out _ _ (U _ q5 D5 a0) (fun _=>?_)
   try simp only[bJ,bK,bH,bB]
   clear M K;clear Y D4 a3 O;generalize w4.alloc (.cells #[.int .i64 0,.int .i64 0,.slice none 0 0] 37)=w5 at*
   generalize w4.heap.size=d at*
   have a6:bx≠d:=by omega
   refine dJ (i:=9) (by kernel_rfl) rfl (fun K M=>?_);go_simp;refine(hT w5 D5.rh.1).mono ?_;rintro e1 w6 ⟨i,F,I,J,rfl,h6,b0,a4⟩;have q6:=q5.bel h6;have D6:=D5.bel h6;have a5:=a0.below h6 a0.lt;have lY:=A.lt;have A:=A.below h6 A.lt;have a2:∀b,(mM F I J).ownBlock=some b->z+2<=b/\b≠d:=fun b q=>by have:=a4 b q;omega
   (try go_wp2_with fail)
   refine M.out _ _ (U _ q6 D6 a5) (fun _=>?_)
   try simp only[bJ,bK,bH,bB]
   clear M K;clear q5 D5 a0 h6
   iterate 4
    refine fV 0 1 (by simp only[dB,aU,aV,cV,dC]<;>rfl) (by simp only[gA,gH,gB];rfl) (by kernel_rfl) (by exact fun _ _ _ h=>h) (by first|exact gI ⟨by rfl,rfl⟩|(refine gJ ⟨by rfl,?_⟩;intro w' V;(try dsimp only at V);(try go_simp);try with_reducible rfl)) (U _ q6 D6 a5) ?_
    try simp only[bJ,bK,bH,bB]
   refine fV 0 0 (by simp only[dB,aU,aV,cV,dC]<;>rfl) (by simp only[gA,gH,gB];rfl) (by kernel_rfl) (by exact fun _ _ _ h=>h) (by first|exact gI ⟨by rfl,rfl⟩|(refine gJ ⟨by rfl,?_⟩;intro w' V;(try dsimp only at V);(try go_simp);try with_reducible rfl)) (U _ q6 D6 a5) ?_
   try simp only[bJ,bK,bH,bB]
   have e0:=A.cell (i:=0) rfl;have e1:=A.cell (i:=1) rfl;have e2:=A.cell (i:=2) rfl;have f0:=A.free 0;have f1:=A.free 1;have f2:=A.free 2;refine dJ (i:=16) (by kernel_rfl) rfl (fun K M=>?_);go_simp;have q7:=((q6.box ⟨d,0,none⟩ a1 (.int .i64 room)).box ⟨d,1,none⟩ a1 (.int .i64 (S.clock+1))).box ⟨d,2,none⟩ a1 (.slice F I J);have D7:=(D6.put (b:=d) (by omega) 0 1 (.int .i64 room) (.int .i64 (S.clock+1))).below ((aH Z _).setCell (p:=⟨d,2,none⟩) (show Z<=d by omega) (.slice F I J))
   have a7:=((a5.other ⟨d,0,none⟩ (bK9 a6) (.int .i64 room)).other ⟨d,1,none⟩ (bK9 a6) (.int .i64 (S.clock+1))).other ⟨d,2,none⟩ (bK9 a6) (.slice F I J);have b1:=bLb (bLb (bLb b0 (p:=⟨d,0,none⟩) (fun q=>(a2 _ q).2 rfl) (.int .i64 room)) (p:=⟨d,1,none⟩) (fun q=>(a2 _ q).2 rfl) (.int .i64 (S.clock+1))) (p:=⟨d,2,none⟩) (fun q=>(a2 _ q).2 rfl) (.slice F I J);refine M.out _ _ (U _ q7 D7 a7) (fun _=>?_)
   try simp only[bJ,bK,bH,bB]
   clear M K;refine fV 0 0 (by simp only[dB,aU,aV,cV,dC]<;>rfl) (by simp only[gA,gH,gB];rfl) (by kernel_rfl) (by exact fun _ _ _ h=>h) (by first|exact gI ⟨by rfl,rfl⟩|(refine gJ ⟨by rfl,?_⟩;intro w' V;(try dsimp only at V);(try go_simp);try with_reducible rfl)) (U _ q7 D7 a7) ?_
   try simp only[bJ,bK,bH,bB]
   refine nY (by kernel_rfl) ?_ _;go_wp2_with fail;go_meet;exact⟨d,F,I,J,rfl,rfl,q7,D7,a1,a7,((A.set 0 _).set 1 _).set 2 _,b1,a2⟩
 case rest=>
  obtain⟨d,F,I,J,rfl,rfl,q1,D1,a1,hX,A,a8,a4⟩:=hcut;have x0:=q1.x.cell (i:=0) rfl;have x1:=q1.x.cell (i:=1) rfl;have c0:=A.cell (i:=0) rfl;have c1:=A.cell (i:=1) rfl;have c2:=A.cell (i:=2) rfl;have d2:=D1.arr.cell (i:=2) rfl;have d3:=D1.arr.cell (i:=3) rfl;have d4:=D1.arr.cell (i:=4) rfl;have k2:=D1.arr.free 2;have k3:=D1.arr.free 3;have k4:=D1.arr.free 4;have ln:=D1.arr.lt;have t6:=hX.cell (i:=6) rfl;have d1:n≠z:=by omega
  have d5:n≠bx:=by omega
  have lz:=q1.x.lt;have lx:=hX.lt;clear hT;go_wp2_with fail;have R:=D1.setH (S.clock+1) a8 (C:=z+2) (fun b q=>(a4 b q).1) (by omega);have q2:=((q1.put ⟨n,2,none⟩ (.inr rfl) (.int .i64 room)).put ⟨n,3,none⟩ (.inr rfl) (.int .i64 (S.clock+1))).put ⟨n,4,none⟩ (.inr rfl) (.slice F I J);have b4:=D1.ri.out (b:=z+1) (by omega);refine(bPl R c3 hS.right hS.few hS.size hg hp hB).mono ?_;rintro e1 w3 ⟨rfl,D3,h3,b5⟩;have q3:=q2.kept h3 b5;have e0:=q3.y.cell (i:=0) rfl;have e1:=q3.y.cell (i:=1) rfl;have g0:=q3.y.free 0;have g1:=q3.y.free 1;have ly:=q3.y.lt
  clear x0 x1 c0 c1 c2 d2 d3 d4 k2 k3 k4 q1 D1 q2 R hX A a8 h3 b5 t6 lx;go_wp2_with fail;have b7:(mM F I J).ownBlock≠some (z+1):=fun q=>by have:=a4 _ q;omega
  have D4:=(D3.far ⟨z+1,0,none⟩ ⟨show z+1≠n by omega,show z+1≠g by omega⟩ b4 (.inl b7) (.string (bLx P o m e k))).far ⟨z+1,1,none⟩ ⟨show z+1≠n by omega,show z+1≠g by omega⟩ b4 (.inl b7) (.int .i64 (bLy P o m e k));have Y:=q3.rep (.string (bLx P o m e k)) (.int .i64 (bLy P o m e k));refine bMd rfl Y.y rfl rfl rfl ?_;rw[hG];exact⟨_,rfl,D4.up D4.zw (aD _),Y.b,Y.k,fun b q=>by have:=a4 b q;have:=Y.s;omega⟩
theorem bR4 {w:World} {Z n g cap:Nat} {T:List Value} {a:ByteArray} {D e:Value} {room:Int} {P:List Prt} {S:Dk} (h:DkM w Z n g cap T a D e room S.clock P (byB S.Hs) S.Rs S.dec) (r:Nat) {B:Nat} (G:B<=g/\B<=n) (F:∀b,e.ownBlock=some b->B<=b):
  Calls pG 91 #[atV n r] w (bNa w B n g cap T a D room P ((false,⟨#[]⟩,0),S)):=by
 obtain⟨d,A⟩:=bM8 h r G;have I:=h.zw;have J:=d.y.cell (i:=0) rfl;have L:=d.y.cell (i:=1) rfl;have M:=d.y.free 0;have O:=d.y.free 1;go_enter func91,ntmps91;go_wp2_with fail
 first
  |exact bMd rfl d.y rfl rfl rfl ⟨e,rfl,A.up A.zw (aD _),d.b,d.k,F⟩
  |exact bMd rfl (d.rep (.string ⟨#[]⟩) (.int .i64 0)).y rfl rfl rfl ⟨e,rfl,(A.put (b:=w.heap.size+1) (by omega) 0 1 (.string ⟨#[]⟩) (.int .i64 0)).up (A.put (b:=w.heap.size+1) (by omega) 0 1 (.string ⟨#[]⟩) (.int .i64 0)).zw (aD _),(d.rep (.string ⟨#[]⟩) (.int .i64 0)).b,(d.rep (.string ⟨#[]⟩) (.int .i64 0)).k,F⟩
def bNr (s:Int):Nat:=if s=0 then 91 else if s=1 then 92 else if s=2 then 93 else 94
theorem bR5 (s:Int) (d:s=0\/s=1\/s=2\/s=3) (w:World):
  Calls pG 56 #[.int .i64 s] w fun e w'=>e=.returned (.func (.func (bNr s)) #[] #[])/\Below w.heap.size w w':=by
 rcases d with rfl|rfl|rfl|rfl
 all_goals
  go_enter func56,ntmps56;go_wp2_with fail;go_ret;exact⟨rfl,bD (aH _ _) _⟩
theorem bR6 {P:List Prt} {room:Int} {S:Dk} {a:ByteArray} (I:bK7 P room S) (L:room<=11) (M:S.clock<1099511627776) (O:S.dec<1099511627776) (R:a.size<=120000) (U:∀p∈P,zP a.data.toList p) {r:Nat} {y:Rdr} (G:S.Rs[r]? =some y):
  (y.st=0\/y.st=1\/y.st=2\/y.st=3)/\(∀args w,(callFunc (bNr y.st) args).run pG w=.ok (.enter (bNr y.st) args) w)/\∀(w:World) (Z n g cap:Nat) (T:List Value) (A D:Value) (B:Nat),DkM w Z n g cap T a A D room S.clock P (byB S.Hs) S.Rs S.dec->(B<=g/\B<=n)->(∀b,D.ownBlock=some b->B<=b)->dU w->0<B->Calls pG (bNr y.st) #[atV n r] w (bNa w B n g cap T a A room P (bLi P room S r)):=by
 have V:bLi P room S r=goD P room S r y:=by unfold bLi;rw[G]
 rw[V];rcases I.rdrs y (cN G) with rfl|⟨o,m,f,e,k,J,rfl|rfl|⟨p,Y,rfl⟩⟩
 ·exact⟨.inl rfl,gQ func91 (by kernel_rfl) rfl,fun w Z n g cap T A D B h d F _ _=>bR4 h r d F⟩
 ·exact⟨.inr (.inl rfl),gQ func92 (by kernel_rfl) rfl,fun w Z n g cap T A D B h d F _ _=>bRz h I L M G J d F⟩
 ·exact⟨.inr (.inr (.inl rfl)),gQ func93 (by kernel_rfl) rfl,fun w Z n g cap T A D B h d F h4 h5=>bR1 h I O G J d F h4 h5 R U⟩
 ·exact⟨.inr (.inr (.inr rfl)),gQ func94 (by kernel_rfl) rfl,fun w Z n g cap T A D B h d F _ _=>bR3 h I L M Y G J d⟩
end Go.Proofs.YtfckbfofgeilgaaGreatDoor
