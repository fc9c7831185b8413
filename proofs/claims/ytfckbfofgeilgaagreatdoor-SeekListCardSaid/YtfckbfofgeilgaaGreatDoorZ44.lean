/-
  Texts put together (part 44): the walks and the plain laws on which the statement stands.
-/
import Derived.Test.YtfckbfofgeilgaaGreatDoorZ42
set_option maxRecDepth 100000
set_option maxHeartbeats 12800000
set_option linter.unusedVariables false
set_option linter.unusedSimpArgs false
open Go.Proofs.Tryz
open Go.Proofs.Tryz renaming prog->pG
open ByteArray renaming ext->YE
open Go.Act renaming put->bJ
open Go.RowKit.Below renaming refl->aH
open Int renaming emod_lt_of_pos->bP6
open List renaming append_assoc->bU,getD_eq_getElem?_getD->bV,getElem?_cons_succ->gH,getElem?_cons_zero->gB,getElem?_drop->jR,getElem?_take->pD,getElem?_toArray->gA,length_append->aL,length_cons->aU,length_drop->bA,length_nil->aV,length_take->aQ,setIfInBounds_toArray->bK,set_cons_succ->bB,set_cons_zero->bH
open Nat renaming le_refl->aD
namespace Go.Proofs.YtfckbfofgeilgaaGreatDoor
open Go.RowKit Go Go.Shelf
theorem bSq (s:ByteArray) (room:Int) (w:World) (A:s.size<=100000) (D: -9223372036854775808<=room) (F:room<=9223372036854775807) (h:jZ s room=0):
  Calls pG 27 #[.string s,.int .i64 room] w fun e w'=>e=.returned (.tuple #[.agg #[.string (mkS (aI (eJ s))),.int .i64 ((eJ s).length:Int)],.int .i64 0])/\Below w.heap.size w w'/\iZ (mkS (bT s.data.toList)):=by
 refine(bA9 s room w A D F).mono ?_;rintro e w' ⟨d,G,I⟩;rw[aIk h,h] at d;exact⟨d,G,I h⟩
def bK4:ByteArray:=⟨#[98,97,110,97,110,97]⟩
theorem bP2:(bT bK4.data.toList).length=6:=by decide+kernel
theorem bSr:(iL (bY (bT bK4.data.toList))).length=32:=by decide+kernel
theorem bSs:(bY (bT bK4.data.toList)).length=3:=by decide+kernel
theorem bP3:jZ bK4 40=0:=MW (by decide) (by decide) (by decide) (by rw[bP2];decide)
theorem bSt (s:List UInt8) (k i:Nat):dO (s.drop k) i=dO s (i+8*k):=by
 unfold dO;rw[bV,bV,jR,show(i+8*k)/8=k+i/8 by omega,show(i+8*k)%8=i%8 by omega]
theorem bSu {s:List UInt8} {k i:Nat} (h:i<8*k):dO (s.take k) i=dO s i:=by
 unfold dO;rw[bV,bV,pD,aB (by omega)]
theorem bSv {L:List Bool} (h:80<=L.length):((aI L).drop 6).take 4=aI ((L.drop 48).take 32):=by
 have d:(((aI L).drop 6).take 4).length=4:=by
  rw[aQ,bA,iJ];omega
 refine BS ?_ fun i e=>?_
 ·rw[d,iJ,aQ,bA];omega
 ·rw[d] at e;rw[bSu (by omega),bSt,tR,tR,bV,bV,pD,aB (by omega),jR,Nat.add_comm 48 i]
theorem bP4 {w:World} {v:Value} {m:List Int} (h:RdI w v m) (e:0<m.length):tQ w v m:=by
 obtain⟨a,cap,rfl,I,J,d⟩:=h;rcases d with d|⟨b,off,rfl,D,F⟩
 ·rw[List.map_eq_nil_iff] at d;rw[d] at e;exact absurd e (by decide)
 ·refine .inr ⟨b,off,cap,rfl,D,fun j x A=>?_⟩;have G:=(List.getElem?_eq_some_iff.1 A).1;rw[F j (by rw[List.length_map];exact G),bV,List.getElem?_map,A];rfl
theorem bMt {W W1 w0:World} {t M d e A ch D F:Nat} {a:ByteArray} {room L O:Int} {G I J:Option Addr} {V Y Z:lC} {x0 x1 x2 x3 x4 x5 x6:Value} (hX:Arr W t 40 [x0,x1,x2,x3,x4,x5,x6]) (d1:RdR W (.slice G d e) V) (d2:RdR W (.slice I A ch) Y) (d3:RdR W (.slice J D F) Z) (f:Fr (bLa a (.slice G d e) room L (.slice I A ch) (.slice J D F) O) M) (ht:t<M) (R:Below w0.heap.size w0 W) (hw:w0.heap.size<=t)
  (U:W1=bLn W t (.string a) (.slice G d e) (.int .i64 room) (.int .i64 L) (.slice I A ch) (.slice J D F) (.int .i64 O)):Arr W1 t 40 [.string a,.slice G d e,.int .i64 room,.int .i64 L,.slice I A ch,.slice J D F,.int .i64 O]/\RdR W1 (.slice G d e) V/\RdR W1 (.slice I A ch) Y/\RdR W1 (.slice J D F) Z/\Below w0.heap.size w0 W1/\bK6 W W1 t t:=by
 have k:bK6 W W1 t t:=by
  rw[U];exact(((((((bK6.of t t (aH W.heap.size W)).put ⟨t,0,none⟩ (.inl rfl) _).put ⟨t,1,none⟩ (.inl rfl) _).put ⟨t,2,none⟩ (.inl rfl) _).put ⟨t,3,none⟩ (.inl rfl) _).put ⟨t,4,none⟩ (.inl rfl) _).put ⟨t,5,none⟩ (.inl rfl) _).put ⟨t,6,none⟩ (.inl rfl) _
 have hx:=bLz (.string a) (.slice G d e) (.int .i64 room) (.int .i64 L) (.slice I A ch) (.slice J D F) (.int .i64 O) hX;have R:=bL2 (y:=t) (.string a) (.slice G d e) (.int .i64 room) (.int .i64 L) (.slice I A ch) (.slice J D F) (.int .i64 O) R hw;obtain⟨g1,g2,g3⟩:=f _ _ _ _ _ _ _ rfl;rw[<-U] at hx R;clear U;exact⟨hx,bLp d1 k (fun q=>by have:=g1 _ q;omega) (fun q=>by have:=g1 _ q;omega),bLp d2 k (fun q=>by have:=g2 _ q;omega) (fun q=>by have:=g2 _ q;omega),bLp d3 k (fun q=>by have:=g3 _ q;omega) (fun q=>by have:=g3 _ q;omega),R,k⟩
theorem bP5 {P:List Prt} (F:P.length=1) (d:jA (gU 0 P)) {room:Int} (S:Dk) {o m:Nat} (h:m≠0/\o<(iH (P.map Prt.t)).size):bLe P room S o m=bL4 P room S 0:=by
 rcases bNs d o m with⟨-,A⟩|⟨f,e,D,G,A,I,J,-⟩
 ·omega
 ·unfold bLe;obtain rfl:f=0:=by omega
  obtain rfl:e=0:=by omega
  rw[D,aA (by decide)];rfl
theorem bSw {P:List Prt} (A:P.length=1) (d:jA (gU 0 P)) (D:iH (P.map Prt.t)=bK4):(bLe P 1 (bLe P 1 (bLe P 1 (bLk 2) 4 2) 4 3) 6 0).dec=1:=by
 have e:∀S:Dk,bLe P 1 S 6 0=S:=fun S=>by
  rcases bNs d 6 0 with⟨F,-⟩|⟨f,e,F,G,-⟩
  ·unfold bLe;rw[F,aB (by decide)]
  ·omega
 rw[e,bP5 A d _ ⟨by decide,by rw[D];decide⟩,bP5 A d _ ⟨by decide,by rw[D];decide⟩];show(if(bLt (bLo 1 0 [] ((0:Nat):Int) (bL0 P 0)) ((0:Nat):Int)).isSome then(1:Int) else 1+1)=1;exact aB rfl
noncomputable def bMb:ByteArray:=aZ [(1,[bK4])]
theorem bSx:((eJ bK4).drop 48).take 32=aT (EV [bK4]).toNat 32:=by
 have e:EV [bK4]=cH bK4.data.toList:=by
  unfold EV iM zM;simp
 rw[e];unfold eJ uN ER;rw[bU,bU,bU,List.drop_append_of_le_length (by rw[dV];exact aD _),List.drop_of_length_le (by rw[dV];exact aD _),List.nil_append,List.take_append_of_le_length (by rw[dV];exact aD _),List.take_of_length_le (by rw[dV];exact aD _)]
theorem bSy:mkS (aI (eR (⟨#[80,77,107,49]⟩:ByteArray).data.toList++eJ bK4++aT 25779555029136 48++((eJ bK4).drop 48).take 32))=bMb:=by
 rw[bSx];unfold bMb aZ;rw[<-tU];unfold cM fN;simp only[List.map_cons,List.map_nil,List.flatten_cons,List.flatten_nil,List.append_nil,bU];rfl
theorem bSz (d:iZ (mkS (bT bK4.data.toList))):okA [(1,[bK4])]:=NF (by decide) (by decide) (fun t e=>by obtain rfl:=List.mem_singleton.1 e;exact aIl bP3 d)
theorem bS0 (D:iZ (mkS (bT bK4.data.toList))):bMb.size<=4000/\(cI bMb.data.toList).2=0/\(eY bMb.data.toList).length=1/\iH ((eY bMb.data.toList).map Prt.t)=bK4/\jA (gU 0 (eY bMb.data.toList)):=by
 have e:=bSz D;have F:=wQ e;obtain⟨A,d⟩:=GD (l:=[(1,[bK4])]) (by simp) e;refine⟨Nat.le_trans F (by decide),d,?_,?_,?_⟩
 ·unfold bMb;rw[A];rfl
 ·unfold bMb;rw[A,SP];rfl
 ·have:=bRe d;show jA (gU 0 (eY (aZ [(1,[bK4])]).data.toList));unfold eY;rw[aB d];exact this
theorem bS1 (w:World) (hE:dU w):Calls pG 7 #[] w fun e w'=>e=.returned (.bool true)/\Below w.heap.size w w':=by
 go_enter func7,ntmps7;go_wp2_with fail;refine(bSq bK4 40 w (by decide) (by decide) (by decide) bP3).mono ?_;rintro e w1 ⟨rfl,q8,hO⟩;go_wp2_with fail;have hX:=Arr.new w1 69 [.string (mkS (aI (eJ bK4))),.int .i64 ((eJ bK4).length:Int)];change Arr (w1.alloc (.cells #[.string (mkS (aI (eJ bK4))),.int .i64 ((eJ bK4).length:Int)] 69)) _ _ _ at hX;have i7:=bD q8 (.cells #[.string (mkS (aI (eJ bK4))),.int .i64 ((eJ bK4).length:Int)] 69);generalize w1.alloc (.cells #[.string (mkS (aI (eJ bK4))),.int .i64 ((eJ bK4).length:Int)] 69)=w2 at*
 generalize w1.heap.size=tb at*
 have i8:=wK 25779555029136 48 w2 (by decide) (by decide);refine i8.mono ?_;rintro e w3 ⟨vm,rfl,om,h3⟩;have c5:=hX.below h3 hX.lt;have i9:=aW i7 h3;obtain⟨am,cm,rfl,-⟩:=om.rd.open;clear i8 hX i7 h3;have c6:=bBw (t:=bK4) (by decide) (by rw[bP2];decide) hO;rw[bSr,bSs] at c6;have d8:=fun W=>zY (eJ bK4) W (by omega)
 have c7:=fun W=>zY (((eJ bK4).drop 48).take 32) W (by rw[aQ];omega)
 have c8:(((eJ bK4).drop 48).take 32).length=32:=by rw[aQ,bA];omega
 have j0:(mkS (aI (eJ bK4))).size=((eJ bK4).length+7)/8:=by rw[cS,iJ]
 have eC:mkS (aI (((eJ bK4).drop 48).take 32))=(mkS (aI (eJ bK4))).extract 6 10:=by
  rw[<-bSv (by omega)];refine YE (Array.toList_inj.1 ?_);rw[dP,iW,dP,dP]
 rw[c8,eC] at c7;have j1:=fun W=>aEd ⟨#[80,77,107,49]⟩ W (by decide)
 have c1:=fun(v:Value) W h=>CF v (eR (⟨#[80,77,107,49]⟩:ByteArray).data.toList++eJ bK4++aT 25779555029136 48++((eJ bK4).drop 48).take 32) W h (by rw[aL,aL,aL,qU,dV,c8];have:=c6.1;simp only[aU,aV];omega)
 rw[bSy] at c1;have n1:(bI (eR (⟨#[80,77,107,49]⟩:ByteArray).data.toList)).length=32:=by rw[cX,qU];rfl
 have n2:(bI (eJ bK4)).length=(eJ bK4).length:=cX _;have n3:(bI (aT 25779555029136 48)).length=48:=by rw[cX,dV]
 have n4:(bI (((eJ bK4).drop 48).take 32)).length=32:=by rw[cX,c8]
 rw[iT,iT,iT] at c1;obtain⟨f1,f2,f3,f4,f5⟩:=bS0 hO;generalize q9:(eR (⟨#[80,77,107,49]⟩:ByteArray).data.toList++eJ bK4++aT 25779555029136 48++((eJ bK4).drop 48).take 32).length=LL at c1;generalize bI (eR (⟨#[80,77,107,49]⟩:ByteArray).data.toList)=b1 at*
 generalize bI (eJ bK4)=b2 at*
 generalize bI (aT 25779555029136 48)=b3 at*
 generalize bI (((eJ bK4).drop 48).take 32)=b4 at*
 obtain⟨Sb,a2⟩:=ex1 (mkS (aI (eJ bK4)));obtain⟨N,hN⟩:=ex1 ((eJ bK4).length);rw[<-a2,<-hN] at c5 d8 j0;rw[<-a2] at c7;rw[<-hN] at c6 n2;rw[<-a2,<-hN];have s1:10<=Sb.size:=by omega
 have s2:(10:Int)<=(Sb.size:Int):=by omega
 generalize bMb=A at*
 rw[n3] at om;clear a2 hN q9 c8 eC hO j0;go_upto_region 3 with fail;have hd:=(aH w3.heap.size w3).drew;have a6:=c5.below hd c5.lt;have j2:=OwI.below om hd (aD _);have a5:=aW i9 hd;have a2:∀W,Arr W tb 69 [.string Sb,.int .i64 (N:Int)]->(fun wx:World=>wx.cell? ⟨tb,0,none⟩=some (.string Sb)/\wx.cell? ⟨tb,1,none⟩=some (.int .i64 (N:Int))) W:=fun W h=>⟨h.cell (i:=0) rfl,h.cell (i:=1) rfl⟩
 refine wp_region_held_drew (S:=(fun wx:World=>wx.cell? ⟨tb,0,none⟩=some (.string Sb)/\wx.cell? ⟨tb,1,none⟩=some (.int .i64 (N:Int)))) (by kernel_rfl) (a2 _ a6) (fun j3=>?_);clear hd c5 om i9;generalize w3.drew=w4 at*
 refine bKf [1,4,6,7,8,9] ?_
 iterate 6
  refine bKg (by simp only[gA,gH,gB];rfl) (by kernel_rfl) (by exact fun _ _ _ h=>h) (by first|exact Or.inr ⟨by rfl,rfl⟩|(refine Or.inl ⟨by rfl,?_⟩;intro w' d9;(try dsimp only at d9);(try go_simp);try with_reducible rfl)) j3 ?_
  try simp only[bJ,bK,bH,bB]
 refine dJ (i:=0) (by kernel_rfl) rfl (fun K hK=>?_);go_simp;have l4:=a6.lt;refine(j1 w4).mono ?_;rintro R w5 ⟨v5,rfl,o5,h5⟩
 (try go_wp2_with fail)
 refine hK.out _ _ (a2 _ (a6.below h5 l4)) (fun _=>?_)
 try simp only[bJ,bK,bH,bB]
 clear hK K;refine dJ (i:=2) (by kernel_rfl) rfl (fun K hK=>?_);go_simp;refine(d8 w5).mono ?_;rintro R w6 ⟨v6,rfl,r6,h6⟩;have o6:=OwI.below o5 h6 (aD _);have c9:=h5.trans (h6.mono h5.size)
 (try go_wp2_with fail)
 refine hK.out _ _ (a2 _ (a6.below c9 l4)) (fun _=>?_)
 try simp only[bJ,bK,bH,bB]
 clear hK K;clear o5 h5 h6;refine dJ (i:=3) (by kernel_rfl) rfl (fun K hK=>?_);refine TC rfl _ _ rfl w4.heap.size _ _ rfl o6 _ _ rfl (bP4 r6 (by omega)) (by omega) c9.size ?_;intro v7 w7 o7 h7 g7;have c2:=c9.trans h7;refine hK.out _ _ (a2 _ (a6.below c2 l4)) (fun _=>?_)
 try simp only[bJ,bK,bH,bB]
 clear hK K;clear o6 h7 c9 g7 r6;refine dJ (i:=5) (by kernel_rfl) rfl (fun K hK=>?_);refine TC rfl _ _ rfl w4.heap.size _ _ rfl o7 _ _ rfl (OwI.below j2 c2 (aD _)).src (by rw[aL];omega) c2.size ?_;intro v8 w8 o8 h8 g8;have d1:=c2.trans h8;refine hK.out _ _ (a2 _ (a6.below d1 l4)) (fun _=>?_)
 try simp only[bJ,bK,bH,bB]
 clear hK K;clear o7 h8 c2 g8;refine dJ (i:=10) (by kernel_rfl) rfl (fun K hK=>?_);go_simp;refine(c7 w8).mono ?_;rintro R w9 ⟨v9,rfl,r9,h9⟩;have o9:=OwI.below o8 h9 (aD _);have d2:=d1.trans (h9.mono d1.size)
 (try go_wp2_with fail)
 refine hK.out _ _ (a2 _ (a6.below d2 l4)) (fun _=>?_)
 try simp only[bJ,bK,bH,bB]
 clear hK K;clear o8 h9 d1;refine dJ (i:=11) (by kernel_rfl) rfl (fun K hK=>?_);refine TC rfl _ _ rfl w4.heap.size _ _ rfl o9 _ _ rfl (bP4 r9 (by omega)) (by rw[aL,aL];omega) d2.size ?_;intro x0 r0 e7 j4 r1;have d3:=d2.trans j4;refine hK.out _ _ (a2 _ (a6.below d3 l4)) (fun _=>?_)
 try simp only[bJ,bK,bH,bB]
 clear hK K;clear o9 j4 d2 r1 r9;obtain⟨x1,x2,ev,-⟩:=e7.rd.open;obtain⟨x3,j5⟩:=ex1 ((b1++b2++b3++b4).length);rw[<-j5] at ev;clear j5;subst ev;refine fV 0 0 (by simp only[List.size_toArray,aU,aV,Nat.reduceAdd,Nat.reduceSub]<;>rfl) (by simp only[gA,gH,gB];rfl) (by kernel_rfl) (by exact fun _ _ _ h=>h) (by first|exact Or.inr ⟨by rfl,rfl⟩|(refine Or.inl ⟨by rfl,?_⟩;intro w' d9;(try dsimp only at d9);(try go_simp);try with_reducible rfl)) (a2 _ (a6.below d3 l4)) ?_
 try simp only[bJ,bK,bH,bB]
 refine wpAnyH_done (by kernel_rfl) ?_ _;have j6:=aW a5 (d3.mono (aD _));have e8:=e7.rd;clear j3 a2 j2 a6 l4 d3 e7;go_wp2_with fail;refine(c1 _ r0 e8).mono ?_;rintro R r2 ⟨rfl,j7⟩;have e9:=aW j6 j7;have f7:=hE.below e9;clear c1 e8 j6 j7 a5 j1 d8 c7 n1 n2 n3 n4 c6 s1 s2;have x4:∀W,(Instr.field 69 (.agg #[.string A,.int .i64 (LL:Int)]) 0).run pG W=.ok (.string A) W:=fun W=>rfl
 have f8:=fun p (h:p∈eY A.data.toList)=>aJh p h
 have f9:=fun W h=>bOk A 1 2 W h (by omega) (by decide) (by decide)
 have r3:=fun W=>bSn A 0 1 W (by decide)
 have j8:=fun W h=>bOk ⟨#[]⟩ 1 1 W h (by decide) (by decide) (by decide)
 have j9:=fun W h=>bSl A ⟨#[]⟩ 1 1 W h (by omega) (by decide) (by decide) (by decide)
 rw[show vF A.data.toList (⟨#[]⟩:ByteArray).data.toList=2 from rfl] at j9;rw[show(cI (⟨#[]⟩:ByteArray).data.toList).2=3 from rfl] at j8;rw[f2] at f9;have k0:=bSw f3 f5 f4;have g0:bK7 (eY A.data.toList) 1 (bLk 2):=bPx f5 (by omega) (by rw[f4];decide) (by decide) (by decide);generalize eY A.data.toList=P at*
 have c3:(bLk 2).Rs[0]? =some bK8:=rfl;have l1:(bLk 2).Rs[1]? =some bK8:=rfl;have r4:(bLk 2).Rs.length=2:=rfl;obtain⟨g1,k1,k2,k3⟩:=bNc g0 c3 4 2 (by decide) (by decide) (by decide);have d4:=fun W v h1 h2=>bM0 (w:=W) (v:=v) (a:=A) h1 g0 (by decide) (by decide) (by decide) h2 (by omega) f8 c3 4 2 (by decide) (by decide)
 have c0:(bLk 2).clock=0:=rfl;have d0:(bLk 2).dec=0:=rfl;generalize r5:bLe P 1 (bLk 2) 4 2=S1 at*
 have g4:S1.Rs[1]? =some bK8:=by rw[k3];exact l1
 obtain⟨g2,k4,k5,k6⟩:=bNc g1 g4 4 3 (by decide) (by omega) (by omega);have d5:=fun W v h1 h2=>bM0 (w:=W) (v:=v) (a:=A) h1 g1 (by decide) (by omega) (by omega) h2 (by omega) f8 g4 4 3 (by decide) (by decide)
 generalize r7:bLe P 1 S1 4 3=S2 at*
 have g5:S2.Rs[0]? =some bK8:=by rw[k6,k3];exact c3
 obtain⟨g3,k7,k8,k9⟩:=bNc g2 g5 6 0 (by decide) (by omega) (by omega);have d6:=fun W v h1 h2=>bM0 (w:=W) (v:=v) (a:=A) h1 g2 (by decide) (by omega) (by omega) h2 (by omega) f8 g5 6 0 (by decide) (by decide)
 generalize r8:bLe P 1 S2 6 0=S3 at*
 have l2:S3.Rs[0]? =some bK8:=by rw[k9,k6,k3];exact c3
 have l3:(S3.Rs.length:Int)<=2:=by rw[k9,k6,k3];decide
 have s0:=fun W v h=>bSp (w:=W) (v:=v) (a:=A) h g3 l2 rfl 2
 have s3:=fun W v h=>bSc (w:=W) (v:=v) (a:=A) h g3 (r:=2) (.inr l3)
 rw[f4] at d4 d5 d6;rw[show bLq bK4 4 2=⟨#[110,97]⟩ from by decide+kernel,show bLj bK4.size 4 2=0 from rfl] at d4;rw[show bLq bK4 4 3=⟨#[110,97]⟩ from by decide+kernel,show bLj bK4.size 4 3=8 from rfl] at d5;rw[show bLq bK4 6 0=⟨#[]⟩ from by decide+kernel,show bLj bK4.size 6 0=0 from rfl] at d6;have s4:=fun W e w' (h:bMk W A P 1 2 0 e w')=>show ∃v,e=.returned (.tuple #[v,.int .i64 0])/\RdD w' v A P 1 (bLk 2)/\Below W.heap.size W w' from h.ok
 have s5:=hid k0;clear k0 r5 r7 r8;generalize bLk 2=S0 at*
 clear c0 d0 r4 k1 k2 k3 k4 k5 k6 k7 k8 k9 c3 l1 g4 g5 l2 l3 f1 f2 f3 f4 f5;go_wp2_with fail;refine(f9 r2 f7).mono ?_;rintro R b5 hq;obtain⟨x5,rfl,dd,g6⟩:=s4 _ _ _ hq;obtain⟨ai,ni,ci,ah,nh,ch,ar,cr,rfl,U,V,Y⟩:=dd.open;have g9:=aW e9 g6;have l5:=f7.below g6;clear hq dd g6 e9 f7 f9;generalize b6:S0.Rs.length=rl at*
 clear b6;go_upto_region 6 with fail;have I:=bD (aH b5.heap.size b5) (.cells #[.string A,.slice ai ni ci,.int .i64 1,.int .i64 S0.clock,.slice ah nh ch,.slice ar rl cr,.int .i64 S0.dec] 40);have d:=Arr.new b5 40 [.string A,.slice ai ni ci,.int .i64 1,.int .i64 S0.clock,.slice ah nh ch,.slice ar rl cr,.int .i64 S0.dec];change Arr (b5.alloc (.cells #[.string A,.slice ai ni ci,.int .i64 1,.int .i64 S0.clock,.slice ah nh ch,.slice ar rl cr,.int .i64 S0.dec] 40)) _ _ _ at d;have U:=U.below I;have V:=V.below I;have Y:=Y.below I;have Z:=l5.below I;have a0:=aW g9 I
 have i0:w.heap.size<=b5.heap.size:=g9.size;clear I l5 g9;generalize b5.alloc (.cells #[.string A,.slice ai ni ci,.int .i64 1,.int .i64 S0.clock,.slice ah nh ch,.slice ar rl cr,.int .i64 S0.dec] 40)=s6 at*
 generalize b5.heap.size=J at*
 have e0:=d.cell (i:=0) rfl;have R:=d.cell (i:=1) rfl;have e2:=d.cell (i:=2) rfl;have e3:=d.cell (i:=3) rfl;have e4:=d.cell (i:=4) rfl;have e5:=d.cell (i:=5) rfl;have e6:=d.cell (i:=6) rfl;go_wp2_with fail;refine(d4 s6 _ ⟨_,_,_,rfl,U,V,Y⟩ Z).mono ?_;rintro a7 b7 ⟨x6,rfl,dd,ff,L⟩;obtain⟨l6,l7,l8,l9,m0,m1,m2,m3,rfl,p1,p2,p3⟩:=dd.open;generalize b6:S1.Rs.length=m4 at*
 clear b6 dd U V Y;have ht:=d.lt;have a3:=d.below L d.lt;have a8:=Z.below L;have a5:=aW a0 L;have I:=bD (aH b7.heap.size b7) (.cells #[.string ⟨#[110,97]⟩,.int .i64 0] 47);have M:=Arr.new b7 47 [.string ⟨#[110,97]⟩,.int .i64 0];change Arr (b7.alloc (.cells #[.string ⟨#[110,97]⟩,.int .i64 0] 47)) _ _ _ at M;have G:=a3.below I a3.lt;have a9:=a8.below I;have b0:=aW a5 I;have p1:=p1.below I;have p2:=p2.below I;have p3:=p3.below I;have a4:b7.heap.size≠J:=by have:=a3.lt;omega
 clear d a3 Z a8 a0 a5 I L e0 R e2 e3 e4 e5 e6;have e0:=G.cell (i:=0) rfl;have f0:=G.free 0;have R:=G.cell (i:=1) rfl;have f1:=G.free 1;have e2:=G.cell (i:=2) rfl;have f2:=G.free 2;have e3:=G.cell (i:=3) rfl;have f3:=G.free 3;have e4:=G.cell (i:=4) rfl;have f4:=G.free 4;have e5:=G.cell (i:=5) rfl;have f5:=G.free 5;have e6:=G.cell (i:=6) rfl;have f6:=G.free 6;have c4:=G.lt;go_upto_region 7 with fail;generalize b7.alloc (.cells #[.string ⟨#[110,97]⟩,.int .i64 0] 47)=m5 at*
 generalize b7.heap.size=x7 at*
 obtain⟨d,U,V,Y,a0,kk⟩:=bMt (W1:=(((((((m5.setCell ⟨J,0,none⟩ (.string A)).setCell ⟨J,1,none⟩ (.slice l6 l7 l8)).setCell ⟨J,2,none⟩ (.int .i64 1)).setCell ⟨J,3,none⟩ (.int .i64 S1.clock)).setCell ⟨J,4,none⟩ (.slice l9 m0 m1)).setCell ⟨J,5,none⟩ (.slice m2 m4 m3)).setCell ⟨J,6,none⟩ (.int .i64 S1.dec))) G p1 p2 p3 ff ht b0 i0 rfl;have Z:=a9.kept kk (by have:=hE.lt;omega) (by have:=hE.lt;omega);have M:=kk.arr M a4 a4;have d7:=a4;clear G p1 p2 p3 ff ht b0 a9 kk a4 e0 R e2 e3 e4 e5 e6 f0 f1 f2 f3 f4 f5 f6 c4 d4
 generalize (((((((m5.setCell ⟨J,0,none⟩ (.string A)).setCell ⟨J,1,none⟩ (.slice l6 l7 l8)).setCell ⟨J,2,none⟩ (.int .i64 1)).setCell ⟨J,3,none⟩ (.int .i64 S1.clock)).setCell ⟨J,4,none⟩ (.slice l9 m0 m1)).setCell ⟨J,5,none⟩ (.slice m2 m4 m3)).setCell ⟨J,6,none⟩ (.int .i64 S1.dec))=s7 at*
 have e0:=d.cell (i:=0) rfl;have R:=d.cell (i:=1) rfl;have e2:=d.cell (i:=2) rfl;have e3:=d.cell (i:=3) rfl;have e4:=d.cell (i:=4) rfl;have e5:=d.cell (i:=5) rfl;have e6:=d.cell (i:=6) rfl;go_wp2_with fail;refine(d5 s7 _ ⟨_,_,_,rfl,U,V,Y⟩ Z).mono ?_;rintro a7 b8 ⟨x8,rfl,dd,ff,L⟩;obtain⟨m6,m7,m8,m9,o0,o1,o2,o3,rfl,p1,p2,p3⟩:=dd.open;generalize b6:S2.Rs.length=o4 at*
 clear b6 dd U V Y;have ht:=d.lt;have a3:=d.below L d.lt;have a8:=Z.below L;have a5:=aW a0 L;have M:=M.below L M.lt;have I:=bD (aH b8.heap.size b8) (.cells #[.string ⟨#[110,97]⟩,.int .i64 8] 47);have O:=Arr.new b8 47 [.string ⟨#[110,97]⟩,.int .i64 8];change Arr (b8.alloc (.cells #[.string ⟨#[110,97]⟩,.int .i64 8] 47)) _ _ _ at O;have M:=M.below I M.lt;have G:=a3.below I a3.lt;have a9:=a8.below I;have b0:=aW a5 I;have p1:=p1.below I;have p2:=p2.below I;have p3:=p3.below I;have a4:b8.heap.size≠J:=by have:=a3.lt;omega
 clear d a3 Z a8 a0 a5 I L e0 R e2 e3 e4 e5 e6;have e0:=G.cell (i:=0) rfl;have f0:=G.free 0;have R:=G.cell (i:=1) rfl;have f1:=G.free 1;have e2:=G.cell (i:=2) rfl;have f2:=G.free 2;have e3:=G.cell (i:=3) rfl;have f3:=G.free 3;have e4:=G.cell (i:=4) rfl;have f4:=G.free 4;have e5:=G.cell (i:=5) rfl;have f5:=G.free 5;have e6:=G.cell (i:=6) rfl;have f6:=G.free 6;have c4:=G.lt;go_upto_region 8 with fail;generalize b8.alloc (.cells #[.string ⟨#[110,97]⟩,.int .i64 8] 47)=p0 at*
 generalize b8.heap.size=x9 at*
 obtain⟨d,U,V,Y,a0,kk⟩:=bMt (W1:=(((((((p0.setCell ⟨J,0,none⟩ (.string A)).setCell ⟨J,1,none⟩ (.slice m6 m7 m8)).setCell ⟨J,2,none⟩ (.int .i64 1)).setCell ⟨J,3,none⟩ (.int .i64 S2.clock)).setCell ⟨J,4,none⟩ (.slice m9 o0 o1)).setCell ⟨J,5,none⟩ (.slice o2 o4 o3)).setCell ⟨J,6,none⟩ (.int .i64 S2.dec))) G p1 p2 p3 ff ht b0 i0 rfl;have Z:=a9.kept kk (by have:=hE.lt;omega) (by have:=hE.lt;omega);have O:=kk.arr O a4 a4;have M:=kk.arr M d7 d7;have p4:=a4;clear G p1 p2 p3 ff ht b0 a9 kk a4 e0 R e2 e3 e4 e5 e6 f0 f1 f2 f3 f4 f5 f6 c4 d5
 generalize (((((((p0.setCell ⟨J,0,none⟩ (.string A)).setCell ⟨J,1,none⟩ (.slice m6 m7 m8)).setCell ⟨J,2,none⟩ (.int .i64 1)).setCell ⟨J,3,none⟩ (.int .i64 S2.clock)).setCell ⟨J,4,none⟩ (.slice m9 o0 o1)).setCell ⟨J,5,none⟩ (.slice o2 o4 o3)).setCell ⟨J,6,none⟩ (.int .i64 S2.dec))=s8 at*
 have e0:=d.cell (i:=0) rfl;have R:=d.cell (i:=1) rfl;have e2:=d.cell (i:=2) rfl;have e3:=d.cell (i:=3) rfl;have e4:=d.cell (i:=4) rfl;have e5:=d.cell (i:=5) rfl;have e6:=d.cell (i:=6) rfl;go_wp2_with fail;refine(d6 s8 _ ⟨_,_,_,rfl,U,V,Y⟩ Z).mono ?_;rintro a7 b9 ⟨y0,rfl,dd,ff,L⟩;obtain⟨p5,p6,p7,p8,p9,q0,q4,q5,rfl,p1,p2,p3⟩:=dd.open;generalize b6:S3.Rs.length=q6 at*
 clear b6 dd U V Y;have ht:=d.lt;have a3:=d.below L d.lt;have a8:=Z.below L;have a5:=aW a0 L;have M:=M.below L M.lt;have O:=O.below L O.lt;have I:=bD (aH b9.heap.size b9) (.cells #[.string ⟨#[]⟩,.int .i64 0] 47);have a1:=Arr.new b9 47 [.string ⟨#[]⟩,.int .i64 0];change Arr (b9.alloc (.cells #[.string ⟨#[]⟩,.int .i64 0] 47)) _ _ _ at a1;have M:=M.below I M.lt;have O:=O.below I O.lt;have G:=a3.below I a3.lt;have a9:=a8.below I;have b0:=aW a5 I;have p1:=p1.below I;have p2:=p2.below I;have p3:=p3.below I;have a4:b9.heap.size≠J:=by have:=a3.lt;omega
 clear d a3 Z a8 a0 a5 I L e0 R e2 e3 e4 e5 e6;have e0:=G.cell (i:=0) rfl;have f0:=G.free 0;have R:=G.cell (i:=1) rfl;have f1:=G.free 1;have e2:=G.cell (i:=2) rfl;have f2:=G.free 2;have e3:=G.cell (i:=3) rfl;have f3:=G.free 3;have e4:=G.cell (i:=4) rfl;have f4:=G.free 4;have e5:=G.cell (i:=5) rfl;have f5:=G.free 5;have e6:=G.cell (i:=6) rfl;have f6:=G.free 6;have c4:=G.lt;go_upto_region 9 with fail;generalize b9.alloc (.cells #[.string ⟨#[]⟩,.int .i64 0] 47)=q7 at*
 generalize b9.heap.size=y1 at*
 obtain⟨d,U,V,Y,a0,kk⟩:=bMt (W1:=(((((((q7.setCell ⟨J,0,none⟩ (.string A)).setCell ⟨J,1,none⟩ (.slice p5 p6 p7)).setCell ⟨J,2,none⟩ (.int .i64 1)).setCell ⟨J,3,none⟩ (.int .i64 S3.clock)).setCell ⟨J,4,none⟩ (.slice p8 p9 q0)).setCell ⟨J,5,none⟩ (.slice q4 q6 q5)).setCell ⟨J,6,none⟩ (.int .i64 S3.dec))) G p1 p2 p3 ff ht b0 i0 rfl;have Z:=a9.kept kk (by have:=hE.lt;omega) (by have:=hE.lt;omega);have a1:=kk.arr a1 a4 a4;have M:=kk.arr M d7 d7;have O:=kk.arr O p4 p4;have y3:=a4;clear G p1 p2 p3 ff ht b0 a9 kk a4 e0 R e2 e3 e4 e5 e6 f0 f1 f2 f3 f4 f5 f6 c4 d6
 generalize (((((((q7.setCell ⟨J,0,none⟩ (.string A)).setCell ⟨J,1,none⟩ (.slice p5 p6 p7)).setCell ⟨J,2,none⟩ (.int .i64 1)).setCell ⟨J,3,none⟩ (.int .i64 S3.clock)).setCell ⟨J,4,none⟩ (.slice p8 p9 q0)).setCell ⟨J,5,none⟩ (.slice q4 q6 q5)).setCell ⟨J,6,none⟩ (.int .i64 S3.dec))=s9 at*
 have e0:=d.cell (i:=0) rfl;have R:=d.cell (i:=1) rfl;have e2:=d.cell (i:=2) rfl;have e3:=d.cell (i:=3) rfl;have e4:=d.cell (i:=4) rfl;have e5:=d.cell (i:=5) rfl;have e6:=d.cell (i:=6) rfl;go_wp2_with fail;refine(s0 s9 _ ⟨_,_,_,rfl,U,V,Y⟩).mono ?_;rintro a7 i1 hq;obtain⟨rfl,L⟩:=hq;have I:=bD (bD (aH i1.heap.size i1) (.cells #[.string ⟨#[]⟩,.int .i64 0] 47)) (.cells #[.string ⟨#[]⟩,.slice none 0 0,.int .i64 0,.int .i64 0,.slice none 0 0,.slice none 0 0,.int .i64 0] 40);have F:=L.trans (I.mono L.size);have d:=d.below F d.lt;have M:=M.below F M.lt;have O:=O.below F O.lt
 have a1:=a1.below F a1.lt;have U:=U.below F;have V:=V.below F;have Y:=Y.below F;have Z:=Z.below F;have a0:=aW a0 F;clear I F L e0 R e2 e3 e4 e5 e6;go_upto_region 10 with fail;generalize (i1.alloc (.cells #[.string ⟨#[]⟩,.int .i64 0] 47)).alloc (.cells #[.string ⟨#[]⟩,.slice none 0 0,.int .i64 0,.int .i64 0,.slice none 0 0,.slice none 0 0,.int .i64 0] 40)=t0 at*
 have e0:=d.cell (i:=0) rfl;have R:=d.cell (i:=1) rfl;have e2:=d.cell (i:=2) rfl;have e3:=d.cell (i:=3) rfl;have e4:=d.cell (i:=4) rfl;have e5:=d.cell (i:=5) rfl;have e6:=d.cell (i:=6) rfl;go_wp2_with fail;refine(s3 t0 _ ⟨_,_,_,rfl,U,V,Y⟩).mono ?_;rintro a7 i2 hq;obtain⟨rfl,L⟩:=hq;have I:=bD (bD (aH i2.heap.size i2) (.cells #[.string ⟨#[]⟩,.int .i64 0] 47)) (.cells #[.string ⟨#[]⟩,.slice none 0 0,.int .i64 0,.int .i64 0,.slice none 0 0,.slice none 0 0,.int .i64 0] 40);have F:=L.trans (I.mono L.size);have d:=d.below F d.lt;have M:=M.below F M.lt;have O:=O.below F O.lt
 have a1:=a1.below F a1.lt;have U:=U.below F;have V:=V.below F;have Y:=Y.below F;have Z:=Z.below F;have a0:=aW a0 F;clear I F L e0 R e2 e3 e4 e5 e6;go_upto_region 11 with fail;generalize (i2.alloc (.cells #[.string ⟨#[]⟩,.int .i64 0] 47)).alloc (.cells #[.string ⟨#[]⟩,.slice none 0 0,.int .i64 0,.int .i64 0,.slice none 0 0,.slice none 0 0,.int .i64 0] 40)=t1 at*
 have e0:=d.cell (i:=0) rfl;have R:=d.cell (i:=1) rfl;have e2:=d.cell (i:=2) rfl;have e3:=d.cell (i:=3) rfl;have e4:=d.cell (i:=4) rfl;have e5:=d.cell (i:=5) rfl;have e6:=d.cell (i:=6) rfl;go_wp2_with fail;refine(r3 t1).mono ?_;rintro a7 i3 hq;obtain⟨rfl,L⟩:=hq;have I:=bD (aH i3.heap.size i3) (.cells #[.string ⟨#[]⟩,.slice none 0 0,.int .i64 0,.int .i64 0,.slice none 0 0,.slice none 0 0,.int .i64 0] 40);have F:=L.trans (I.mono L.size);have d:=d.below F d.lt;have M:=M.below F M.lt;have O:=O.below F O.lt;have a1:=a1.below F a1.lt;have U:=U.below F;have V:=V.below F;have Y:=Y.below F
 have Z:=Z.below F;have a0:=aW a0 F;clear I F L e0 R e2 e3 e4 e5 e6;go_upto_region 12 with fail;generalize i3.alloc (.cells #[.string ⟨#[]⟩,.slice none 0 0,.int .i64 0,.int .i64 0,.slice none 0 0,.slice none 0 0,.int .i64 0] 40)=t2 at*
 have e0:=d.cell (i:=0) rfl;have R:=d.cell (i:=1) rfl;have e2:=d.cell (i:=2) rfl;have e3:=d.cell (i:=3) rfl;have e4:=d.cell (i:=4) rfl;have e5:=d.cell (i:=5) rfl;have e6:=d.cell (i:=6) rfl;go_wp2_with fail;refine(j8 t2 Z).mono ?_;rintro a7 i4 hq;obtain⟨rfl,L⟩:=hq.no (by decide);have I:=bD (aH i4.heap.size i4) (.cells #[.string ⟨#[]⟩,.slice none 0 0,.int .i64 0,.int .i64 0,.slice none 0 0,.slice none 0 0,.int .i64 0] 40);have F:=L.trans (I.mono L.size);have d:=d.below F d.lt;have M:=M.below F M.lt;have O:=O.below F O.lt;have a1:=a1.below F a1.lt;have U:=U.below F;have V:=V.below F
 have Y:=Y.below F;have Z:=Z.below F;have a0:=aW a0 F;clear I F L e0 R e2 e3 e4 e5 e6;go_upto_region 13 with fail;generalize i4.alloc (.cells #[.string ⟨#[]⟩,.slice none 0 0,.int .i64 0,.int .i64 0,.slice none 0 0,.slice none 0 0,.int .i64 0] 40)=t3 at*
 have e0:=d.cell (i:=0) rfl;have R:=d.cell (i:=1) rfl;have e2:=d.cell (i:=2) rfl;have e3:=d.cell (i:=3) rfl;have e4:=d.cell (i:=4) rfl;have e5:=d.cell (i:=5) rfl;have e6:=d.cell (i:=6) rfl;go_wp2_with fail;refine(j9 t3 Z).mono ?_;rintro a7 i5 hq;obtain⟨rfl,L⟩:=hq.no (by decide);have I:=bD (aH i5.heap.size i5) (.cells #[.string ⟨#[]⟩,.slice none 0 0,.int .i64 0,.int .i64 0,.slice none 0 0,.slice none 0 0,.int .i64 0] 40);have F:=L.trans (I.mono L.size);have d:=d.below F d.lt;have M:=M.below F M.lt;have O:=O.below F O.lt;have a1:=a1.below F a1.lt;have U:=U.below F;have V:=V.below F
 have Y:=Y.below F;have Z:=Z.below F;have a0:=aW a0 F;clear I F L e0 R e2 e3 e4 e5 e6;go_upto_region 14 with fail;generalize i5.alloc (.cells #[.string ⟨#[]⟩,.slice none 0 0,.int .i64 0,.int .i64 0,.slice none 0 0,.slice none 0 0,.int .i64 0] 40)=t4 at*
 have e0:=d.cell (i:=0) rfl;have R:=d.cell (i:=1) rfl;have e2:=d.cell (i:=2) rfl;have e3:=d.cell (i:=3) rfl;have e4:=d.cell (i:=4) rfl;have e5:=d.cell (i:=5) rfl;have e6:=d.cell (i:=6) rfl;have e8:=M.cell (i:=0) rfl;have y4:=M.cell (i:=1) rfl;have y5:=O.cell (i:=0) rfl;have y6:=O.cell (i:=1) rfl;have y7:=a1.cell (i:=0) rfl;have y8:=a1.cell (i:=1) rfl;have u1:(S3.dec==(1:Int))=true:=beq_iff_eq.2 s5.out;have t5:=bPc A _ _ _ 1 S3.clock S3.dec P (byB S3.Hs) S3.Rs t4 U V Y g3.D;go_wp2_with fail;refine t5.mono ?_;rintro a7 wf ⟨rfl,L⟩;have t7:=aW a0 L;go_wp2_with fail
 refine(bSo _).mono ?_;rintro a7 wg ⟨rfl,t8⟩;have t9:=aW t7 t8;go_wp2_with fail;go_ret;exact⟨rfl,t9⟩
theorem bS6 (c n:Int) (w:World) (D: -9223372036854775808<=c) (F:c<=9223372036854775807) (G:1<=n) (I:n<=4611686018427387904):
  Calls pG 12 #[.int .i64 c,.int .i64 n] w fun e w'=>e=.returned (.int .i64 (cK c n))/\w=w':=by
 by_cases A:c<0
 ·have d:=hid (show cK c n=(-(c+1))%n from by simp[cK,A]);go_enter func12,ntmps12;go_wp2;go_ret;exact⟨eI (by rw[d.out];rw[<-Int.neg_tmod,Int.tmod_eq_emod_of_nonneg (by omega)]),rfl⟩
 ·have d:=hid (show cK c n=c%n from by simp[cK,A]);have J:0<=c:=by omega
  go_enter func12,ntmps12;go_wp2;go_ret;exact⟨eI (by rw[d.out]),rfl⟩
theorem bS7 (c:Int) {n:Int} (h:1<=n):∃k:Nat,cK c n=(k:Int)/\(k:Int)<n:=by
 have d:0<=cK c n/\cK c n<n:=by
  unfold cK;split
  ·exact⟨Int.emod_nonneg _ (by omega),bP6 _ (by omega)⟩
  ·exact⟨Int.emod_nonneg _ (by omega),bP6 _ (by omega)⟩
 exact⟨(cK c n).toNat,by omega,by omega⟩
theorem bS8 {w w':World} {g n:Nat} {v:Value} {l:lC} (h:RdR w v l) (k:bK6 w w' g n) (d:v.ownBlock≠some g\/l.flatten=[]) (e:v.ownBlock≠some n\/l.flatten=[]):RdR w' v l:=by
 rcases d with d|d
 ·rcases e with e|e
  ·exact bLp h k d e
  ·obtain⟨a,cap,rfl,A,D,-⟩:=h;exact⟨a,cap,rfl,A,D,.inl e⟩
 ·obtain⟨a,cap,rfl,A,D,-⟩:=h;exact⟨a,cap,rfl,A,D,.inl d⟩
theorem GQ.desk {a:ByteArray} (h:GQ a):(eY a.data.toList).length<=5/\jA (gU 0 (eY a.data.toList))/\(iH ((eY a.data.toList).map Prt.t)).size<=93600:=by
 obtain⟨G,d,A⟩:=h.facts;have e:eY a.data.toList=(cI a.data.toList).1:=by unfold eY;rw[aB d]
 have D:=bDj a.data.toList (eY a.data.toList).length;rw[List.take_length] at D;have F:(eY a.data.toList).length<=5:=by rw[e];exact A
 refine⟨F,by rw[e];exact bFc d,?_⟩;show(iH ((eY a.data.toList).map Prt.t)).data.toList.length<=93600;omega
end Go.Proofs.YtfckbfofgeilgaaGreatDoor
