/-
  Texts put together (part 35): the walks and the plain laws on which the statement stands.
-/
import Derived.Test.YtfplbbphficcjaaGreatDoorZ33
set_option maxRecDepth 100000
set_option maxHeartbeats 12800000
set_option linter.unusedVariables false
set_option linter.unusedSimpArgs false
open Go.Proofs.Tryz
open Go.Proofs.Tryz renaming prog->pG
open Array renaming toList_append->BD
open ByteArray renaming data_append->BC,size_append->rG
open Go renaming bodyPost_ret->fM
open Go.ByteArray renaming toList_eq->WU
open Go.Instr renaming sliceAt->vN
open Go.IntKind renaming i64->aJ,u32->sH,wrap_i64->aM,wrap_u32->uB
open Go.RowKit.Below renaming refl->aH
open List renaming drop_drop->kG,drop_zero->pI,getD_eq_getElem?_getD->bV,length_drop->bA,length_take->aQ
open Nat renaming le_of_lt->nG,le_refl->aD,reduceAdd->cV,sub_zero->sD,zero_le->aO
namespace Go.Proofs.YtfplbbphficcjaaGreatDoor
open Go.RowKit Go Go.Shelf
theorem NL (p:Nat) (t:List UInt8) (d:Bool) (m:Nat) (w:World) (h:Arr w p 100 [.string (mkS t),.bool d]) (A:m<=8) (D:m<=t.length) (F:t.length<=1000000000):
  Calls pG 51 #[.pointer (some ⟨p,0,none⟩),.int .i64 (m:Int)] w fun e w'=>e=.returned (.int .i64 (aJ.wrap (bP (t.take m):Int)))/\Arr w' p 100 [.string (mkS (t.drop m)),.bool (d||decide (9223372036854775808<=bP (t.take m)))]/\w.grownBy w' (some p):=by grind [bEh,mkS,cS,dP,Arr,bP]
theorem GL (p:Nat) (t:List UInt8) (d:Bool) (m V:Nat) (w:World) (A:Arr w p 100 [.string (mkS t),.bool d]) (G:m<=4) (D:m<=t.length) (F:t.length<=1000000000) (H:V=bP (t.take m)):
  Calls pG 51 #[.pointer (some ⟨p,0,none⟩),.int .i64 (m:Int)] w fun e w'=>e=.returned (.int .i64 (V:Int))/\Arr w' p 100 [.string (mkS (t.drop m)),.bool d]/\w.grownBy w' (some p):=by
 have h:=NL p t d m w A (by omega) D F;have I:=DD (s:=t.take m) (k:=4) (n:=4294967296) (by grind) (by decide);have J:aJ.wrap (bP (t.take m):Int)=(bP (t.take m):Int):=by rw[aM];omega
 grind
theorem yH {B g:Nat} {a W d:World} (h:Below B a W) (A:W.grownBy d (some g)) (F:B<=g) (D:B<=W.heap.size):Below B a d:=
 h.grown A D (fun k e=>by grind)
theorem aKp {e:Array Oper} {rest:List Oper} {o:Oper} {a:Act} {Q:Exit->Act->World->Prop} {w:World} (A:o.guard=none) (s x:Operand)
  (D:o.op=.call {callee:=.builtin .append,args:=#[s,x],argTypes:=#[22,22]}) (base:Nat) (v:Value) (l:lC) (hs:a.eval s=v) (hown:OwR w base 47 5 v l)
  (p:Ent) (g:Nat) (hx:a.eval x=.slice (some ⟨g,0,none⟩) 1 1) (hA:Arr w g 47 (bG p)) (hroom:(l.length+1)*40<=140737488355328) (hbase:base<=w.heap.size)
  (h:∀d w',OwR w' base 47 5 d (l++[bG p])->Below base w w'->wpList pG e Q rest (a.put o.dst d) w'):wpList pG e Q (o::rest) a w:=by
 refine wpList_plain A fun K F=>?_
 obtain⟨d,w',G,H,I,J⟩:=LS AK o.type base v l hown _ _ (RdR.one hA) (yG [p]) (Nat.succ_pos _) hroom hbase;unfold Oper.wp execOp;simp only[D,resolve,invoke,builtin,Sem.run_bind,Sem.run_pure,Result.andThen_ok,List.map_toArray,List.map_cons,List.map_nil,hs,hx,G];exact F _ _ (h d w' H I)
theorem wS {d:Func} {t u v x:Tmp} (h:d.results=#[.tmp t,.tmp u,.tmp v,.tmp x]) (tmps:Array Value) (P:Program) (w:World):
  (results d tmps).run P w=.ok (.tuple #[tmps.getD t undef,tmps.getD u undef,tmps.getD v undef,tmps.getD x undef]) w:=by
 simp[results,h]
def aKq (d:Value) (x:Int):Prop:=(d=.nilIface/\x=0)\/∃p:ByteArray,d=.iface 77 (.agg #[.string p,.iface 75 (.int .i64 x)])/\(x=2\/x=3\/x=7)
theorem GM (s:ByteArray) (w:World) (hs:s.size<=1000000):
  Calls pG 33 #[.string s] w fun e w'=>∃(v er:Value),e=.returned (.tuple #[v,.int .i64 ((dX s.data.toList).2.1:Int),.int .u32 ((dX s.data.toList).2.2.1:Int),er])/\RdR w' v ((dX s.data.toList).1.map bG)/\aKq er (dX s.data.toList).2.2.2/\Below w.heap.size w w':=by
 have J:s.data.toList.length=s.size:=rfl;obtain⟨l,hl⟩:∃l,l=s.data.toList:=⟨_,rfl⟩;have b6:=iW s 0 4;have b7:=iW s 4 s.size;rw[<-hl] at J b6 b7 ⊢;rw[List.take_of_length_le (by rw[bA,J];omega)] at b7;rw[pI,sD] at b6;obtain⟨D,hD⟩:∃D,D=dX l:=⟨_,rfl⟩;rw[<-hD];have HD:=hid hD;have F:=hid J;clear hD hl J
 by_cases q1:s.size<20
 ·obtain rfl:D=([],0,0,2):=by
   have J:=F.out;rw[HD.out];unfold dX;rw[aB (by omega)]
  have t1:decide ((s.size:Int)<20)=true:=aG (by omega);go_enter func33,ntmps33;go_wp2_with fail;refine fM (wS rfl _ _ _) rfl ?_;exact⟨_,_,rfl,RdR.nil _,.inr ⟨_,rfl,.inl rfl⟩,aH _ _⟩
 have t1:decide ((s.size:Int)<20)=false:=aE (by omega);obtain⟨H,b8⟩:∃H,H=bP ((l.drop 4).take 8):=⟨_,rfl⟩;obtain⟨A,a7⟩:∃A,A=bP ((l.drop 12).take 4):=⟨_,rfl⟩;obtain⟨d,a2⟩:∃d,d=bP ((l.drop 16).take 4):=⟨_,rfl⟩;obtain⟨G,hG⟩:∃G,G=decide (9223372036854775808<=H):=⟨_,rfl⟩;have b2:A<4294967296:=by rw[a7];exact DD (k:=4) (by rw[aQ];omega) (by decide)
 have b3:d<4294967296:=by rw[a2];exact DD (k:=4) (by rw[aQ];omega) (by decide)
 have M:=fun W h=>NL w.heap.size (l.drop 4) false 8 W h (by decide) (by rw[bA,F.out];omega) (by rw[bA,F.out];omega)
 have U:=fun W h=>GL w.heap.size (l.drop 12) G 4 A W h (by decide) (by rw[bA,F.out];omega) (by rw[bA,F.out];omega) a7
 have O:=fun W h=>GL w.heap.size (l.drop 16) G 4 d W h (by decide) (by rw[bA,F.out];omega) (by rw[bA,F.out];omega) a2
 rw[<-b8,Bool.false_or,<-hG] at M;simp only[kG,cV] at M U O;have a8:=hid (show D=if l.take 4≠[80,77,105,49]\/9223372036854775808<=H then([],0,0,3)
   else if l.length<20+26*d then([],0,0,2)
   else if 20+26*d<l.length then([],0,0,3)
   else if ¬((∀x∈jC d (l.drop 20),x.a<9223372036854775808/\x.f<9223372036854775808)/\jA (jC d (l.drop 20))) then([],0,0,3)
   else(jC d (l.drop 20),H,A,0) by
  have J:=F.out;rw[HD.out];unfold dX;rw[aA (by omega),<-b8,<-a7,<-a2])
 have e4:=hid hG;clear HD b8 a7 a2 hG;have m2:sH.wrap (A:Int)=(A:Int):=by rw[uB];omega
 have f8:(A:Int)%4294967296=(A:Int):=by omega
 have hN:=Arr.new w 100 [.string (mkS (l.drop 4)),.bool false];change Arr (w.alloc (.cells #[.string (mkS (l.drop 4)),.bool false] 100)) _ _ _ at hN;have b9:Below w.heap.size w (w.alloc (.cells #[.string (mkS (l.drop 4)),.bool false] 100)):=bD (aH _ _) _;obtain⟨p,hp⟩:∃p,p=w.heap.size:=⟨_,rfl⟩;go_enter func33,ntmps33;go_wp2_with fail;generalize w.alloc (.cells #[.string (mkS (l.drop 4)),.bool false] 100)=w0 at*
 rw[<-hp] at hN M U O b9 ⊢;have HP:=hid hp;clear hp;refine(M _ hN).mono ?_;rintro e w1 ⟨rfl,c2,a0⟩;have h1:=yH b9 a0 (aD _) (nG hN.lt);clear M a0 hN b9;go_wp2_with fail;refine(U _ c2).mono ?_;rintro e w2 ⟨rfl,c3,a1⟩;have h2:=yH h1 a1 (aD _) (nG c2.lt);clear U a1 c2 h1;go_wp2_with fail;refine(O _ c3).mono ?_;rintro e w3 ⟨rfl,a3,e5⟩;have h3:=yH h2 e5 (aD _) (nG c3.lt);clear O e5 c3 h2;have c1:=a3.cell (i:=1) rfl;have a4:∀x:List UInt8,(mkS x).toList=x:=fun x=>by rw[WU,dP]
 by_cases V:l.take 4=[80,77,105,49]
 rotate_left
 ·obtain rfl:D=([],0,0,3):=by rw[a8.out,aB (.inl V)]
  have u1:((mkS (l.take 4)).toList==[80,77,105,49])=false:=by rw[a4];exact beq_eq_false_iff_ne.2 V
  clear a4;go_wp2_with fail;refine fM (wS rfl _ _ _) rfl ?_;exact⟨_,_,rfl,RdR.nil _,.inr ⟨_,rfl,.inr (.inl rfl)⟩,by rw[<-HP.out];exact h3⟩
 have u1:((mkS (l.take 4)).toList==[80,77,105,49])=true:=by rw[a4];exact beq_iff_eq.2 V
 have HQ:=hid V;clear a4 V
 cases G with
 |true=>
  obtain rfl:D=([],0,0,3):=by rw[a8.out,aB (.inr (of_decide_eq_true e4.out.symm))]
  go_wp2_with fail;refine fM (wS rfl _ _ _) rfl ?_;exact⟨_,_,rfl,RdR.nil _,.inr ⟨_,rfl,.inr (.inl rfl)⟩,by rw[<-HP.out];exact h3⟩
 |false=>
 have hG:=of_decide_eq_false e4.out.symm;have mV:aJ.wrap (H:Int)=(H:Int):=by rw[aM];omega
 have a5:=hid (show D=if l.length<20+26*d then([],0,0,2)
   else if 20+26*d<l.length then([],0,0,3)
   else if ¬((∀x∈jC d (l.drop 20),x.a<9223372036854775808/\x.f<9223372036854775808)/\jA (jC d (l.drop 20))) then([],0,0,3)
   else(jC d (l.drop 20),H,A,0) by
  rw[a8.out,aA (by rintro(h|h)<;>first|exact h HQ.out|exact hG h)])
 have c4:(l.drop 20).length=s.size-20:=by rw[bA,F.out]
 obtain⟨K,hK⟩:∃K,K=s.size-20:=⟨_,rfl⟩;have f9:l.length=K+20:=by rw[F.out];omega
 rw[<-hK] at c4;obtain⟨T,hT⟩:∃T,T=l.drop 20:=⟨_,rfl⟩;rw[<-hT] at c4 a3 a5;have g0:K<=1000000:=by omega
 clear a8 hG hK hT;have c0:=a3.cell (i:=0) rfl;obtain⟨N,e6⟩:∃N,N=26*d:=⟨_,rfl⟩;have m3:aJ.wrap (26*(d:Int))=(N:Int):=by rw[aM];omega
 have g3:26*(d:Int)=(N:Int):=by omega
 have HN:=hid e6;clear e6
 by_cases q3:K<N
 ·obtain rfl:D=([],0,0,2):=by
   have:=HN.out;rw[a5.out,aB (by omega)]
  have u2:decide ((K:Int)<(N:Int))=true:=aG (by omega);go_wp2_with fail;refine fM (wS rfl _ _ _) rfl ?_;exact⟨_,_,rfl,RdR.nil _,.inr ⟨_,rfl,.inl rfl⟩,by rw[<-HP.out];exact h3⟩
 have u2:decide ((K:Int)<(N:Int))=false:=aE (by omega)
 by_cases q4:N<K
 ·obtain rfl:D=([],0,0,3):=by
   have:=HN.out;rw[a5.out,aA (by omega),aB (by omega)]
  have u3:decide ((K:Int)>(N:Int))=true:=aG (by omega);have f1:decide ((N:Int)<(K:Int))=true:=aG (by omega);go_wp2_with fail;refine fM (wS rfl _ _ _) rfl ?_;exact⟨_,_,rfl,RdR.nil _,.inr ⟨_,rfl,.inr (.inl rfl)⟩,by rw[<-HP.out];exact h3⟩
 have u3:decide ((K:Int)>(N:Int))=false:=aE (by omega);have f1:decide ((N:Int)<(K:Int))=false:=aE (by omega);have c5:=hid (show D=if ¬((∀x∈jC d T,x.a<9223372036854775808/\x.f<9223372036854775808)/\jA (jC d T)) then([],0,0,3) else(jC d T,H,A,0) by
  have:=HN.out;rw[a5.out,aA (by omega),aA (by omega)])
 have HT:=hid (show T.length=26*d by have:=HN.out;omega);have a2:d<=40000:=by have:=HN.out;omega
 clear a5 HN;go_wp2_with fail;clear c0 c1 b6 b7
 go_loopg [2,53] d (fun g s2 f2 wr=>∃k:Nat,k<=d/\g=d-k/\f2=.int .i64 (k:Int)/\Arr wr p 100 [.string (mkS (T.drop (26*k))),.bool (rC k T)]/\OwR wr (p+1) 47 5 s2 ((qK k T).map bG)/\Below p w wr)
 case atStart=>exact⟨0,aO _,rfl,rfl,a3,OwR.nil _ _ _ _,h3⟩
 case round=>
  obtain⟨k,hk,hg,rfl,Y,hor,a6⟩:=hrel;have HG:=hid hg;clear hg a3 h3
  by_cases g4:k<d
  ·have v1:decide ((k:Int)<(d:Int))=true:=aG (by omega);obtain⟨t,ht⟩:∃t,t=T.drop (26*k):=⟨_,rfl⟩;have a4:26<=t.length/\t.length<=1000000:=by
    have h1:=HT.out;have h2:T.length=K:=c4;rw[ht,bA];omega
   obtain⟨Z1,c6⟩:∃Z1:Int,Z1=aJ.wrap (bP (t.take 8):Int):=⟨_,rfl⟩;obtain⟨Z2,c7⟩:∃Z2:Nat,Z2=bP ((t.drop 8).take 2):=⟨_,rfl⟩;obtain⟨Z3,c8⟩:∃Z3:Int,Z3=aJ.wrap (bP ((t.drop 10).take 8):Int):=⟨_,rfl⟩;obtain⟨Z4,c9⟩:∃Z4:Nat,Z4=bP ((t.drop 18).take 4):=⟨_,rfl⟩;obtain⟨I,a9⟩:∃I:Nat,I=bP ((t.drop 22).take 4):=⟨_,rfl⟩;obtain⟨g1,a0⟩:∃g1:Bool,g1=(rC k T||decide (9223372036854775808<=bP (t.take 8))):=⟨_,rfl⟩;obtain⟨g2,a1⟩:∃g2:Bool,g2=(g1||decide (9223372036854775808<=bP ((t.drop 10).take 8))):=⟨_,rfl⟩
   have HE:=hid (show(qK (k+1) T).map bG=(qK k T).map bG++[bG ⟨Z1,(Z2:Int),Z3,(Z4:Int),(I:Int)⟩] by
    rw[aKh,List.map_append,<-ht,c6,c7,c8,c9,a9];rfl)
   have e7:=hid (show g2=rC (k+1) T by
    rw[aKi,<-ht,a1,a0,Bool.or_assoc];rfl)
   have f3:=hid (show t.drop 26=T.drop (26*(k+1)) by rw[ht,kG];rfl);have M:=fun W h=>NL p t (rC k T) 8 W h (by decide) (by omega) (by omega)
   have U:=fun W h=>GL p (t.drop 8) g1 2 Z2 W h (by decide) (by rw[bA];omega) (by rw[bA];omega) c7
   have O:=fun W h=>NL p (t.drop 10) g1 8 W h (by decide) (by rw[bA];omega) (by rw[bA];omega)
   have d0:=fun W h=>GL p (t.drop 18) g2 4 Z4 W h (by decide) (by rw[bA];omega) (by rw[bA];omega) c9
   have b0:=fun W h=>GL p (t.drop 22) g2 4 I W h (by decide) (by rw[bA];omega) (by rw[bA];omega) a9
   have b5:I<4294967296:=by rw[a9];exact DD (k:=4) (by rw[aQ];omega) (by decide)
   rw[<-c6,<-a0] at M;rw[<-c8,<-a1] at O;simp only[kG,cV] at U O d0 b0;rw[f3.out,e7.out] at b0;rw[<-ht] at Y;have f4:((qK k T).map bG).length<=40000:=by rw[List.length_map,VZ];omega
   obtain⟨L,J⟩:∃L,L=(qK k T).map bG:=⟨_,rfl⟩;rw[<-J] at HE hor f4;have m5:sH.wrap (I:Int)=(I:Int):=by rw[uB];omega
   have g5:(I:Int)%4294967296=(I:Int):=by omega
   clear ht c6 c7 c8 c9 a9 a0 a1 J;go_wp2_with fail;refine(M _ Y).mono ?_;rintro e w4 ⟨rfl,d1,d2⟩;have h4:=yH a6 d2 (aD _) (nG Y.lt);have d3:=hor.kept d2 (.inr (fun e=>absurd (hor.lt _ e).1 (by omega)));clear M Y d2 a6 hor;go_wp2_with fail;refine(U _ d1).mono ?_;rintro e w5 ⟨rfl,d4,d5⟩;have h5:=yH h4 d5 (aD _) (nG d1.lt);have d6:=d3.kept d5 (.inr (fun e=>absurd (d3.lt _ e).1 (by omega)));clear U d1 d5 h4 d3;go_wp2_with fail;refine(O _ d4).mono ?_;rintro e w6 ⟨rfl,d7,d8⟩;have h6:=yH h5 d8 (aD _) (nG d4.lt)
   have d9:=d6.kept d8 (.inr (fun e=>absurd (d6.lt _ e).1 (by omega)));clear O d4 d8 h5 d6;go_wp2_with fail;refine(d0 _ d7).mono ?_;rintro e w7 ⟨rfl,b1,e0⟩;have h7:=yH h6 e0 (aD _) (nG d7.lt);have e1:=d9.kept e0 (.inr (fun e=>absurd (d9.lt _ e).1 (by omega)));clear d0 d7 e0 h6 d9;rw[e7.out] at b1;go_wp2_with fail;refine(b0 _ b1).mono ?_;rintro e w8 ⟨rfl,e8,e2⟩;have h8:=yH h7 e2 (aD _) (nG b1.lt);have f5:=e1.kept e2 (.inr (fun e=>absurd (e1.lt _ e).1 (by omega)));have f6:=e8.lt;clear b0 b1 e2 h7 e1
   go_wp2_with (at_builtin;refine aKp rfl _ _ rfl (p+1) _ _ rfl (OwR.alloc f5 _) ⟨Z1,(Z2:Int),Z3,(Z4:Int),(I:Int)⟩ w8.heap.size rfl (Arr.new w8 _ _) ?_ ?_ ?_;(omega);(simp;omega);intro v' w9 q1 V);have hg:=HG.out
   go_roundg (d-(k+1))
   case measure=>omega
   case rel=>exact⟨k+1,by omega,rfl,by go_num,(e8.alloc _).below V (Nat.lt_succ_self _),by rw[HE.out];exact q1,(h8.alloc (nG f6) _).trans (V.mono (Nat.le_succ _))⟩
  ·have v1:decide ((k:Int)<(d:Int))=false:=aE (by omega);obtain rfl:k=d:=by omega
   have c1:=Y.cell (i:=1) rfl;have e9:=Y.lt;have f0:(qK k T).length<=1000000:=by rw[VZ];omega
   cases Z:rC k T with
   |true=>
    rw[Z] at c1;obtain rfl:D=([],0,0,3):=by
     rw[c5.out,aB (fun h=>by rw[(WA k T).2 h.1] at Z;exact absurd Z (by decide))]
    clear Z Y;go_wp2_with fail;refine fM (wS rfl _ _ _) rfl ?_;exact⟨_,_,rfl,RdR.nil _,.inr ⟨_,rfl,.inr (.inl rfl)⟩,by rw[<-HP.out];exact a6⟩
   |false=>
    rw[Z] at c1;have e3:=(WA k T).1 Z;have hr:=OwR.rd hor;rw[aKk k T Z] at hr f0;clear Z Y hor;have b4:=DB u2 _ wr hr f0
    by_cases hR:jA (jC k T)
    ·rw[aG hR] at b4;obtain rfl:D=(jC k T,H,A,0):=by rw[c5.out,aA (fun h=>h ⟨e3,hR⟩)]
     clear e3 hR;go_wp2_with fail;refine b4.mono ?_;rintro e w4 ⟨rfl,h4⟩;have f7:=hr.below h4;have h5:Below p w w4:=a6.trans (h4.mono (nG e9));go_wp2_with fail;refine fM (wS rfl _ _ _) rfl ?_;exact⟨_,_,rfl,f7,.inl ⟨rfl,rfl⟩,by rw[<-HP.out];exact h5⟩
    ·rw[aE hR] at b4;obtain rfl:D=([],0,0,3):=by rw[c5.out,aB (fun h=>hR h.2)]
     clear e3 hR;go_wp2_with fail;refine b4.mono ?_;rintro e w4 ⟨rfl,h4⟩;have h5:Below p w w4:=a6.trans (h4.mono (nG e9));go_wp2_with fail;refine fM (wS rfl _ _ _) rfl ?_;exact⟨_,_,rfl,RdR.nil _,.inr ⟨_,rfl,.inr (.inl rfl)⟩,by rw[<-HP.out];exact h5⟩
theorem bE7 (d:Value) (x:Int) (w:World) (h:aKq d x):
  Calls pG 34 #[d] w fun e w'=>e=.returned (.int .i64 x)/\Below w.heap.size w w':=by
 rcases h with⟨rfl,rfl⟩|⟨p,rfl,A⟩
 ·exact(bE6 w).mono fun e w' h=>⟨h.1,by rw[h.2];exact aH _ _⟩
 ·exact GN p x w A
theorem bE8 (s:ByteArray) (w:World) (F:s.size<=1000000):
  Calls pG 14 #[.string s] w fun e w'=>∃v,e=.returned (.tuple #[v,.int .i64 ((dX s.data.toList).2.1:Int),.int .u32 ((dX s.data.toList).2.2.1:Int),.int .i64 (dX s.data.toList).2.2.2])/\RdR w' v ((dX s.data.toList).1.map bG)/\Below w.heap.size w w':=by
 have d:=GM s w F;obtain⟨⟨l,n,c,x⟩,h⟩:∃D,D=dX s.data.toList:=⟨_,rfl⟩;rw[<-h] at d ⊢;dsimp only at d ⊢;clear h;go_enter func14,ntmps14;go_wp2_with fail;refine d.mono ?_;rintro e M ⟨v,G,rfl,H,I,J⟩;go_wp2_with fail;refine(bE7 G x _ I).mono ?_;rintro e O ⟨rfl,A⟩;have L:=H.below A;go_wp2_with fail;refine fM (wS rfl _ _ _) rfl ?_;exact⟨_,rfl,L,aW J A⟩
theorem bE9 (a b:Option Addr) (c d:Nat) (w:World):
  Calls pG 38 #[.slice a 0 c,.slice b 0 d] w fun e w'=>e=.returned (.bool true)/\w'=w:=by
 go_enter func38,ntmps38;go_wp2_with fail;refine wp_loop_rounds 1 ?_;rw[rounds_succ];go_wp2_with fail;go_ret;exact⟨rfl,rfl⟩
theorem WC (a s:ByteArray) (w:World) (F:s.size<=1000000) (d:(dX s.data.toList).2.2.2≠0):
  Calls pG 17 #[.string a,.string s] w fun e w'=>e=.returned (.tuple #[.slice none 0 0,.int .i64 (dX s.data.toList).2.2.2])/\Below w.heap.size w w':=by
 have h:=GM s w F;obtain⟨⟨l,n,c,x⟩,A⟩:∃D,D=dX s.data.toList:=⟨_,rfl⟩;rw[<-A] at h d ⊢;dsimp only at h d ⊢;clear A;go_enter func17,ntmps17;go_wp2_with fail;refine h.mono ?_;rintro e M ⟨v,O,rfl,-,G,H⟩;rcases G with⟨-,I⟩|⟨p,rfl,J⟩
 ·exact absurd I d
 have T:∀w,(binOp .eql 68 (.iface 77 (.agg #[.string p,.iface 75 (.int .i64 x)])) .nilIface).run pG w=.ok (.bool false) w:=fun w=>by kernel_rfl
 have U:∀w,(binOp .neq 68 (.iface 77 (.agg #[.string p,.iface 75 (.int .i64 x)])) .nilIface).run pG w=.ok (.bool true) w:=fun w=>by kernel_rfl
 go_wp2_with fail;refine(GN p x _ J).mono ?_;rintro e V ⟨rfl,L⟩;go_wp2_with fail
 go_ret2
 exact⟨rfl,aW H L⟩
theorem bFa (a s:ByteArray) (w:World) (G:s.size<=1000000) (d:(dX s.data.toList).2.2.2=0) (h:(dX s.data.toList).2.1≠a.size):
  Calls pG 17 #[.string a,.string s] w fun e w'=>e=.returned (.tuple #[.slice none 0 0,.int .i64 7])/\Below w.heap.size w w':=by
 have A:=GM s w G;obtain⟨⟨l,n,c,x⟩,F⟩:∃D,D=dX s.data.toList:=⟨_,rfl⟩;rw[<-F] at A d h;dsimp only at A d h;subst d;clear F;have L:((n:Int)==(a.size:Int))=false:=beq_eq_false_iff_ne.2 (by omega);have M:(n==a.size)=false:=beq_eq_false_iff_ne.2 h;go_enter func17,ntmps17;go_wp2_with fail;refine A.mono ?_;rintro e O ⟨v,T,rfl,-,H,I⟩;rcases H with⟨rfl,-⟩|⟨p,-,U⟩
 rotate_left
 ·omega
 have V:∀w,(binOp .eql 68 .nilIface .nilIface).run pG w=.ok (.bool true) w:=fun w=>by kernel_rfl
 have Y:∀w,(binOp .neq 68 (.iface 77 (.agg #[.string ⟨#[97,114,99,104,105,118,101]⟩,.iface 75 (.int .i64 7)])) .nilIface).run pG w=.ok (.bool true) w:=fun w=>by kernel_rfl
 go_wp2_with fail;refine(GN _ 7 _ (.inr (.inr rfl))).mono ?_;rintro e Z ⟨rfl,J⟩;go_wp2_with fail
 go_ret2
 exact⟨rfl,aW I J⟩
theorem bFb (a s:ByteArray) (w:World) (G:dU w) (Y:s.size<=1000000) (Z:a.size<=120000) (H:dX s.data.toList=([],a.size,(cH a.data.toList).toNat,0)) (D:cI a.data.toList=([],0)):
  Calls pG 17 #[.string a,.string s] w fun e w'=>∃b c,e=.returned (.tuple #[.slice b 0 c,.int .i64 0])/\Below w.heap.size w w':=by
 have d:=GM s w Y;rw[H] at d;dsimp only at d;have F:=fun W=>zQ a W (by omega)
 have A:=fun W h=>GK a W h Z
 have I:eY a.data.toList=[]:=by unfold eY;rw[D];rfl
 rw[I,D] at A;have A:∀W,dU W->Calls pG 37 #[.string a] W fun e w'=>∃v,e=.returned (.tuple #[v,.int .i64 0])/\RdR w' v (([]:List Ent).map bG)/\Below W.heap.size W w':=A
 obtain⟨C,J⟩:∃C,C=(cH a.data.toList).toNat:=⟨_,rfl⟩;rw[<-J] at d F;clear J H D I;go_enter func17,ntmps17;go_wp2_with fail;refine d.mono ?_;rintro e w1 ⟨v,er,rfl,L,a0,M⟩;rcases a0 with⟨rfl,-⟩|⟨p,-,a3⟩
 rotate_left
 ·omega
 obtain⟨a1,c1,rfl,-⟩:=nS L;have O:=G.below M;have n3:∀w,(binOp .eql 68 .nilIface .nilIface).run pG w=.ok (.bool true) w:=fun w=>by kernel_rfl
 have n4:∀w,(binOp .neq 68 .nilIface .nilIface).run pG w=.ok (.bool false) w:=fun w=>by kernel_rfl
 clear d L G;go_wp2_with fail;refine(F _).mono ?_;rintro e w2 ⟨rfl,T⟩;have U:=O.below T;clear F O;go_wp2_with fail;refine(A _ U).mono ?_;rintro e w3 ⟨u,rfl,V,h3⟩;obtain⟨a2,c2,rfl,-⟩:=nS V;clear A U V;go_wp2_with fail;refine(bE9 a2 a1 c2 c1 _).mono ?_;rintro e w4 ⟨rfl,rfl⟩;go_wp2_with fail
 go_ret2
 exact⟨_,_,rfl,aW (aW M T) h3⟩
def aK6:ByteArray:=⟨#[80,77,107,49,23,114,69,56,80,144,0,0,0,0]⟩
theorem bF7:cI aK6.data.toList=([],0):=by kernel_rfl
def WG:Ent:=⟨0,0,0,0,0⟩
theorem bF8:¬jA [WG]:=fun h=>absurd h.1.2.1 (by decide)
theorem aK7:jA []:=trivial
theorem bHp (w:World) (hE:dU w):Calls pG 4 #[] w fun e w'=>e=.returned (.bool true)/\Below w.heap.size w w':=by
 obtain⟨A,G⟩:∃A,A=aK6:=⟨_,rfl⟩;have b5:A.size=14:=by rw[G];rfl
 have b1:cI A.data.toList=([],0):=by rw[G];exact bF7
 have HA:=hid (show(⟨#[80,77,107,49,23,114,69,56,80,144,0,0,0,0]⟩:ByteArray)=A by rw[G];rfl);obtain⟨C,F⟩:∃C,C=(cH A.data.toList).toNat:=⟨_,rfl⟩;have b2:C<4294967296:=by rw[F];exact BitVec.isLt _
 obtain⟨S,d⟩:∃S,S=oM A.size C []:=⟨_,rfl⟩;have a0:S.length=20:=by rw[d,VU];rfl
 have D:=aJ6 (size:=A.size) (sum:=C) (l:=[]) (by omega) b2 (by decide) (fun x h=>(nomatch h)) aK7;have H:=bEa (size:=A.size) (sum:=C) (l:=[]) (by omega) (by decide) (m:=[120]) (by decide);have I:=fun W=>bF5 A (.slice none 0 0) [] W (RdR.nil W) (by omega) (by decide) aK7 (fun x h=>(nomatch h))
 rw[<-F,<-d] at I;rw[<-d] at D H;have J:=fun W=>bE8 (mkS S) W (by rw[cS];omega)
 rw[dP,D] at J;have a1:=fun W=>zQ A W (by omega)
 rw[<-F] at a1;have M:=fun W h=>bFb A (mkS S) W h (by rw[cS];omega) (by omega) (by rw[dP,D,F]) b1
 have O:=fun W=>bFa (A++A) (mkS S) W (by rw[cS];omega) (by rw[dP,D]) (by rw[dP,D,rG];show A.size≠_;omega)
 have U:=fun W=>WC A ⟨#[]⟩ W (by decide) (by decide)
 have L:=fun W=>WC A (mkS S++⟨#[120]⟩) W (by rw[rG,cS];show S.length+1<=_;omega) (by rw[BC,BD,dP];show(dX (S++[120])).2.2.2≠0;rw[H];decide)
 have ex:(dX (mkS S++⟨#[120]⟩).data.toList).2.2.2=3:=by rw[BC,BD,dP];exact H
 rw[ex] at L;have ee:(dX (⟨#[]⟩:ByteArray).data.toList).2.2.2=2:=rfl;rw[ee] at U;have a2:=fun(W:World)=>bF6 A (.slice (some ⟨W.heap.size,0,none⟩) 1 1) [WG] (W.alloc (.cells #[.int .i64 0,.int .i64 0,.int .i64 0,.int .i64 0,.int .u32 0] 47)) (RdR.one (Arr.new W 47 (bG WG))) (by decide) bF8
 have V:=iW (mkS S) 0 4;rw[dP,pI,sD,d] at V;have Y:=(VW A.size C [] []).1;rw[List.append_nil] at Y;rw[Y,<-d] at V;have b6:((mkS [80,77,105,49]).toList==[80,77,105,49])=true:=by rw[WU,dP];decide
 have b3:(mkS S).size=20:=by rw[cS];exact a0
 obtain⟨T,hT⟩:∃T,T=mkS S:=⟨_,rfl⟩;rw[<-hT] at I J M O L V b3;clear D H Y d a0 ex ee G hT F;go_enter func4,ntmps4;go_wp2_with fail;rw[HA.out];refine(I _).mono ?_;rintro e w1 ⟨rfl,Z⟩;have a3:=hE.below Z;clear I hE;go_wp2_with fail;refine(M _ a3).mono ?_;rintro e w2 ⟨lb,lc,rfl,h2⟩;have a4:=aW Z h2;clear M a3 Z h2;go_wp2_with fail;refine(O _).mono ?_;rintro e w3 ⟨rfl,h3⟩;have a5:=aW a4 h3;clear O a4 h3;go_wp2_with fail;refine(U _).mono ?_;rintro e w4 ⟨rfl,h4⟩;have a6:=aW a5 h4;clear U a5 h4;go_wp2_with fail;refine(L _).mono ?_;rintro e w5 ⟨rfl,h5⟩;have a8:=aW a6 h5;clear L a6 h5
 go_wp2_with fail;refine(a2 _).mono ?_;rintro e w6 ⟨rfl,h6⟩;have a9:=aW (bD a8 _) h6;clear a2 a8 h6;go_wp2_with fail;refine(J _).mono ?_;rintro e w7 ⟨v7,rfl,b0,h7⟩;obtain⟨a7,c7,rfl,-⟩:=nS b0;have b4:=aW a9 h7;clear J a9 h7 b0;go_wp2_with fail;refine(a1 _).mono ?_;rintro e w8 ⟨rfl,h8⟩;go_wp2_with fail;go_ret;exact⟨rfl,aW b4 h8⟩
theorem RdP.nil (w:World):RdP w (.slice none 0 0) []:=by grind [RdP]
theorem WfP.nil:WfP []:=by intro p d;simp at d
theorem aKw (c:Int) (h: -9223372036854775808<=c) (A:c<=9223372036854775807):∃q R:Nat,1<=R/\R<=9/\aJ.wrap (1+(q:Int))=(R:Int)/\1+(q:Int)=(R:Int)/\∀W,Calls pG 20 #[.int .i64 c,.int .i64 9] W fun e w'=>e=.returned (.int .i64 (q:Int))/\W=w':=by
 obtain⟨d,D⟩:=lN c 9 (by decide);obtain⟨q,F⟩:∃q:Nat,cK c 9=(q:Int):=⟨_,(Int.toNat_of_nonneg d).symm⟩;refine⟨q,1+q,by omega,by omega,by rw[show 1+(q:Int)=((1+q:Nat):Int) by push_cast;rfl];exact lE _ (by omega),by push_cast;rfl,fun W=>?_⟩
 grind [VE]
theorem WD (o:Int) (k:Nat) (e:2<=k) (D: -9223372036854775808<=o) (F:o<=9223372036854775807): -9223372036854775808<=o.tdiv (k:Int)/\o.tdiv (k:Int)<=9223372036854775807/\aJ.wrap (o.tdiv (k:Int))=o.tdiv (k:Int):=by
 have h:=Int.natAbs_tdiv o (k:Int);rw[Int.natAbs_natCast] at h;have A:o.natAbs.div k<=o.natAbs/2:=Nat.div_le_div_left e (by decide);rw[<-h] at A;have d: -9223372036854775808<=o.tdiv (k:Int)/\o.tdiv (k:Int)<=9223372036854775807:=by omega
 refine⟨d.1,d.2,?_⟩;rw[aM];omega
theorem bFf {w:World} {v:Value} {x:List ByteArray} (h:RdT w v x) (k:Nat) (O:k<=x.length):
  ∃A,(∀W,(vN 40 v none (some (.int .i64 (k:Int))) none).run pG W=.ok A W)/\RdT w A (x.take k):=by
 obtain⟨a,cap,rfl,T,H,d⟩:=h;have I:(x.take k).length=k:=by rw[aQ];omega
 have e:oI (x.take k)=(oI x).take k:=by unfold oI;rw[List.map_take]
 refine⟨.slice a k cap,fun W=>?_,a,cap,by rw[I],by omega,H,?_⟩
 ·have D:k<=cap:=by omega
  cases a with
  |none=>simp[go_sem,D]
  |some p=>
   by_cases U:cap=0
   ·obtain rfl:k=0:=by omega
    simp[go_sem]
   ·simp[go_sem,D]
 ·rcases d with d|⟨b,off,J,L,M⟩
  ·exact .inl (by rw[e,d,List.take_nil])
  ·refine .inr ⟨b,off,J,L,fun j F=>?_⟩;rw[e] at F ⊢;have G:j<k/\j<(oI x).length:=by rw[aQ] at F;omega
   rw[M j G.2,bV,bV,List.getElem?_take,aB G.1]
theorem bFg {w:World} {v:Value} {x:List ByteArray} (h:RdT w v x) (k:Nat) (G:k<=x.length):
  ∃H,(∀W,(vN 40 v (some (.int .i64 (k:Int))) none none).run pG W=.ok H W)/\RdT w H (x.drop k):=by
 obtain⟨a,cap,rfl,Y,L,d⟩:=h;have I:(x.drop k).length=x.length-k:=bA ..;have e:oI (x.drop k)=(oI x).drop k:=by unfold oI;rw[List.map_drop]
 by_cases A:cap=k
 ·have M:x.length=k:=by omega
  have D:x.drop k=[]:=List.drop_of_length_le (by omega);refine⟨.slice a 0 0,fun W=>?_,a,0,by rw[D];rfl,by rw[D];exact aD _,by simp[maxLen],.inl (by rw[D];rfl)⟩
  cases a<;>simp[go_sem,A,M]
 ·cases a with
  |none=>
   have O:x=[]:=by
    rcases d with d|⟨b,off,F,-,-⟩
    ·exact List.map_eq_nil_iff.1 d
    ·cases F
   subst O;obtain rfl:k=0:=by simpa using G
   exact⟨.slice none 0 cap,fun W=>by simp[go_sem],none,cap,rfl,aO _,L,.inl rfl⟩
  |some p=>
   refine⟨.slice (some (p.add k)) (x.length-k) (cap-k),fun W=>?_,some (p.add k),cap-k,by rw[I],by rw[I];omega,by omega,?_⟩
   ·have Z:(k:Int)<=(x.length:Int):=by omega
    by_cases T:k=0
    ·subst T;simp[go_sem,A]
    ·simp[go_sem,G,A]
   ·rcases d with d|⟨b,off,F,U,V⟩
    ·exact .inl (by rw[e,d,List.drop_nil])
    ·cases F
     refine .inr ⟨b,off+k,by simp[Addr.add],U,fun j J=>?_⟩;rw[e] at J ⊢;rw[bA] at J;rw[Nat.add_assoc,V (k+j) (by omega),bV,bV,List.getElem?_drop]
end Go.Proofs.YtfplbbphficcjaaGreatDoor
