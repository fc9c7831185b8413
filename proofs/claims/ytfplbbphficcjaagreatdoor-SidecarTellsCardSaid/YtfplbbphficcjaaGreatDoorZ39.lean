/-
  Texts put together (part 39): the walks and the plain laws on which the statement stands.
-/
import Derived.Test.YtfplbbphficcjaaGreatDoorZ37
import Derived.Test.YtfplbbphficcjaaGreatDoorZ38
set_option maxRecDepth 100000
set_option maxHeartbeats 12800000
set_option linter.unusedVariables false
set_option linter.unusedSimpArgs false
open Go.Proofs.Tryz
open Go.Proofs.Tryz renaming prog->pG
open ByteArray renaming size_extract->aL6
open Go renaming bodyPost_ret->fM,wp_region_held_drew->rF
open Go.Act renaming eval->lL,put->bJ
open Go.Instr renaming sliceAt->vN
open Go.IntKind renaming i64->aJ
open Go.RowKit.Below renaming refl->aH
open Go.World renaming ownsRow->nV
open Int renaming toNat_of_nonneg->rI
open List renaming flatten_cons->kW,getD_eq_getElem?_getD->bV,getElem?_cons_succ->gH,getElem?_cons_zero->gB,getElem?_eq_some_iff->eF,getElem?_take->pD,getElem?_toArray->gA,length_append->aL,length_cons->aU,length_drop->bA,length_map->aS,length_nil->aV,length_set->nW,length_take->aQ,map_append->dY,map_cons->kI,mem_append->dK,mem_singleton->cP,setIfInBounds_toArray->bK,set_cons_succ->bB,set_cons_zero->bH,size_toArray->dB,take_take->XS
open Nat renaming le_refl->aD,reduceAdd->cV,reduceSub->dC,zero_le->aO
namespace Go.Proofs.YtfplbbphficcjaaGreatDoor
open Go.RowKit Go Go.Shelf
def Trn (w w':World) (n:Nat) (e:Ending):Prop:=∃u m,e=.returned u/\RdR w' u (m.map bG)/\m.length<=n+1/\WfE m/\Below w.heap.size w w'
theorem WE:∀(l:List Ent) (k:Nat),((l.take k).map bG).flatten=((l.map bG).flatten).take (k*5)
 |[],k=>by simp
 |y::l,0=>by simp
 |y::l,k+1=>by
  have e:(bG y).length=5:=rfl;rw[List.take_succ_cons,kI,kI,kW,kW,WE l k,List.take_append,e,List.take_of_length_le (l:=bG y) (by rw[e];omega),show(k+1)*5-5=k*5 by omega]
theorem aK0:∀(l:List Ent) (k:Nat),((l.drop k).map bG).flatten=((l.map bG).flatten).drop (k*5)
 |[],k=>by simp
 |y::l,0=>by simp
 |y::l,k+1=>by
  have e:(bG y).length=5:=rfl;rw[List.drop_succ_cons,kI,kW,aK0 l k,List.drop_append,e,List.drop_of_length_le (l:=bG y) (by rw[e];omega),List.nil_append,show(k+1)*5-5=k*5 by omega]
theorem WF {w:World} {B g cap:Nat} {l:List Ent} (h:OwR w B 47 5 (.slice (some ⟨g,0,none⟩) l.length cap) (l.map bG)) (j:Nat) (d:j<l.length*5):w.cell? ⟨g,j,none⟩=((l.map bG).flatten)[j]? :=by
 unfold OwR at h;rw[aS] at h;exact nV.cellAt h j d
theorem DE (l:List Ent):((l.map bG).flatten).length=l.length*5:=by grind [FE,yG,bG]
theorem bFq {w:World} {B g cap:Nat} {l:List Ent} (h:OwR w B 47 5 (.slice (some ⟨g,0,none⟩) l.length cap) (l.map bG)) (k:Nat) (e:k<=l.length) (A:l.length<=1000):RdR w (.slice (some ⟨g,0,none⟩) k k) ((l.take k).map bG):=by
 have d:=(OwR.lt h g rfl).2;refine⟨_,k,by grind,by grind,by unfold maxLen;omega,.inr ⟨g,0,rfl,d,fun j D=>?_⟩⟩
 grind [WE,DE,WF,OwR,bG,RdR]
theorem bFr {w:World} {B g cap:Nat} {l:List Ent} (h:OwR w B 47 5 (.slice (some ⟨g,0,none⟩) l.length cap) (l.map bG)) (k:Nat) (e:k<=l.length) (A:l.length<=cap) (D:cap<=9223372036854775807):RdR w (.slice (some ⟨g,k*5,none⟩) (l.length-k) (cap-k)) ((l.drop k).map bG):=by
 have d:=(OwR.lt h g rfl).2;refine⟨_,cap-k,by simp,by grind,by unfold maxLen;omega,.inr ⟨g,k*5,rfl,d,fun j F=>?_⟩⟩
 grind [aK0,DE,WF,OwR,bG,RdR]
theorem bFs (g n cap k:Nat) (h:k<=n) (A:n<=cap) (W:World):(vN 22 (.slice (some ⟨g,0,none⟩) n cap) none (some (.int .i64 (k:Int))) (some (.int .i64 (k:Int)))).run pG W=.ok (.slice (some ⟨g,0,none⟩) k k) W:=by
 have e:k<=cap:=by omega
 by_cases d:k=0
 ·subst d;simp[go_sem]
 ·simp[go_sem,e,d]
theorem aK1 (g n cap k:Nat) (d:k<=n) (A:n<=cap) (e:cap≠k) (h:k≠0) (W:World):(vN 22 (.slice (some ⟨g,0,none⟩) n cap) (some (.int .i64 (k:Int))) none none).run pG W=.ok (.slice (some ⟨g,k*5,none⟩) (n-k) (cap-k)) W:=by
 simp[go_sem,d,e,h]
theorem bFt (g n:Nat) (W:World):(vN 22 (.slice (some ⟨g,0,none⟩) n n) (some (.int .i64 (n:Int))) none none).run pG W=.ok (.slice (some ⟨g,0,none⟩) 0 0) W:=by
 simp[go_sem]
theorem bFu {d:Array Oper} {rest:List Oper} {o:Oper} {a:Act} {Q:Exit->Act->World->Prop} {w:World} (e:o.guard=none) (s x:Operand)
  (A:o.op=.call {callee:=.builtin .append,args:=#[s,x],argTypes:=#[22,22]}) (v sv v':Value) (w':World) (hs:a.eval s=v) (hx:a.eval x=sv)
  (hr:(Builtin.append_ #[22,22] o.type #[v,sv]).run pG w=.ok v' w') (h:wpList pG d Q rest (a.put o.dst v') w'):wpList pG d Q (o::rest) a w:=by
 refine wpList_plain e fun K D=>?_
 unfold Oper.wp execOp;simp only[A,resolve,invoke,builtin,Sem.run_bind,Sem.run_pure,Result.andThen_ok,List.map_toArray,kI,List.map_nil,hs,hx,hr];exact D _ _ h
theorem bHm (v:Value) (l:List Ent) (which x:Int) (w:World) (hr:RdR w v (l.map bG)) (hl:l.length<=1000) (hw:WfE l) (b4: -9223372036854775808<=which) (b5:which<=9223372036854775807) (U: -9223372036854775808<=x) (V:x<=9223372036854775807):
  Calls pG 8 #[v,.int .i64 which,.int .i64 x] w fun e w'=>Trn w w' l.length e:=by
 unfold Trn
 by_cases h0:l.length=0
 ·obtain rfl:l=[]:=List.eq_nil_of_length_eq_zero h0;obtain⟨a,ca,rfl,-⟩:=nS hr;have c6:=fun ty W=>aKy none 0 0 (aD _) a ca ty W
  go_enter func8,ntmps8;go_wp2_with (at_builtin;refine bFu rfl _ _ rfl _ _ _ _ rfl rfl (c6 _ _) ?_);go_ret;exact⟨_,[],rfl,RdR.nil _,aO _,fun y Y=>(nomatch Y),aH _ _⟩
 obtain⟨C,hC⟩:∃C,C=which.tdiv 8:=⟨_,rfl⟩;have Z:=WD which 8 (by decide) b4 b5;rw[show((8:Nat):Int)=8 from rfl,<-hC] at Z;have b6: -9223372036854775808<=C/\C<=9223372036854775807:=⟨Z.1,Z.2.1⟩;have mC:=Z.2.2;clear Z;have c7:=hC.symm;clear hC;obtain⟨g1,g2⟩:=lN C (l.length:Int) (by omega);have a6:=fun W=>AL C (l.length:Int) W b6.1 b6.2 (by omega) (by omega)
 obtain⟨k,hk⟩:∃k:Nat,cK C (l.length:Int)=(k:Int):=⟨_,(rI g1).symm⟩;rw[hk] at a6 g2;have c8:k<l.length:=by omega
 obtain⟨g3,g4⟩:=lN which 8 (by decide);have a7:=fun W=>AL which 8 W b4 b5 (by decide) (by decide)
 obtain⟨j,L⟩:∃j:Nat,cK which 8=(j:Int):=⟨_,(rI g3).symm⟩;rw[L] at a7 g4;obtain⟨g5,g6⟩:=lN x 1000 (by decide);have b7:=fun W=>AL x 1000 W U V (by decide) (by decide)
 obtain⟨X,hX⟩:∃X:Nat,cK x 1000=(X:Int):=⟨_,(rI g5).symm⟩;rw[hX] at b7 g6;have mX:IntKind.u32.wrap (X:Int)=(X:Int):=by rw[IntKind.wrap_u32];omega
 have c9:(0:Int)<=(X:Int)/\(X:Int)<4294967296:=by omega
 have d6:(X:Int)%4294967296=(X:Int):=by omega
 obtain⟨y,Y⟩:∃y,l[k]? =some y:=⟨_,List.getElem?_eq_getElem c8⟩;have A:=hw y (List.mem_of_getElem? Y);have d0:0<l.length:=by omega
 have t0:((l.length:Int)==0)=false:=beq_eq_false_iff_ne.2 (by omega);have d7:(l.length==0)=false:=beq_eq_false_iff_ne.2 h0;have H:=hid hw;have M:=hid Y;clear hk L hX g1 g3 g5 hw Y h0;obtain⟨a,ca,rfl,-⟩:=nS hr;go_enter func8,ntmps8;go_wp2_with (at_builtin;refine bFp rfl _ _ rfl rfl _ rfl l hr d0 hl ?_;intro g cap I D G);refine(a6 _).mono ?_;rintro e w' ⟨rfl,rfl⟩;clear a6 mC c7;go_wp2_with fail;refine(a7 _).mono ?_;rintro e w' ⟨rfl,rfl⟩;clear a7;have O:=fun i u (hi:(bG y)[i]? =some u)=>by
  have q:=D;unfold OwR at q;rw[aS] at q;have d8:i<5:=(eF.1 hi).1;have d1:=FF (yG l) k i (bG y) u (by rw[List.getElem?_map,M.out];rfl) hi;have:=nV.cellAt q (k*5+i) (by omega);rw[d1] at this;exact this
 have a0:=fun i=>by
  have q:=D;unfold OwR at q;rw[aS] at q;exact nV.frozenAt q i
 have a1:w.heap.size<=g:=(D.lt g rfl).1;have c0:=O 0 _ rfl;have c1:=O 1 _ rfl;have c2:=O 2 _ rfl;have c3:=O 3 _ rfl;have c4:=O 4 _ rfl;have f0:=a0 (k*5);have f1:=a0 (k*5+1);have f2:=a0 (k*5+2);have f3:=a0 (k*5+3);have f4:=a0 (k*5+4);rw[Nat.add_zero] at c0;have a3:l.length<=cap/\cap<=9223372036854775807:=by
  obtain⟨a',c',e',p1,p2,-⟩:=nS (OwR.rd D);unfold maxLen at p2
  injection e' with _ _ e3
  omega
 clear O hr;have d2:j=0\/j=1\/j=2\/j=3\/j=4\/j=5\/j=6\/j=7:=by omega
 clear g4;rcases d2 with rfl|rfl|rfl|rfl|rfl|rfl|rfl|rfl
 ·go_wp2_with fail;go_ret;exact⟨_,_,rfl,(GR (j:=0) (x':=⟨x,y.r,y.f,y.n,y.y⟩) D M.out (by decide) rfl).rd,by rw[nW];omega,GS H.out (fun z d=>by rw[cP.1 d];exact⟨⟨U,V⟩,A.2⟩),G.setCell (p:=⟨g,_,none⟩) a1 _⟩
 ·go_wp2_with fail;go_ret;exact⟨_,_,rfl,(GR (j:=1) (x':=⟨y.a,x,y.f,y.n,y.y⟩) D M.out (by decide) rfl).rd,by rw[nW];omega,GS H.out (fun z d=>by rw[cP.1 d];exact⟨A.1,⟨U,V⟩,A.2.2⟩),G.setCell (p:=⟨g,_,none⟩) a1 _⟩
 ·go_wp2_with fail;go_ret;exact⟨_,_,rfl,(GR (j:=2) (x':=⟨y.a,y.r,x,y.n,y.y⟩) D M.out (by decide) rfl).rd,by rw[nW];omega,GS H.out (fun z d=>by rw[cP.1 d];exact⟨A.1,A.2.1,⟨U,V⟩,A.2.2.2⟩),G.setCell (p:=⟨g,_,none⟩) a1 _⟩
 ·go_wp2_with fail;go_ret;exact⟨_,_,rfl,(GR (j:=3) (x':=⟨y.a,y.r,y.f,x,y.y⟩) D M.out (by decide) rfl).rd,by rw[nW];omega,GS H.out (fun z d=>by rw[cP.1 d];exact⟨A.1,A.2.1,A.2.2.1,⟨U,V⟩,A.2.2.2.2⟩),G.setCell (p:=⟨g,_,none⟩) a1 _⟩
 ·go_wp2_with fail;refine(b7 _).mono ?_;rintro e w' ⟨rfl,rfl⟩;go_wp2_with fail;go_ret;exact⟨_,_,rfl,(GR (j:=4) (x':=⟨y.a,y.r,y.f,y.n,(X:Int)⟩) D M.out (by decide) rfl).rd,by rw[nW];omega,GS H.out (fun z d=>by rw[cP.1 d];exact⟨A.1,A.2.1,A.2.2.1,A.2.2.2.1,c9⟩),G.setCell (p:=⟨g,_,none⟩) a1 _⟩
 ·have d9:=fun W=>bFs g l.length cap k (by omega) a3.1 W
  obtain⟨K,F⟩:∃K,K=k+1:=⟨_,rfl⟩;have e0:(k:Int)+1=(K:Int):=by omega
  have e1:=tE K (by omega);have b8:=bFq D k (by omega) hl;have a8:WfE (l.take k):=fun z d=>H.out z (List.mem_of_mem_take d)
  have b9:Below w.heap.size w I.drew:=G.drew
  by_cases a9:K=l.length
  ·obtain⟨J,c5,a2,a4,a5⟩:∃J,(∀W,(vN 22 (.slice (some ⟨g,0,none⟩) l.length cap) (some (.int .i64 (K:Int))) none none).run pG W=.ok J W)/\∃a2 a4,J=.slice a2 0 a4:=by
    by_cases d3:cap=l.length
    ·exact⟨_,fun W=>by rw[a9,d3];exact bFt g l.length W,_,_,rfl⟩
    ·exact⟨_,fun W=>aK1 g l.length cap K (by omega) a3.1 (by omega) (by omega) W,_,_,by rw[a9,Nat.sub_self]⟩
   subst a5;have b0:=aKy (some ⟨g,0,none⟩) k k (aD _) a2 a4 22 I.drew;have T:Below w.heap.size w I.drew:=G.drew;clear c0 c1 c2 c3 c4 f0 f1 f2 f3 f4 F a9;go_wp2_with fail;refine rF (S:=fun wx=>Below w.heap.size w wx) (by kernel_rfl) b9 (fun b1=>?_)
   iterate 8
    refine fV 0 0 (by simp only[dB,aU,aV,cV,dC]<;>rfl) (by simp only[gA,gH,gB];rfl) (by kernel_rfl) (by exact fun _ _ _ h=>h) (by first|exact Or.inr ⟨by rfl,rfl⟩|(refine Or.inl ⟨by rfl,?_⟩;intro w' b2;(try dsimp only at b2);(try go_simp);try with_reducible rfl)) b1 ?_
    try simp only[bJ,bK,bH,bB]
   refine dJ (i:=8) (by kernel_rfl) rfl (fun K F=>?_);refine sX rfl (.tmp 64) (.tmp 68) 22 rfl (.slice (some ⟨g,0,none⟩) k k) (.slice a2 0 a4) (.slice (some ⟨g,0,none⟩) k k) I.drew (by simp[lL]) (by simp[lL]) b0 ?_;refine F.out _ _ T (fun _=>?_)
   try simp only[bJ,bK,bH,bB]
   clear F K;refine dJ (i:=9) (by kernel_rfl) rfl (fun K F=>?_);go_simp;refine F.out _ _ T (fun _=>?_)
   try simp only[bJ,bK,bH,bB]
   clear F K;refine wpAnyH_done (by kernel_rfl) ?_ _;go_wp2_with fail;go_ret;exact⟨_,l.take k,rfl,b8,by rw[aQ];omega,a8,G.drew⟩
  ·have c5:=fun W=>aK1 g l.length cap K (by omega) a3.1 (by omega) (by omega) W
   have b3:=bFr D K (by omega) a3.1 a3.2;obtain⟨J,a5⟩:∃J,J=Value.slice (some ⟨g,K*5,none⟩) (l.length-K) (cap-K):=⟨_,rfl⟩;rw[<-a5] at c5 b3;clear a5;obtain⟨v',W3,b0,q1,q2⟩:=bFo g k (((l.take k).map bG).flatten) (by rw[DE,aQ];omega) I.drew (fun j u L=>by
    rw[WE] at L;have d4:=(eF.1 L).1;rw[aQ,DE] at d4;rw[pD,aB (by omega)] at L;exact(WF D j (by omega)).trans L) J ((l.drop K).map bG) b3 (yG _) (by rw[aS,bA];omega) (by rw[aS,bA];omega) 22
   have q3:OwR W3 I.heap.size 47 5 v' ((l.take k++l.drop K).map bG):=by
    unfold OwR;rw[dY,List.flatten_append,aL,aS,aQ,Nat.min_eq_left (by omega)];exact q1
   have T:Below w.heap.size w W3:=G.drew.grown q2 (show w.heap.size<=I.drew.heap.size from G.size) (fun k hk=>nomatch hk);have d5:WfE (l.take k++l.drop K):=fun z d=>(dK.1 d).elim (fun h=>a8 z h) (fun h=>H.out z (List.mem_of_mem_drop h))
   clear c0 c1 c2 c3 c4 f0 f1 f2 f3 f4 q1 q2 b8 b3 a8 F;go_wp2_with fail;refine rF (S:=fun wx=>Below w.heap.size w wx) (by kernel_rfl) b9 (fun b1=>?_)
   iterate 8
    refine fV 0 0 (by simp only[dB,aU,aV,cV,dC]<;>rfl) (by simp only[gA,gH,gB];rfl) (by kernel_rfl) (by exact fun _ _ _ h=>h) (by first|exact Or.inr ⟨by rfl,rfl⟩|(refine Or.inl ⟨by rfl,?_⟩;intro w' b2;(try dsimp only at b2);(try go_simp);try with_reducible rfl)) b1 ?_
    try simp only[bJ,bK,bH,bB]
   refine dJ (i:=8) (by kernel_rfl) rfl (fun K F=>?_);refine sX rfl (.tmp 64) (.tmp 68) 22 rfl (.slice (some ⟨g,0,none⟩) k k) J v' W3 (by simp[lL]) (by simp[lL]) b0 ?_;refine F.out _ _ T (fun _=>?_)
   try simp only[bJ,bK,bH,bB]
   clear F K;refine dJ (i:=9) (by kernel_rfl) rfl (fun K F=>?_);go_simp;refine F.out _ _ T (fun _=>?_)
   try simp only[bJ,bK,bH,bB]
   clear F K;refine wpAnyH_done (by kernel_rfl) ?_ _;go_wp2_with fail;go_ret;exact⟨_,l.take k++l.drop K,rfl,q3.rd,by rw[aL,aQ,bA];omega,d5,T⟩
 ·go_wp2_with (at_builtin;refine aKp rfl _ _ rfl w.heap.size _ _ rfl (OwR.alloc D _) y I.heap.size rfl (Arr.new I _ (bG y)) ?_ ?_ ?_;(rw[aS];omega);(exact Nat.le_trans G.size (by simp));intro v' w3 q1 q2);go_ret;refine⟨_,l++[y],rfl,by rw[dY];exact OwR.rd q1,by rw[aL];exact aD _,fun z d=>?_,(bD G _).trans q2⟩;rcases dK.1 d with d|d
  ·exact H.out z d
  ·rw[cP.1 d];exact A
 ·go_wp2_with fail;go_ret;exact⟨_,_,rfl,D.rd,by omega,H.out,G⟩
theorem bIm (a:Option Addr) (n cap k:Nat) (e:k<=n) (h:n<=cap) (W:World):(vN 22 (.slice a n cap) none (some (.int .i64 (k:Int))) none).run pG W=.ok (.slice a k cap) W:=by
 have d:k<=cap:=by omega
 cases a<;>simp[go_sem,d]
theorem bIn {w:World} {a:Option Addr} {cap:Nat} {l:List Ent} (h:RdR w (.slice a l.length cap) (l.map bG)) (k:Nat) (L:k<=l.length):RdR w (.slice a k cap) ((l.take k).map bG):=by
 obtain⟨A,D,e,F,G,d⟩:=h;obtain⟨rfl,-,rfl⟩:a=A/\l.length=(l.map bG).length/\cap=D:=by
  injection e with e1 e2 e3
  exact⟨e1,e2,e3⟩
 rw[aS] at F;have e:(l.take k).length=k:=by rw[aQ];omega
 refine⟨a,cap,by rw[aS,e],by rw[aS,e];omega,G,?_⟩;rw[WE];rcases d with d|⟨b,off,rfl,H,I⟩
 ·left;rw[d];exact List.take_nil
 ·right
  refine⟨b,off,rfl,H,fun j J=>?_⟩;rw[aQ] at J;rw[I j (by omega),bV,bV,pD,aB (by omega)]
theorem bJk (a:ByteArray) (v:Value) (l:List Ent) (w:World) (A:RdR w v (l.map bG)) (U:a.size<=100000) (J:l.length<=1000) (L:jA l):
  Calls pG 10 #[.string a,v] w fun e w'=>∃s:ByteArray,e=.returned (.tuple #[.string s,.int .i64 0])/\s.data.toList=bIs a.size (cH a.data.toList).toNat l.length l/\Below w.heap.size w w':=by
 have D:=bIy v l w A (by omega);rw[aG L] at D;have F:=fun W=>TA a W (by omega)
 have d:=(cH a.data.toList).isLt;obtain⟨C,H⟩:∃C,C=(cH a.data.toList).toNat:=⟨_,rfl⟩;rw[<-H] at F d ⊢;have d:C<4294967296:=d;have G:=fun W h=>bJf a.size C v l W h J (by omega) d
 clear H;go_enter func10,ntmps10;go_wp2_with fail;refine D.mono ?_;rintro e V ⟨rfl,I⟩;have M:=A.below I;clear D A;go_wp2_with fail;refine(F _).mono ?_;rintro e Y ⟨rfl,rfl⟩;have G:=G _ M;clear F;go_wp2_with fail;refine G.mono ?_;rintro e Z ⟨s,rfl,O,T⟩;go_wp2_with fail
 go_ret2
 exact⟨s,rfl,O,aW I T⟩
theorem bJl (a:ByteArray) (v:Value) (l:List Ent) (w:World) (h:RdR w v (l.map bG)) (F:l.length<=1000) (A:¬jA l):
  Calls pG 10 #[.string a,v] w fun e w'=>e=.returned (.tuple #[.string ⟨#[]⟩,.int .i64 1])/\Below w.heap.size w w':=by
 have d:=bIy v l w h (by omega);rw[aE A] at d;go_enter func10,ntmps10;go_wp2_with fail;refine d.mono ?_;rintro e G ⟨rfl,D⟩;clear d h;go_wp2_with fail
 go_ret2
 exact⟨rfl,D⟩
theorem bJm (t:List UInt8):AJ (t.take 26)=AJ t:=by
 unfold AJ;simp only[XS,List.drop_take];rfl
theorem bJn (t:List UInt8):wR (t.take 26)=wR t:=by
 unfold wR;simp only[XS,List.drop_take];rfl
theorem bJo (s:ByteArray) (k:Nat) (w:World) (h:46+26*k<=s.size):
  Calls pG 36 #[.string (s.extract (20+26*k) (46+26*k))] w fun e w'=>e=.returned (.tuple #[.agg (bG (AJ ((s.data.toList.drop 20).drop (26*k)))).toArray,.bool (!wR ((s.data.toList.drop 20).drop (26*k)))])/\Below w.heap.size w w':=by
 have d:=bJj (s.extract (20+26*k) (46+26*k)) w (by rw[aL6];omega);have e:(s.extract (20+26*k) (46+26*k)).data.toList=(s.data.toList.drop (20+26*k)).take 26:=by
  rw[iW,dP,show 46+26*k-(20+26*k)=26 by omega]
 rw[e,bJm,bJn] at d;rw[List.drop_drop];exact d
theorem bJp {l:List UInt8} {n:Nat} (e:¬l.length<20) (h:¬(l.take 4≠[80,77,105,49]\/9223372036854775808<=bP ((l.drop 4).take 8))) (A:n=bP ((l.drop 16).take 4)) (F:l.length=20+26*n) (d:rC n (l.drop 20)=false) (D:jA (qK n (l.drop 20))):
  dX l=(qK n (l.drop 20),bP ((l.drop 4).take 8),bP ((l.drop 12).take 4),0):=by
 unfold dX;rw[<-A,aA e,aA h,aA (by omega),aA (by omega),<-aKk n _ d,aA (fun q=>q ⟨by rw[aKk n _ d];exact(WA n _).1 d,D⟩)]
theorem bI4 {l:List UInt8} {n:Nat} (e:¬l.length<20) (h:¬(l.take 4≠[80,77,105,49]\/9223372036854775808<=bP ((l.drop 4).take 8))) (A:n=bP ((l.drop 16).take 4)) (H:l.length=20+26*n) (D:¬(rC n (l.drop 20)=false/\jA (qK n (l.drop 20)))):
  dX l=([],0,0,3):=by
 unfold dX;rw[<-A,aA e,aA h,aA (by omega),aA (by omega),aB];rintro⟨F,G⟩;have d:=(WA n _).2 F;exact D ⟨d,by rw[aKk n _ d];exact G⟩
theorem bI5 (s:ByteArray) (w:World) (hs:s.size<=100000):
  Calls pG 15 #[.string s] w fun e w'=>∃v,e=.returned (.tuple #[v,.int .i64 ((dX s.data.toList).2.1:Int),.int .u32 ((dX s.data.toList).2.2.1:Int),.int .i64 (dX s.data.toList).2.2.2])/\RdR w' v ((dX s.data.toList).1.map bG)/\Below w.heap.size w w':=by
 have hL:s.data.toList.length=s.size:=by simp
 obtain⟨D,hD⟩:∃D,D=dX s.data.toList:=⟨_,rfl⟩;rw[<-hD];have L:=hid hD;have O:=hid hL;clear hD hL
 by_cases a6:s.size<20
 ·have t1:decide ((s.size:Int)<20)=true:=aG (by omega);have A:=hid (show D=([],0,0,2) by rw[L.out];unfold dX;rw[aB (by rw[O.out];exact a6)]);rw[A.out];go_enter func15,ntmps15;go_wp2_with fail;refine fM (wS rfl _ _ _) rfl ?_;exact⟨_,rfl,RdR.nil _,aH _ _⟩
 have t1:decide ((s.size:Int)<20)=false:=aE (by omega);have d5:(20:Int)<=(s.size:Int):=by omega
 have hv:=fun(i j:Nat) (d6:j<=i+8) W=>bI2 (s.extract i j) W (by rw[aL6];omega)
 have ev:=fun i j=>show(s.extract i j).data.toList=(s.data.toList.drop i).take (j-i) by rw[iW,dP]
 have a0:=fun W=>hv 4 12 (by decide) W
 have b1:=fun W=>hv 12 16 (by decide) W
 have a3:=fun W=>hv 16 20 (by decide) W
 rw[ev] at a0 b1 a3;obtain⟨F,b2⟩:∃F,F=bP ((s.data.toList.drop 4).take (12-4)):=⟨_,rfl⟩;obtain⟨V2,a7⟩:∃V2,V2=bP ((s.data.toList.drop 12).take (16-12)):=⟨_,rfl⟩;obtain⟨d,a4⟩:∃d,d=bP ((s.data.toList.drop 16).take (20-16)):=⟨_,rfl⟩;rw[<-b2] at a0;rw[<-a7] at b1;rw[<-a4] at a3;have l2:V2<4294967296:=by rw[a7];exact DD (k:=4) (by rw[aQ];omega) (by decide)
 have l3:d<4294967296:=by rw[a4];exact DD (k:=4) (by rw[aQ];omega) (by decide)
 obtain⟨U,hU⟩:∃U,U=s.extract 0 4:=⟨_,rfl⟩;have c4:=hU.symm;have HU:=hid (show U.toList=s.data.toList.take 4 by rw[Lib.toList_data,hU,iW,dP];rfl);have b3:=hid b2;have c5:=hid a7;have c6:=hid a4;clear hv ev b2 a7 a4 hU
 by_cases hp:U.toList=[80,77,105,49]
 rotate_left
 ·have A:=hid (show D=([],0,0,3) by rw[L.out];unfold dX;rw[aA (by rw[O.out];exact a6),aB (.inl (by rw[<-HU.out];exact hp))]);rw[A.out];go_enter func15,ntmps15;go_wp2_with fail;refine(a0 _).mono ?_;rintro e G ⟨rfl,rfl⟩;go_wp2_with fail;refine fM (wS rfl _ _ _) rfl ?_;exact⟨_,rfl,RdR.nil _,aH _ _⟩
 by_cases I:9223372036854775808<=F
 ·have u1:decide ((F:Int)>=9223372036854775808)=true:=aG (by omega);have u2:decide ((9223372036854775808:Int)<=(F:Int))=true:=aG (by omega);have u3:decide (9223372036854775808<=F)=true:=aG I;have A:=hid (show D=([],0,0,3) by rw[L.out];unfold dX;rw[aA (by rw[O.out];exact a6),aB (.inr (by rw[b3.out] at I;exact I))]);rw[A.out];go_enter func15,ntmps15;go_wp2_with fail;refine(a0 _).mono ?_;rintro e G ⟨rfl,rfl⟩;go_wp2_with fail;refine fM (wS rfl _ _ _) rfl ?_;exact⟨_,rfl,RdR.nil _,aH _ _⟩
 have u1:decide ((F:Int)>=9223372036854775808)=false:=aE (by omega);have u2:decide ((9223372036854775808:Int)<=(F:Int))=false:=aE (by omega);have u3:decide (9223372036854775808<=F)=false:=aE I;have HC:=hid (show ¬(s.data.toList.take 4≠[80,77,105,49]\/9223372036854775808<=bP ((s.data.toList.drop 4).take 8)) by
  rintro(q|q)
  ·exact q (by rw[<-HU.out];exact hp)
  ·exact I (by rw[b3.out];exact q))
 have a8:=hid (show ¬s.data.toList.length<20 by rw[O.out];exact a6);have a9:=hid (show d=bP ((s.data.toList.drop 16).take 4) from c6.out);obtain⟨N,hN⟩:∃N,N=26*d:=⟨_,rfl⟩;obtain⟨M,hM⟩:∃M,M=20+N:=⟨_,rfl⟩;have m0:=lE d (by omega);have m1:26*(d:Int)=(N:Int):=by omega
 have m2:20+(N:Int)=(M:Int):=by omega
 have c0:aJ.wrap (26*(d:Int))=(N:Int):=by rw[m1];exact lE N (by omega)
 have c1:aJ.wrap (20+(N:Int))=(M:Int):=by rw[m2];exact lE M (by omega)
 have HM:=hid (show M=20+26*d by omega);have HV:=hid (show dX s.data.toList=if s.data.toList.length<M then([],0,0,2) else if M<s.data.toList.length then([],0,0,3) else dX s.data.toList by
  rw[HM.out];unfold dX;rw[<-a9.out,aA a8.out,aA HC.out];split
  ·rfl
  split
  ·rfl
  ·rfl)
 have d7:F<=9223372036854775807:=by omega
 clear hN hM I
 by_cases q3:s.size<M
 ·have v1:decide ((s.size:Int)<(M:Int))=true:=aG (by omega);have A:=hid (show D=([],0,0,2) by rw[L.out,HV.out,aB (by rw[O.out];exact q3)]);rw[A.out];go_enter func15,ntmps15;go_wp2_with fail;refine(a0 _).mono ?_;rintro e G ⟨rfl,rfl⟩;go_wp2_with fail;refine(a3 _).mono ?_;rintro e G ⟨rfl,rfl⟩;go_wp2_with fail;refine fM (wS rfl _ _ _) rfl ?_;exact⟨_,rfl,RdR.nil _,aH _ _⟩
 have v1:decide ((s.size:Int)<(M:Int))=false:=aE (by omega)
 by_cases q4:M<s.size
 ·have v2:decide ((s.size:Int)>(M:Int))=true:=aG (by omega);have v3:decide ((M:Int)<(s.size:Int))=true:=aG (by omega);have A:=hid (show D=([],0,0,3) by rw[L.out,HV.out,aA (by rw[O.out];exact q3),aB (by rw[O.out];exact q4)]);rw[A.out];go_enter func15,ntmps15;go_wp2_with fail;refine(a0 _).mono ?_;rintro e G ⟨rfl,rfl⟩;go_wp2_with fail;refine(a3 _).mono ?_;rintro e G ⟨rfl,rfl⟩;go_wp2_with fail;refine fM (wS rfl _ _ _) rfl ?_;exact⟨_,rfl,RdR.nil _,aH _ _⟩
 have v2:decide ((s.size:Int)>(M:Int))=false:=aE (by omega);have v3:decide ((M:Int)<(s.size:Int))=false:=aE (by omega);have v4:decide (M<s.size)=false:=aE (by omega);have v5:decide (s.size<M)=false:=aE (by omega);have v6:¬M<s.size:=by omega
 have c2:s.size=20+26*d:=by have:=HM.out;omega
 have b4:=hid c2;have a4:d<=4000:=by omega
 obtain⟨T,hT⟩:∃T,T=s.data.toList.drop 20:=⟨_,rfl⟩;have c3:=fun k W h=>bJo s k W h
 rw[<-hT] at c3;have HT:=hid hT;clear hT c2 q3 q4;go_enter func15,ntmps15;go_wp2_with fail;refine(a0 _).mono ?_;rintro e G ⟨rfl,rfl⟩;go_wp2_with fail;refine(a3 _).mono ?_;rintro e G ⟨rfl,rfl⟩;go_wp2_with fail;clear m1 c0 m2 c1 u1 u2 u3 v1 v2 v3 v4 v5 v6 t1 hp c4
 go_loopg [8,9,10,11,12] d (fun g s8 s9 c7 _s11 _s12 wr=>∃k:Nat,k<=d/\g=d-k/\c7=.int .i64 (k:Int)/\s9=.bool (!rC k T)/\OwR wr G.heap.size 47 5 s8 ((qK k T).map bG)/\Below G.heap.size G wr)
 case atStart=>exact⟨0,aO _,rfl,rfl,rfl,OwR.nil _ _ _ _,aH _ _⟩
 case round=>
  obtain⟨k,hk,I,rfl,rfl,ho,a5⟩:=hrel;have HG:=hid I;have b0:=a5.size;obtain⟨gb,b5⟩:∃gb,gb=rC k T:=⟨_,rfl⟩;rw[<-b5];have b6:=hid b5;clear I b5
  by_cases d8:k<d
  ·have t2:decide ((k:Int)<(d:Int))=true:=aG (by omega);have a2:=fun W=>c3 k W (by have:=b4.out;omega)
   obtain⟨H,c8⟩:∃H,H=26*k:=⟨_,rfl⟩;obtain⟨Q1,c9⟩:∃Q1,Q1=20+H:=⟨_,rfl⟩;obtain⟨V,d0⟩:∃V,V=46+H:=⟨_,rfl⟩;have m1:26*(k:Int)=(H:Int):=by omega
   have m2:20+(H:Int)=(Q1:Int):=by omega
   have m3:46+(H:Int)=(V:Int):=by omega
   have c0:aJ.wrap (26*(k:Int))=(H:Int):=by rw[m1];exact lE H (by omega)
   have c1:aJ.wrap (20+(H:Int))=(Q1:Int):=by rw[m2];exact lE Q1 (by omega)
   have d9:aJ.wrap (46+(H:Int))=(V:Int):=by rw[m3];exact lE V (by omega)
   have bq:(V:Int)<=(s.size:Int):=by have:=b4.out;omega
   have e0:(Q1:Int)<=(V:Int):=by omega
   rw[show 20+26*k=Q1 by omega,show 46+26*k=V by omega] at a2;obtain⟨x,hx⟩:∃x,x=AJ (T.drop (26*k)):=⟨_,rfl⟩;obtain⟨gr,b7⟩:∃gr,gr=wR (T.drop (26*k)):=⟨_,rfl⟩;rw[<-hx,<-b7] at a2;have HE:=hid (show(qK (k+1) T).map bG=(qK k T).map bG++[bG x] by rw[aKh,dY,hx];rfl);have d1:=hid (show rC (k+1) T=(gb||gr) by rw[aKi,b6.out,b7]);have e1:((qK k T).map bG).length<=100000:=by rw[aS,VZ];omega
   clear hx b7 c8 c9 d0;obtain⟨Y,Z,xf,xn,xy⟩:=x;unfold bG at a2;dsimp only at a2;go_wp2_with fail;refine(a2 _).mono ?_;rintro e w2 ⟨rfl,J⟩;have d2:=OwR.alloc (OwR.alloc (OwR.below ho J (aD _)) (.cells #[.int .i64 Y,.int .i64 Z,.int .i64 xf,.int .i64 xn,.int .u32 xy] 47)) (.cells #[.int .i64 Y,.int .i64 Z,.int .i64 xf,.int .i64 xn,.int .u32 xy] 47);have hN:=Arr.new (w2.alloc (.cells #[.int .i64 Y,.int .i64 Z,.int .i64 xf,.int .i64 xn,.int .u32 xy] 47)) 47 (bG ⟨Y,Z,xf,xn,xy⟩);rw[World.size_alloc] at hN;have e2:=J.size
   have d3:=(((a5.trans (J.mono b0)).alloc (by omega) (.cells #[.int .i64 Y,.int .i64 Z,.int .i64 xf,.int .i64 xn,.int .u32 xy] 47)).alloc (by simp;omega) (.cells #[.int .i64 Y,.int .i64 Z,.int .i64 xf,.int .i64 xn,.int .u32 xy] 47));clear a2
   cases gb
   all_goals
    go_wp2_with (at_builtin;refine bDi AK rfl _ _ rfl G.heap.size _ _ rfl d2 _ (bG ⟨Y,Z,xf,xn,xy⟩) rfl hN rfl (fun u hu=>(yG [⟨Y,Z,xf,xn,xy⟩] _ (by simp)).2 u hu) ?_ ?_ ?_;(omega);(simp;omega);intro v5 w5 p1 p2 p3);have I:=HG.out
    go_roundg (d-(k+1))
    case measure=>omega
    case rel=>exact⟨k+1,by omega,rfl,by go_num,by rw[d1.out];simp,by rw[HE.out];exact p1,d3.trans p2⟩
  ·have t2:decide ((k:Int)<(d:Int))=false:=aE (by omega);obtain rfl:k=d:=by omega
   have a1:=bIy u8 (qK k T) wr (OwR.rd ho) (by rw[VZ];omega);obtain⟨R,hR⟩:∃R,R=decide (jA (qK k T)):=⟨_,rfl⟩;rw[<-hR] at a1;have HR:=hid hR;have b8:=O.out;rw[b4.out] at b8;have b9:=hid b8;have n1:=lE F (by omega);have n2:=aGs V2 l2;clear hR b8
   cases R with
   |false=>
    have A:=hid (show D=([],0,0,3) by
     rw[L.out];refine bI4 a8.out HC.out a9.out b9.out ?_;rintro⟨-,q⟩;rw[<-HT.out] at q;exact absurd q (of_decide_eq_false HR.out.symm))
    go_wp2_with fail;refine a1.mono ?_;rintro e w2 ⟨rfl,J⟩;clear a1
    cases gb
    all_goals
     go_wp2_with fail;refine fM (wS rfl _ _ _) rfl ?_;exact⟨_,by rw[A.out];rfl,by rw[A.out];exact RdR.nil _,a5.trans (J.mono b0)⟩
   |true=>
    cases gb with
    |true=>
     have A:=hid (show D=([],0,0,3) by
      rw[L.out];refine bI4 a8.out HC.out a9.out b9.out ?_;rintro⟨q,-⟩;rw[<-HT.out,<-b6.out] at q;exact Bool.noConfusion q)
     go_wp2_with fail;refine a1.mono ?_;rintro e w2 ⟨rfl,J⟩;clear a1;go_wp2_with fail;refine fM (wS rfl _ _ _) rfl ?_;exact⟨_,by rw[A.out];rfl,by rw[A.out];exact RdR.nil _,a5.trans (J.mono b0)⟩
    |false=>
     have A:=hid (show D=(qK k T,F,V2,0) by
      rw[L.out,bJp a8.out HC.out a9.out b9.out (by rw[<-HT.out];exact b6.out.symm) (by rw[<-HT.out];exact of_decide_eq_true HR.out.symm),<-HT.out,b3.out,c5.out])
     go_wp2_with fail;refine a1.mono ?_;rintro e w2 ⟨rfl,J⟩;have d4:=(OwR.rd ho).below J;clear a1;go_wp2_with fail;refine(b1 _).mono ?_;rintro e w3 ⟨rfl,rfl⟩;go_wp2_with fail;refine fM (wS rfl _ _ _) rfl ?_;exact⟨_,by rw[A.out];rfl,by rw[A.out];exact d4,a5.trans (J.mono b0)⟩
end Go.Proofs.YtfplbbphficcjaaGreatDoor
