/-
  Texts put together (part 25): the walks and the plain laws on which the statement stands.
-/
import Derived.Test.YtihbnmlinkbnkaaGreatDoorZ18
import Derived.Test.YtihbnmlinkbnkaaGreatDoorZ24
set_option maxRecDepth 100000
set_option maxHeartbeats 12800000
set_option linter.unusedVariables false
set_option linter.unusedSimpArgs false
open Go.Proofs.Tryz
open Go.Proofs.Tryz renaming prog->pG
open Array renaming getElem?_eq_some_iff->fE
open Go renaming heap_setCell_other->kF
open Go.Fence renaming wide->cZ
open Go.RowKit.Below renaming refl->aH
open Go.World renaming alloc_heap_new->AZ,putObj_heap_other->qA,putObj_heap_same->BA
open List renaming length_cons->aU,length_drop->bA,length_eq_zero_iff->nX,length_nil->aV,length_pos_iff->gG,length_take->aQ
open Nat renaming le_refl->aD,lt_or_ge->cF
namespace Go.Proofs.YtihbnmlinkbnkaaGreatDoor
section
theorem FY.uniq {s:List UInt8} {room j k:Nat} (d:FY s room j) (A:FY s room k):j=k:=by
 rcases Nat.lt_trichotomy j k with h|h|h
 ·exfalso;have a:=d.2.2 (by have:=A.1;omega);have b:=AC s (j+1) (k-(j+1)) (by have:=A.1;omega);rw[show j+1+(k-(j+1))=k by omega] at b;have:=A.2.1;omega
 ·exact h
 ·exfalso;have a:=A.2.2 (by have:=d.1;omega);have b:=AC s (k+1) (j-(k+1)) (by have:=d.1;omega);rw[show k+1+(j-(k+1))=j by omega] at b;have:=d.2.1;omega
theorem bB3 {s:List UInt8} {room:Nat} (h:lnL s<=room):cJ s room=s.length:=by
 refine(pT s room).uniq ⟨aD _,by grind,fun k=>absurd k (Nat.lt_irrefl _)⟩
end
section
open Go.RowKit Go Go.Shelf
def UO {α:Type} (Bs:Nat) (n:Nat) (P:Program) (g:Nat) (lb:Array Value) (encs:α->Array Value) (Ri Kp:World->World->Prop) (Ok:World->Prop) (Pre:List α->α->Prop) (I:List α->Prop) (w:World):Prop:=
 ∀(l:Nat) (J F:List α->World->Prop) (W:World),Below w.heap.size w W->(∀s A B,J s A->Below W.heap.size A B->Ri A B->J s B)->(∀s A B,F s A->Below W.heap.size A B->Ri A B->F s B)->(∀s A,J s A->Ok A)->(∀s A v,J s A->J s (A.setCell ⟨Bs,0,none⟩ v))->
  (∀pre x G,J pre G->W.heap.size<=G.heap.size->Pre pre x->
   YieldAt cZ (n-1) P l (encs x) G fun e d=>(e=.returned (.bool true)/\J (pre++[x]) d/\Kp G d)\/(e=.returned (.bool false)/\F (pre++[x]) d))->
  J [] W->
  CallsIn cZ n P g (#[.func (.yield l) #[] #[]]++lb) W fun e d=>(∃v,e=.returned v)/\((∃H,I H/\J H d)\/∃pre,F pre d)
theorem UP {α:Type} {n:Nat} {P:Program} {g:Operand} {ps:Array Tmp} {assign body:Code} {Q:Exit->Act->World->Prop} {a:Act} {w:World}
  (h1:1<=n) {gf:Nat} {lb:Array Value} (hg:a.eval g=.func (.func gf) #[] lb) (eg:∀args w,(callFunc gf args).run P w=.ok (.enter gf args) w)
  {encs:α->Array Value} {Ri Kp:World->World->Prop} {Ok:World->Prop} {Pre:List α->α->Prop} {b6:List α->Prop} {w0:World} (Bs:Nat) (d8:Bs<w.heap.size) (b9:UO Bs (n-1) P gf lb encs Ri Kp Ok Pre b6 w0) (b7:Below w0.heap.size w0 w) (c0:∀x,(encs x).size=ps.size)
  (b2:∀{A B C:World},Kp A B->Kp B C->Kp A C) (b3:∀A B,bW none A B->Kp A B) (a0:∀A B,bW none A B->Ri A B)
  (I:List α->World->Prop) (Ix:Code->List α->World->Prop) (hI:∀s A B,I s A->Below w.heap.size A B->Ri A B->I s B) (a8:∀c s A B,Ix c s A->Below w.heap.size A B->Ri A B->Ix c s B) (h0:I [] w) (c1:∀s A,I s A->Ok A) (c2:∀s A v,I s A->I s (A.setCell ⟨Bs,0,none⟩ v))
  (Ax:α->Act->World->Prop) (c3:∀x U A A',Ax x U A->bW none A A'->Ax x U A')
  (c4:∀(l:Nat) (pre:List α) (x:α) (W:World) (K:Act->World->Prop),I pre W->w.heap.size<=W.heap.size->Pre pre x->(∀U W',Below W.heap.size W W'->Ax x U W'->K U W')->
   assign.wpIn (cZ.inRound l) (n-1-1) P (Exit.then K (fun _ _ _=>False)) {tmps:=(ps.zip (encs x)).foldl (fun t (p,v)=>t.setIfInBounds p v) a.tmps,defers:=[]} W)
  (hbody:∀(l:Nat) (pre:List α) (x:α) (U:Act) (W:World),I pre W->w.heap.size<=W.heap.size->Pre pre x->Ax x U W->body.wpIn (cZ.inRound l) (n-1-1) P (ownPostG w.heap.size Kp I Ix (pre++[x]) W) U W)
  (hdone:∀(D:Nat) (xs:List α) (W:World),w.heap.size<=D->b6 xs->I xs W->W.heap[D]? =some (.deferred (some []))->Q .normal {a with defers:={target:=.collected D,args:=#[]}::a.defers} W)
  (hstop:∀(D:Nat) (c:Code) (pre:List α) (W:World),w.heap.size<=D->Ix c pre W->W.heap[D]? =some (.deferred (some []))->c.wpIn cZ n P Q {a with defers:={target:=.collected D,args:=#[]}::a.defers} W):
  (Code.rangeFunc g ps assign body).wpIn cZ n P Q a w:=by
 refine wpIn_rangeFunc ?_;intro fn c5;rw[show cZ.round=none from rfl];obtain⟨d,V⟩:∃d:LoopState->Option Code->Loop,d=fun st pe=>{state:=st,pending:=pe,fn,tmps:=a.tmps,params:=ps,assign,body,defers:=w.heap.size}:=⟨_,rfl⟩
 obtain⟨H,a9⟩:∃H,(w.alloc (.deferred (some []))).alloc (.loop (d .ready none))=H:=⟨_,rfl⟩;have c6:H.heap[w.heap.size+1]? =some (.loop (d .ready none)):=by
  rw[<-a9];have:=AZ (w.alloc (.deferred (some []))) (.loop (d .ready none));rwa[World.size_alloc] at this
 have c7:H.heap[w.heap.size]? =some (.deferred (some [])):=by
  rw[<-a9];exact(Below.heap_alloc _ _ _ (by simp)).trans (AZ w _)
 have b4:Below w.heap.size w H:=by rw[<-a9];exact((aH _ w).alloc (aD _) _).alloc (by simp) _
 have c8:I [] H:=hI _ _ _ h0 b4 (a0 _ _ (bW.of_below b4));have d9:H.heap.size=w.heap.size+2:=by rw[<-a9];simp
 have c9:Below w0.heap.size w0 H:=b7.trans (b4.mono b7.size);have a1:∀(A:World) (l:Nat) (o o':Obj),w.heap.size<=l->A.heap[l]? =some o->o.isCells=false->o.isWalk=false->Below w.heap.size A (A.putObj l o'):=fun A l o o' G h k1 k2=>belowK_b (w:=w) (aD _) A l o o' G h k1 k2
 refine⟨w.heap.size+1,[{target:=.collected w.heap.size,args:=#[]}],H,{target:=.fn (.func gf) lb,args:=#[.func (.yield (w.heap.size+1)) #[] #[]]},H,gf,
  #[.func (.yield (w.heap.size+1)) #[] #[]]++lb,H,?_,?_,?_,?_,fun _=>h1,?_⟩
 ·rw[<-a9,V];exact run_enterLoop_outer _ _ _ _ _
 ·simp only[resolve,hg];simp[go_sem]
 ·exact fun _ _=>trivial
 ·simp[invoke,go_sem,eg]
 ·have b0:∀{A B:World} {k:Nat} {o:Obj},Below H.heap.size A B->k<H.heap.size->A.heap[k]? =some o->B.heap[k]? =some o:=fun h hk ho=>(h.block _ hk).trans ho
  refine(b9 (w.heap.size+1)
   (fun pre W=>I pre W/\W.heap[w.heap.size+1]? =some (.loop (d .ready none))/\W.heap[w.heap.size]? =some (.deferred (some [])))
   (fun pre W=>∃c,Ix c pre W/\W.heap[w.heap.size+1]? =some (.loop (d .done (some c)))/\W.heap[w.heap.size]? =some (.deferred (some [])))
   H c9
   (fun s A B M a2 O=>⟨hI s A B M.1 (a2.mono (by omega)) O,b0 a2 (by omega) M.2.1,b0 a2 (by omega) M.2.2⟩)
   (fun s A B M a2 O=>by
    obtain⟨c,hc,G,hk⟩:=M;exact⟨c,a8 c s A B hc (a2.mono (by omega)) O,b0 a2 (by omega) G,b0 a2 (by omega) hk⟩)
   (fun s A M=>c1 s A M.1) (fun s A v M=>⟨c2 s A v M.1,by rw[kF A ⟨Bs,0,none⟩ _ v (fun q=>by have q:w.heap.size+1=Bs:=q;omega)];exact M.2.1,by rw[kF A ⟨Bs,0,none⟩ _ v (fun q=>by have q:w.heap.size=Bs:=q;omega)];exact M.2.2⟩) ?_ ⟨c8,c6,c7⟩).mono ?_
  ·rintro pre x W ⟨hi,G,hk⟩ e0 b8;have d0:w.heap.size+1<W.heap.size:=(fE.1 G).1;have hy:=run_yield (P:=P) (args:=encs x) G (by rw[V];exact c0 x);rw[V] at hy;refine⟨fn,_,assign,body,hy,roundIn_of_wpIn c5 (c4 _ pre x W _ hi (by omega) b8 ?_)⟩;clear hy;intro U Wa a7 d1;have b1:Wa.heap[w.heap.size+1]? =some (.loop (d .ready none)):=(a7.block _ d0).trans G;have d2:Wa.heap[w.heap.size]? =some (.deferred (some [])):=(a7.block _ (by omega)).trans hk;have d3:w.heap.size+1<Wa.heap.size:=(fE.1 b1).1
   have d4:I pre Wa:=hI _ _ _ hi (a7.mono (by omega)) (a0 _ _ (bW.of_below a7));refine⟨_,run_beginRound b1 (by rw[V]),?_⟩;have d5:(Wa.putObj (w.heap.size+1) (.loop {d .ready none with state:=.busy})).heap[w.heap.size+1]? =some (.loop {d .ready none with state:=.busy}):=BA d3;have d6:(Wa.putObj (w.heap.size+1) (.loop {d .ready none with state:=.busy})).heap[w.heap.size]? =some (.deferred (some [])):=(qA (by omega)).trans d2
   have b5:∀bo,bW bo Wa (Wa.putObj (w.heap.size+1) (.loop {d .ready none with state:=.busy})):=fun bo=>bW.putObj _ _ b1 rfl
   refine wpIn_mono (hbody _ pre x U _ (hI _ _ _ d4 (a1 _ _ _ _ (by omega) b1 rfl rfl) (a0 _ _ (b5 none))) (by have:=a7.size;simp;omega) b8 (c3 _ _ _ _ d1 (b5 none))) ?_;have fin:∀(J:Option Code) (L:World),KeepsFrom w.heap.size (Wa.putObj (w.heap.size+1) (.loop {d .ready none with state:=.busy})) L->
     (Instr.endRound (w.heap.size+1) J).run P L=.ok (.bool J.isNone) (L.putObj (w.heap.size+1) (.loop (d (if J.isNone then .ready else .done) J)))/\
     L.heap[w.heap.size+1]? =some (.loop {d .ready none with state:=.busy})/\
     (L.putObj (w.heap.size+1) (.loop (d (if J.isNone then .ready else .done) J))).heap[w.heap.size+1]? =some (.loop (d (if J.isNone then .ready else .done) J))/\
     (L.putObj (w.heap.size+1) (.loop (d (if J.isNone then .ready else .done) J))).heap[w.heap.size]? =some (.deferred (some [])):=fun J L Z=>by
    have F:=Z.same _ _ (by omega) d5 rfl;have:=run_endRound (P:=P) J F;rw[V] at this ⊢;exact⟨this,by rw[V] at F;exact F,BA (fE.1 F).1,(qA (by omega)).trans (Z.same _ _ (aD _) d6 rfl)⟩
   rintro e a3 L hp
   cases e with
   |normal=>
    obtain⟨Z,d7,a4⟩:=hp;obtain⟨O,F,a5,a6⟩:=fin none L Z;exact⟨_,_,O,.inl ⟨rfl,⟨hI _ _ _ a4 (a1 _ _ _ _ (by omega) F rfl rfl) (a0 _ _ (bW.putObj _ _ F rfl)),a5,a6⟩,b2 (b3 _ _ (bW.of_below a7)) (b2 (b3 _ _ (b5 none)) (b2 d7 (b3 _ _ (bW.putObj _ _ F rfl))))⟩⟩
   |ret=>
    obtain⟨Z,a4⟩:=hp;obtain⟨O,F,a5,a6⟩:=fin (some .ret) L Z;exact⟨_,_,O,.inr ⟨rfl,.ret,a8 _ _ _ _ a4 (a1 _ _ _ _ (by omega) F rfl rfl) (a0 _ _ (bW.putObj _ _ F rfl)),a5,a6⟩⟩
   |exit id=>
    obtain⟨Z,a4⟩:=hp;obtain⟨O,F,a5,a6⟩:=fin (some (.exit id)) L Z;exact⟨_,_,O,.inr ⟨rfl,.exit id,a8 _ _ _ _ a4 (a1 _ _ _ _ (by omega) F rfl rfl) (a0 _ _ (bW.putObj _ _ F rfl)),a5,a6⟩⟩
   |goto t=>
    obtain⟨Z,a4⟩:=hp;obtain⟨O,F,a5,a6⟩:=fin (some (.goto t)) L Z;exact⟨_,_,O,.inr ⟨rfl,.goto t,a8 _ _ _ _ a4 (a1 _ _ _ _ (by omega) F rfl rfl) (a0 _ _ (bW.putObj _ _ F rfl)),a5,a6⟩⟩
   |panic ch=>exact hp.elim
   |outgrown=>exact hp.elim
  ·rintro e W2 ⟨⟨v,rfl⟩,(⟨xs,hS,hi,G,hk⟩|⟨pre,c,hi,G,hk⟩)⟩
   ·exact⟨none,_,by have:=run_endLoop (P:=P) G (by rw[V];simp);rw[V] at this;exact this,hdone _ xs _ (aD _) hS (hI _ _ _ hi (a1 _ _ _ _ (by omega) G rfl rfl) (a0 _ _ (bW.putObj _ _ G rfl))) ((qA (by omega)).trans hk)⟩
   ·exact⟨some c,_,by have:=run_endLoop (P:=P) G (by rw[V];simp);rw[V] at this;exact this,hstop _ c pre _ (aD _) (a8 _ _ _ _ hi (a1 _ _ _ _ (by omega) G rfl rfl) (a0 _ _ (bW.putObj _ _ G rfl))) ((qA (by omega)).trans hk)⟩
end
section
open Go.RowKit Go Go.Shelf
attribute [local go_sem] Oper.semAt_some
theorem bB0 (n:Nat) (hn:1<=n) (l Bs:Nat) (G:ByteArray) (c2:G.size<=1000000) (J Jx:List (List UInt8)->World->Prop) (H:World) (c3:∀s A B,J s A->Below H.heap.size A B->eS [3] none A B->J s B) (c4:∀s A v,J s A->J s (A.setCell ⟨Bs,0,none⟩ v))
  (hY:∀pre x W1,J pre W1->H.heap.size<=W1.heap.size->(∃r,fY G.data.toList=pre++x::r)->YieldAt cZ (n-1) pG l (oZ x) W1 fun e U=>(e=.returned (.bool true)/\J (pre++[x]) U/\eS [9] none W1 U)\/(e=.returned (.bool false)/\Jx (pre++[x]) U))
  (W:World) (a6:W=H) (hA:Arr W Bs 9 [.string G]) (h0:J [] W):
  CallsIn cZ n pG 191 #[.func (.yield l) #[] #[],.pointer (some ⟨Bs,0,none⟩)] W fun e U=>(∃v,e=.returned v)/\(J (fY G.data.toList) U\/∃pre,Jx pre U):=by
 have a7:∀s A k,J s A->J s (A.drewN k):=fun s A k h=>c3 s A _ h (below_drewN (aH _ _) _) (.of_below (below_drewN (aH _ _) _))
 have f2:=hid a6;have c5:H.heap.size<=W.heap.size:=by rw[a6];exact aD _
 clear a6;refine callsIn_of_wp func191 rfl trivial ?_ rfl;simp only[ntmps191,List.size_toArray,aU,aV,Nat.reduceAdd,Nat.reduceSub,Array.replicate_succ,Array.replicate_zero,List.push_toArray,List.append_toArray,List.nil_append,List.cons_append];have f4:=hid (show ∃L,L=fY G.data.toList from⟨_,rfl⟩)
 gi_wp2_with fail
 gi_loopg [3] G.size (fun g _s3 wr=>∃(pre:List (List UInt8)) (s:ByteArray),g=s.size/\s.size<=1000000/\pre++fY s.data.toList=fY G.data.toList/\J pre wr/\Arr wr Bs 9 [.string s]/\H.heap.size<=wr.heap.size)
 case atStart=>exact⟨[],G,rfl,c2,rfl,h0,hA,c5⟩
 case round=>
  obtain⟨pre,s,I,f5,V,hJ,hA,c6⟩:=hrel;have HG:=hid I;have HP:=hid V;have HL:=hid (show s.data.toList.length=s.size by simp);clear I V;have c0:=hA.cell (i:=0) rfl
  by_cases d:s.data.toList=[]
  ·have te:s.toList.isEmpty=true:=by rw[Lib.toList_data,d];rfl
   have V:=HP.out;rw[d,FR,List.append_nil] at V;have c7:=hid V;clear V HP d
   gi_wp2_with fail
   go_end0
   exact⟨⟨_,rfl⟩,.inl (by rw[<-c7.out];exact hJ)⟩
  ·have c8:0<s.size:=by rw[<-HL.out];exact gG.2 d
   have te:s.toList.isEmpty=false:=xM d;have c9:=hid d;clear d
   gi_wp2_with fail
   gi_loopg [3] 255 (fun g s3 M=>∃k:Nat,1<=k/\k<=255/\k<=s.size/\g=256-k/\s3=.int .i64 (k:Int)/\Hid (∀j,j<k->s.data.toList[j]? =s.data.toList[0]?)/\J pre M/\Arr M Bs 9 [.string s]/\H.heap.size<=M.heap.size)
   case atStart=>exact⟨1,by omega,by omega,by omega,by omega,rfl,hid (fun j hj=>by rw[show j=0 by omega]),hJ,hA,c6⟩
   case round=>
    obtain⟨k,f6,d1,d2,I,rfl,HJ,a2,a0,a8⟩:=hrel;have d3:=hid I;clear I c0;have c1:=a0.cell (i:=0) rfl;obtain⟨T,hT⟩:∃T:Bool,T=decide (k<s.size/\k<255/\s.data.toList[k]? =s.data.toList[0]?):=⟨_,rfl⟩;have HT:=hid hT;clear hT;obtain⟨m,b5,d4,d5⟩:=BE s.size 255 (by decide);have d6:min (s.size:Int) 255=(m:Int):=by rw[<-b5];omega
    gi_upto_region 2 with fail
    gi_cut [18,21,22,23,24,25,26,27,28,29] from 6 (fun d7 d8 d9 e1 e3 e4 e5 e6 e7 e8 M=>(d7=.bool T/\d8=u21/\d9=u22/\e1=u23/\e3=u24/\e4=u25/\e5=u26/\e6=u27/\e7=u28/\e8=u29)/\J pre M/\Arr M Bs 9 [.string s]/\H.heap.size<=M.heap.size)
    case first=>
     by_cases g1:k<m
     ·have u1:decide ((k:Int)<(m:Int))=true:=aG (by omega);have g2:k<s.size:=by omega
      have e2:=fW s k g2;have e0:=fW s 0 c8
      by_cases O:s[k]=s[0]
      ·have u3:((s[k].toNat:Int)==(s[0].toNat:Int))=true:=by rw[O];simp
       have u4:decide ((s[k].toNat:Int)=(s[0].toNat:Int))=true:=aG (by rw[O]);have a1:=hid (show T=true by rw[HT.out,aG];exact⟨g2,by omega,by rw[e2,e0,O]⟩);clear O e2 e0
       gi_quiet (fail)
       gi_wp2_with fail
       gi_meet
       exact⟨⟨by rw[a1.out],rfl,rfl,rfl,rfl,rfl,rfl,rfl,rfl,rfl⟩,a7 _ _ _ a2,a0.drewN _,a8⟩
      ·have d:(s[k].toNat:Int)≠(s[0].toNat:Int):=fun e=>O (UInt8.toNat_inj.1 (by omega))
       have u3:((s[k].toNat:Int)==(s[0].toNat:Int))=false:=by rw[cB];exact d
       have u4:decide ((s[k].toNat:Int)=(s[0].toNat:Int))=false:=aE d;have a1:=hid (show T=false by rw[HT.out,aE];rintro⟨_,_,Z⟩;rw[e2,e0] at Z;injection Z with Z;exact O Z);clear O e2 e0 d
       gi_quiet (fail)
       gi_wp2_with fail
       gi_meet
       exact⟨⟨by rw[a1.out],rfl,rfl,rfl,rfl,rfl,rfl,rfl,rfl,rfl⟩,a7 _ _ _ a2,a0.drewN _,a8⟩
     ·have u1:decide ((k:Int)<(m:Int))=false:=aE (by omega);have a1:=hid (show T=false by rw[HT.out,aE];rintro⟨h1,h2,_⟩;omega)
      gi_quiet (fail)
      gi_wp2_with fail
      gi_meet
      exact⟨⟨by rw[a1.out],rfl,rfl,rfl,rfl,rfl,rfl,rfl,rfl,rfl⟩,a7 _ _ _ a2,a0.drewN _,a8⟩
    case rest=>
     obtain⟨⟨rfl,rfl,rfl,rfl,rfl,rfl,rfl,rfl,rfl,rfl⟩,b6,a9,b0⟩:=hcut;clear b5 d6 d4 d5 c1 a2 a0
     cases T with
     |true=>
      have a3:=of_decide_eq_true HT.out.symm;have HS:=hid a3.2.2;have g1:=a3.1;have g2:=a3.2.1;clear a3
      gi_wp2_with fail
      have I:=d3.out
      gi_roundg (256-(k+1))
      case measure=>omega
      case rel=>exact⟨k+1,by omega,by omega,by omega,rfl,by go_num,hid (fun j hj=>by rcases cF j k with h|h;exact HJ.out j h;rw[show j=k by omega];exact HS.out),b6,a9,b0⟩
     |false=>
      have b7:=of_decide_eq_false HT.out.symm;have b8:bF s.data.toList=k:=zL d1 (by rw[HL.out];exact d2) HJ.out (by
       by_cases h1:k<s.size
       ·by_cases h2:k<255
        ·exact .inr (.inr (fun Z=>b7 ⟨h1,h2,Z⟩))
        ·exact .inl (by omega)
       ·exact .inr (.inl (by rw[HL.out];omega)))
      have a4:=CO s.data.toList c9.out;rw[b8] at a4;have e9:s.extract 0 k=mkS (s.data.toList.take k):=by rw[iW,List.drop_zero,Nat.sub_zero]
      obtain⟨F,b1⟩:∃F,F=s.extract k s.size:=⟨_,rfl⟩;have b2:F.data.toList=s.data.toList.drop k:=by
       rw[b1,iW,dP,List.take_of_length_le (by rw[bA,HL.out];omega)]
      have f7:F.size=s.size-k:=by
       have:F.data.toList.length=F.size:=by simp
       rw[<-this,b2,bA,HL.out]
      obtain⟨x,hx⟩:∃x,x=s.data.toList.take k:=⟨_,rfl⟩;rw[<-hx] at e9 a4;have a5:=HP.out;rw[a4] at a5;obtain⟨fn,tmps,assign,body,hy,hR⟩:=hY pre x wc b6 b0 ⟨_,a5.symm⟩;unfold oZ at hy;have f8:s.extract k s.size=F:=b1.symm;have f0:=hid (show(pre++[x])++fY F.data.toList=fY G.data.toList by rw[b2,List.append_assoc];exact a5);have c1:=a9.cell (i:=0) rfl;clear b1 b2 hx a4 a5 b7 b8 HT;have q1:(k:Int)<=(s.size:Int):=by omega
      gi_wp2_with fail
      refine hR.mono ?_;rintro e W3 (⟨rfl,b3,b9⟩|⟨rfl,b3⟩)
      rotate_left
      ·gi_wp2_with fail
       refine bodyPost_ret (results_none rfl _ _ _) rfl ?_;exact⟨⟨_,rfl⟩,.inr ⟨_,b3⟩⟩
      have b4:Arr W3 Bs 9 [.string s]:=b9.arr a9 (by decide) (fun q=>by cases q);have d0:=b4.cell (i:=0) rfl;have f3:=b4.free 0;have f1:H.heap.size<=W3.heap.size:=Nat.le_trans b0 b9.1
      gi_wp2_with fail
      have I:=HG.out
      gi_roundg F.size
      case measure=>omega
      case rel=>exact⟨pre++[x],F,rfl,by omega,f0.out,c4 _ _ _ b3,b4.set 0 _,by simpa using f1⟩
theorem bB1 (n:Nat) (F:1<=n) (Bs:Nat) (d:ByteArray) (G:d.size<=1000000) (w:World) (A:Arr w Bs 9 [.string d]):
  UO Bs n pG 191 #[.pointer (some ⟨Bs,0,none⟩)] oZ (eS [3] none) (eS [9] none) (fun _=>True) (fun pre x=>∃r,fY d.data.toList=pre++x::r) (fun H=>H=fY d.data.toList) w:=fun l J I W L M _ _ O U V=>
 (bB0 n F l Bs d G J I W M O (fun pre x Z a b c=>U pre x Z a b c) W rfl (A.below L A.lt) V).mono fun _ _ h=>⟨h.1,h.2.elim (fun k=>.inl ⟨_,rfl,k⟩) .inr⟩
end
section
def CV (room:Nat):Nat->List UInt8->List (List UInt8)
 |0,_=>[]
 |f+1,s=>if s=[] then[] else s.take (cJ s room)::CV room f (s.drop (cJ s room))
def fK (room:Nat) (s:List UInt8):List (List UInt8):=CV room s.length s
theorem aI8 {room:Nat} (d:1<=room):∀(f g:Nat) (s:List UInt8),s.length<=f->s.length<=g->CV room f s=CV room g s
 |0,g,s,A,_=>by
  have:s=[]:=nX.1 (by omega);subst this
  cases g<;>rfl
 |f+1,0,s,_,F=>by
  have:s=[]:=nX.1 (by omega);subst this;rfl
 |f+1,g+1,s,A,F=>by
  unfold CV
  by_cases h:s=[]
  ·rw[aB h,aB h]
  ·rw[aA h,aA h];have G:=AE h d;have H:=gG.2 h;rw[aI8 d f g _ (by rw[bA];omega) (by rw[bA];omega)]
theorem CW (room:Nat):fK room []=[]:=rfl
theorem vA {room:Nat} (d:1<=room) {s:List UInt8} (h:s≠[]):fK room s=s.take (cJ s room)::fK room (s.drop (cJ s room)):=by
 have F:=AE h d;have G:=gG.2 h;unfold fK;obtain⟨m,A⟩:∃m,s.length=m+1:=⟨s.length-1,by omega⟩;rw[A]
 conv=>lhs;unfold CV
 rw[aA h,aI8 d m (s.drop (cJ s room)).length _ (by rw[bA];omega) (aD _)]
theorem CX {room:Nat} (F:1<=room) {P:List UInt8->Prop} (d:P []) (G:∀s,s≠[]->P (s.drop (cJ s room))->P s):∀(n:Nat) (s:List UInt8),s.length<=n->P s
 |0,s,h=>by
  have:s=[]:=nX.1 (by omega);subst this;exact d
 |n+1,s,h=>by
  by_cases A:s=[]
  ·subst A;exact d
  ·have H:=AE A F;exact G s A (CX F d G n _ (by rw[bA];omega))
theorem aI9 {room:Nat} (d:1<=room) (s:List UInt8):(fK room s).flatten=s:=by
 refine CX d (P:=fun s=>(fK room s).flatten=s) rfl (fun s A F=>?_) s.length s (aD _);rw[vA d A,List.flatten_cons,F,List.take_append_drop]
theorem bDa {room:Nat} (A:1<=room) (s:List UInt8):∀p∈fK room s,p≠[]/\lnL p<=room:=by
 refine CX A (P:=fun s=>∀p∈fK room s,p≠[]/\lnL p<=room) (fun p d=>by simp[CW] at d) (fun s F G=>?_) s.length s (aD _);rw[vA A F];intro p d;rcases List.mem_cons.1 d with rfl|d
 ·have d:=AE F A;have H:=gG.2 F;refine⟨fun e=>?_,(pT s room).2.1⟩;have:=congrArg List.length e;rw[aQ,aV] at this;omega
 ·exact G p d
theorem bDb {room:Nat} (d:1<=room) {s:List UInt8} (A:s≠[]) (h:lnL s<=room):fK room s=[s]:=by
 rw[vA d A,bB3 h,List.take_length,List.drop_length,CW]
theorem VC:∀(n:Nat) (s:List UInt8),s.length<=n->4*lnL s<=5*s.length
 |_,[],_=>aD _
 |0,c::s,h=>absurd h (by simp)
 |n+1,c::s,h=>by
  have d:(c::s)≠[]:=by simp
  have F:=mH (c::s) d;have G:=MZ d;have A:=VC n ((c::s).drop (bF (c::s))) (by rw[bA];omega);rw[bA] at A;have H:4*lnP (bF (c::s))<=5*bF (c::s):=by unfold lnP;split<;>omega
  omega
theorem VD {room:Nat} (F:40<=room) (s:List UInt8):32*(fK room s).length<=s.length+32:=by
 refine CX (show 1<=room by omega) (P:=fun s=>32*(fK room s).length<=s.length+32) (by rw[CW];simp) (fun s d A=>?_) s.length s (aD _);have hi:=pT s room;rw[vA (by omega) d,aU];rw[bA] at A;have G:=gG.2 d;rcases cF (cJ s room) s.length with q|q
 ·have a:=hi.2.2 q;have b:=VC _ (s.take (cJ s room+1)) (aD _);rw[aQ] at b;omega
 ·have e:s.drop (cJ s room)=[]:=by rw[List.drop_eq_nil_iff];exact q
  rw[e,CW,aV];omega
end
end Go.Proofs.YtihbnmlinkbnkaaGreatDoor
