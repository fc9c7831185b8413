/-
  Texts put together (part 14): the walks and the plain laws on which the statement stands.
-/
import Derived.Test.YtpgmbhpbgkljdaaGreatDoorZ10
import Derived.Test.YtpgmbhpbgkljdaaGreatDoorZ11
set_option maxRecDepth 100000
set_option maxHeartbeats 12800000
open Array renaming replicate_succ->lL,replicate_zero->lM
open Go renaming CallsIn->mD,belowK_b->pJ,bodyPost_ret->gJ,callsIn_of_wp->tW,callsIn_of_wp_marks->xX,grownBy_putObj'->mC,run_takeDeferred->sJ,wpAnyH_ready->fL,wpAnyH_take->aQ
open Go.Act renaming put->aJ
open Go.AllReadyH renaming cons->fA,nil->fM
open Go.Fence renaming wide->eA
open Go.IntKind renaming u64->fU,wrap_u64->gF
open Go.KeepsOthers renaming drew->aC3,setCell->iH
open Go.RowKit.Below renaming refl->aB
open Go.Value renaming int->bO
open Int renaming toNat_natCast->eG
open List renaming append_assoc->cF,append_nil->eE,append_toArray->lO,cons_append->gE,countP_le_length->xR,filter_cons_of_neg->aTp,filter_nil->NP,getD_eq_getElem?_getD->aV,getElem?_cons_succ->aS,getElem?_cons_zero->aP,getElem?_eq_getElem->aN,getElem?_map->dY,getElem?_toArray->aR,getElem_mem->gT,length_cons->cR,length_map->bJ,length_nil->cX,map_append->fI,mem_filter->xN,mem_of_getElem?->cH,mem_range->jF,nil_append->iG,push_toArray->lN,range->dG,setIfInBounds_toArray->aK,set_cons_succ->aG,set_cons_zero->aH,size_toArray->mY,take_length->kE
open Nat renaming le_refl->aA,le_trans->aW,lt_of_lt_of_le->dR,pow_le_pow_right->jC,reduceAdd->lZ,reduceSub->mZ,zero_le->aU
open Option.some renaming injEq->iP
open Or renaming inl->aT
namespace Go.Proofs.YtpgmbhpbgkljdaaGreatDoor
section
open Go.RowKit Go Go.Shelf
attribute [local go_sem] Oper.semAt_some
theorem aPw {n:Nat} {F:Fence} {ops:Array Oper} {rest:List Oper} {o:Oper} {a:Act} {Q:Exit->Act->World->Prop} {w:World} (hgd:o.guard=none) (s x:Operand)
  (ho:o.op=.call {callee:=.builtin .append,args:=#[s,x],argTypes:=#[39,39]}) (base:Nat) (v:Value) (l:List Int) (hs:a.eval s=v) (hown:OwI w base v l)
  (g:Nat) (y:Int) (hx:a.eval x=.slice (some ⟨g,0,none⟩) 1 1) (hc:w.cell? ⟨g,0,none⟩=some (.int .i64 y)) (hroom:(l.length+1)*8<=140737488355328) (hbase:base<=w.heap.size)
  (h:∀v' w',OwI w' base v' (l++[y])->Below base w w'->w.grownBy w' v.ownBlock->wpListIn F n Tryz.prog ops Q rest (a.put o.dst v') w'):wpListIn F n Tryz.prog ops Q (o::rest) a w:=by
 obtain⟨i,hi,hz,h2,h3⟩:=gL.info;have h4:(bO .i64 0).cells.size=1:=by rw[gL.cells];rfl
 have hown':w.ownsRow base 3 1 v l.length (l.map (bO .i64)):=by have:=hown;unfold OwI Ow at this;rwa[bJ] at this
 refine wpListIn_append_own w hgd s x 39 ho base 3 i (.int .i64 0) 1 8 gL.under hi hz h2 h3 h4 (by decide) v l.length (l.map (bO .i64)) hs hown' ⟨g,0,none⟩ 1 1 [.int .i64 y] hx rfl ?_ (by simp[Value.oneCell']) (by simp only[maxLen];omega) hroom hbase (fun v' w' q1 q2 _=>h v' w' ?_ (rC hown' q2 hbase) q2)
 ·intro j u' hj
  cases j with
  |zero=>simp at hj;subst hj;simpa [Addr.add] using hc
  |succ j=>simp at hj
 ·unfold OwI Ow;rw[fI,List.length_append]
  simpa using q1
def iY (l:List Int) (k:Nat):List Nat:=(dG k).filter (fun n=>decide (bU l n≠0))
theorem ZY (l:List Int) (k:Nat):iY l (k+1)=iY l k++if bU l k≠0 then[k] else[]:=by
 unfold iY;rw[List.range_succ,List.filter_append]
 congr 1
 by_cases h:bU l k≠0
 ·rw[if_pos h,List.filter_cons_of_pos (by simpa using h),NP]
 ·rw[if_neg h,aTp (by simpa using h),NP]
theorem ZZ (l:List Int):∀m k,∃r,iY l (k+m)=iY l k++r
 |0,k=>⟨[],by simp⟩
 |m+1,k=>by
  obtain⟨r,hr⟩:=ZZ l m k;rw[show k+(m+1)=k+m+1 by omega,ZY,hr,cF];exact⟨_,rfl⟩
def lI (l:List Int) (n i:Nat):List Int:=(lR l n i).map (fun s:Nat=>(s:Int))
theorem ET (l:List Int) (n i:Nat) (h:i<=l.length):(lI l n i).length=bU (l.take i) n:=by unfold lI;rw[bJ,BO l n i h]
theorem aPx (l:List Int) (n i:Nat):lI l n (i+1)=lI l n i++if l.getD i 0==(n:Int) then[(i:Int)] else[]:=by
 unfold lI;rw[II,fI]
 congr 1
 split<;>rfl
def tI (l:List Int) (x:Nat×Value):Array Value:=#[.agg #[.int .i64 (x.1:Int),.int .u64 (fC l x.1:Int),x.2]]
def xA (l:List Int) (B:Nat) (pre:List (Nat×Value)) (x:Nat×Value) (W:World):Prop:=
 (∃r,pre.map (·.1)++x.1::r=iY l 21)/\(1<=x.1/\x.1<=20)/\0<bU l x.1/\pre.map (·.1)=iY l x.1/\OwI W B x.2 (lI l x.1 l.length)
theorem aPy (n:Nat) (hn:1<=n) (l0 Bs bo b1 o1 ca:Nat) (ls:List Int) (hE:bL ls=0) (J Jx:List (Nat×Value)->World->Prop) (W:World)
  (hA:Arr W Bs 39 [.slice (some ⟨b1,o1,none⟩) ls.length ca]) (hc:∀i x,ls[i]? =some x->W.cell? ⟨b1,o1+i,none⟩=some (.int .i64 x)) (hb1:b1≠bo) (hBs:Bs≠bo) (hbo:bo<W.heap.size) (hb1W:b1<W.heap.size)
  (hJs:∀s A B,J s A->Below W.heap.size A B->J s B)
  (hY:∀pre x W1,J pre W1->W.heap.size<=W1.heap.size->xA ls W.heap.size pre x W1->YieldAt eA (n-1) Tryz.prog l0 (tI ls x) W1 fun e W'=>(e=.returned (.bool true)/\J (pre++[x]) W'/\dP (some bo) W1 W')\/(e=.returned (.bool false)/\Jx (pre++[x]) W'))
  (h0:J [] W):
  mD eA n Tryz.prog 155 #[.func (.yield l0) #[] #[],.pointer (some ⟨Bs,0,none⟩)] W fun e W'=>(∃v,e=.returned v)/\((∃xs:List (Nat×Value),xs.map (·.1)=iY ls 21/\J xs W')\/∃pre,Jx pre W'):=by
 have hok:=eH hE;have HLT:=hid (fun i (h:i<ls.length)=>(jG hok.1 h));have hl2:=hok.1.2.1;have HNB:=hid (fun k (hk:k<=20)=>DJ (i:=ls.length) hok.1 hok.2 hk);have HF1:=hid (PA (fun x hx=>(hok.1.2.2 x hx).1));have HL1:=hid (show iY ls 1=[] by
  unfold iY;rw[show dG 1=[0] from rfl,aTp (by simp[OZ (fun x hx=>(hok.1.2.2 x hx).1)]),NP])
 have HJS:=hid hJs;have HC0:=hid hc;clear hok hJs hc;refine tW Tryz.func155 rfl trivial ?_ rfl;simp only[Tryz.ntmps155,mY,cR,cX,lZ,mZ,lL,lM,lN,lO,iG,gE]
 gi_wp2_with fail
 gi_loopg [3,4] 20 (fun g s3 s4 wr=>∃(k V:Nat) (pre:List (Nat×Value)),1<=k/\k<=21/\g=21-k/\s4=.int .i64 (k:Int)/\s3=.int .u64 (V:Int)/\Hid (2*V=fC ls k)/\V<=1048576/\Hid (pre.map (·.1)=iY ls k)/\J pre wr/\W.heap.size<=wr.heap.size/\dP (some bo) W wr)
 case atStart=>exact⟨1,0,[],by omega,by omega,rfl,rfl,rfl,hid (by rw[HF1.out]),by omega,hid (by rw[HL1.out];rfl),h0,aA _,dP.refl _ _⟩
 case round=>
  obtain⟨k,V,pre,hk1,hk2,hg,rfl,rfl,HV,hVb,HP,hJ,hsz,hck⟩:=hrel;have HG:=hid hg;clear hg
  by_cases hk:k<=20
  ·have t1:decide ((k:Int)<=20)=true:=decide_eq_true (by omega);obtain⟨X,hX⟩:∃X,X=2*V:=⟨_,rfl⟩;have HX:=hid (show X=fC ls k by rw[hX,HV.out]);have m1:fU.wrap ((V:Int)*2)=(X:Int):=by rw[gF];omega
   have m2:(V:Int)*2=(X:Int):=by omega
   have m3:(V:Int)*2%18446744073709551616=(X:Int):=by omega
   have m4:fU.wrap (X:Int)=(X:Int):=by rw[gF];omega
   have hXb:X<=2097152:=by omega
   have hA1:=hck.arr hA (by simp;exact hBs);have hB1:=hA1.lt;have c0:=hA1.cell (i:=0) rfl;clear hX hA1
   gi_wp2_with fail
   have hSA:=Arr.new wr 217 [.int .i64 (k:Int),.int .u64 (X:Int),.slice none 0 0];change Arr (wr.alloc (.cells #[.int .i64 (k:Int),.int .u64 (X:Int),.slice none 0 0] 217)) _ _ _ at hSA;have hBw:Below wr.heap.size wr (wr.alloc (.cells #[.int .i64 (k:Int),.int .u64 (X:Int),.slice none 0 0] 217)):=bD (aB _ _) _;have hsw:(wr.alloc (.cells #[.int .i64 (k:Int),.int .u64 (X:Int),.slice none 0 0] 217)).heap.size=wr.heap.size+1:=by simp
   generalize wr.alloc (.cells #[.int .i64 (k:Int),.int .u64 (X:Int),.slice none 0 0] 217)=w1 at*
   obtain⟨S,hS⟩:∃S,S=wr.heap.size:=⟨_,rfl⟩;rw[<-hS] at hSA hBw hsw ⊢;have hcK:∀i x,ls[i]? =some x->wr.cell? ⟨b1,o1+i,none⟩=some (.int .i64 x):=fun i x hi=>hck.cell (HC0.out i x hi) (by simp;exact hb1)
   have HCK:=hid hcK;have hb1S:b1<S:=by rw[hS];exact dR hb1W hsz
   have hJ1:J pre w1:=HJS.out _ _ _ hJ (hBw.mono (by omega));have hck1:dP (some bo) W w1:=hck.trans (dP.of_below (by rw[<-hS];exact hBw));have hWS:W.heap.size<=S:=by omega
   obtain⟨W0,hW0⟩:∃W0,W0=wr:=⟨_,rfl⟩;rw[<-hW0] at hBw HCK hsz hck hJ hS;have HJ0:=hid hJ;have HS:=hid hS;clear hS hcK c0 hB1 hJ hJ1 hck1
   gi_loopg [6,7,19] ls.length (fun g _s6 _s7 s19 wx=>∃(i:Nat) (u:Value),i<=ls.length/\g=ls.length-i/\s19=.int .i64 (i:Int)/\Arr wx S 217 [.int .i64 (k:Int),.int .u64 (X:Int),u]/\OwI wx (S+1) u (lI ls k i)/\Below S W0 wx/\S<wx.heap.size)
   case atStart=>exact⟨0,.slice none 0 0,aU _,rfl,rfl,hSA,OwI.nil _ _,hBw,by omega⟩
   case round=>
    clear hSA hBw;obtain⟨i,u,hi,hg,rfl,hSA,ho,hBw,hSs⟩:=hrel;have HG2:=hid hg;clear hg
    by_cases hlt:i<ls.length
    ·have t2:decide ((i:Int)<(ls.length:Int))=true:=decide_eq_true (by omega);obtain⟨hx1,hx2,hx⟩:=HLT.out i hlt;have c1:=(hBw.cell (p:=⟨b1,o1+i,none⟩) hb1S).trans (HCK.out i _ hx);have hgD:ls.getD i 0=(bG ls i:Int):=by rw[aV,hx];rfl
     have hws:=aPx ls k i;rw[hgD] at hws;obtain⟨x,hxe⟩:∃x,x=bG ls i:=⟨_,rfl⟩;rw[<-hxe] at c1 hws hx1 hx2;clear hxe hx hgD;have d2:=hSA.cell (i:=2) rfl;have hwl:(lI ls k i).length<=258:=by rw[ET ls k i (by omega)];unfold bU;exact aW xR (by rw[List.length_take];omega)
     have hne:some S≠u.ownBlock:=fun e=>by have:=(Ow.lt ho S e.symm).1;omega
     by_cases hxk:x=k
     ·subst hxk;have t3:decide ((x:Int)=(x:Int))=true:=decide_eq_true rfl;have hws2:=hws;rw[if_pos (by simp)] at hws2;have HWS:=hid hws2;clear hws hws2
      gi_wp2_with (gi_at_builtin;refine aPw rfl _ _ rfl (S+1) _ _ rfl (OwI.alloc ho _) _ (i:Int) rfl (bS _ _ _) ?_ ?_ ?_;(omega);(simp;omega);intro v3 w3 p1 p2 p3;(obtain⟨a3,c3,hv3e,_,_,_⟩:=(OwI.rd p1).open);subst hv3e;(have hS3:=(hSA.alloc (.cells #[.int .i64 (i:Int)] 3)).grown p3 hne);(have e2:=hS3.cell (i:=2) rfl);(have g2:=hS3.free 2))
      have hg2:=HG2.out
      gi_roundg (ls.length-(i+1))
      case measure=>omega
      case rel=>
       have e3:(lI ls x i++[(i:Int)]).length=(lI ls x i).length+1:=by simp
       rw[e3] at p1;have hv3:Value.ownBlock (.slice a3 ((lI ls x i).length+1) c3)≠some S:=fun e=>by have:=(Ow.lt p1 S e).1;omega
       refine⟨i+1,.slice a3 ((lI ls x i).length+1) c3,by omega,rfl,by go_num,hS3.set 2 _,?_,(((hBw.alloc (by omega) _).trans (p2.mono (by omega))).setCell (p:=⟨S,2,none⟩) (aA _) _),?_⟩
       ·rw[HWS.out];exact Ow.kept p1 (MP w3 S 2 _) (.inr hv3)
       ·have:=p2.size;simp at this ⊢;omega
     ·have t3:decide ((x:Int)=(k:Int))=false:=decide_eq_false (by omega);rw[if_neg (by simp;omega),eE] at hws;have HWS:=hid hws;clear hws
      gi_wp2_with fail
      have hg2:=HG2.out
      gi_roundg (ls.length-(i+1))
      case measure=>omega
      case rel=>exact⟨i+1,u,by omega,rfl,by go_num,hSA,by rw[HWS.out];exact ho,hBw,hSs⟩
    ·have t2:decide ((i:Int)<(ls.length:Int))=false:=decide_eq_false (by omega);have hie:i=ls.length:=by omega
     subst hie;obtain⟨C,hC⟩:∃C,C=bU ls k:=⟨_,rfl⟩;have hwl:(lI ls k ls.length).length=C:=by rw[ET ls k _ (aA _),kE,hC]
     have hnb:=HNB.out k hk;unfold iW at hnb;rw[kE,<-HX.out,<-hC] at hnb;obtain⟨V2,hV2⟩:∃V2,V2=X+C:=⟨_,rfl⟩;have m5:fU.wrap (C:Int)=(C:Int):=by rw[gF];omega
     have m6:(C:Int)%18446744073709551616=(C:Int):=by omega
     have m7:fU.wrap (V2:Int)=(V2:Int):=by rw[gF];omega
     have m8:(X:Int)+(C:Int)=(V2:Int):=by omega
     have hV2b:V2<=1048576:=by omega
     have HV2:=hid (show 2*V2=fC ls (k+1) by rw[hV2,HX.out,hC];rfl);have hls:=ZY ls k;rw[<-hC] at hls;have hJr:J pre wr:=HJS.out _ _ _ HJ0.out (hBw.mono hWS);have hckr:dP (some bo) W wr:=hck.trans (dP.of_below (by rw[<-HS.out];exact hBw));obtain⟨r',hr'⟩:=ZZ ls (21-(k+1)) (k+1);rw[show k+1+(21-(k+1))=21 by omega] at hr';obtain⟨a',ca',hua,_,_,_⟩:=(OwI.rd ho).open;rw[hwl] at hua;subst hua;have d2:=hSA.cell (i:=2) rfl;have d0:=hSA.cell (i:=0) rfl;have d1:=hSA.cell (i:=1) rfl
     by_cases hC0:C=0
     ·have t3:decide ((C:Int)>0)=false:=decide_eq_false (by omega);have t4:decide (0<C)=false:=decide_eq_false (by omega);have t5:¬0<C:=by omega
      rw[if_neg (fun q=>q hC0),eE] at hls;obtain rfl:V2=X:=by omega
      have HPF:=hid (show pre.map (·.1)=iY ls (k+1) by rw[HP.out,hls]);clear hC hls hV2 hr' hnb hwl
      gi_wp2_with fail
      refine⟨fun _ h=>(by cases h),?_⟩
      gi_wp2_with fail
      have hg:=HG.out
      gi_roundg (21-(k+1))
      case measure=>omega
      case rel=>exact⟨k+1,V2,pre,by omega,by omega,rfl,by go_num,rfl,HV2,hV2b,HPF,hJr,by omega,hckr⟩
     ·have t3:decide ((C:Int)>0)=true:=decide_eq_true (by omega);have t4:decide (0<C)=true:=decide_eq_true (by omega);have t5:0<C:=by omega
      rw[if_pos hC0] at hls;have HPF:=hid (show(pre++[(k,Value.slice a' C ca')]).map (·.1)=iY ls (k+1) by rw[fI,HP.out,hls];rfl);obtain⟨fn,tmps,assign,body,hy,hR⟩:=hY pre (k,.slice a' C ca') wr hJr (by omega) ⟨⟨r',by rw[HP.out,hr',hls,cF];rfl⟩,⟨hk1,hk⟩,by rw[<-hC];omega,HP.out,OwI.base ho (by omega)⟩;have hy2:(Instr.yield l0 #[.agg #[.int .i64 (k:Int),.int .u64 (X:Int),.slice a' C ca']]).run Tryz.prog wr=.ok (.round l0 fn tmps assign body) wr:=by
       have e:tI ls (k,.slice a' C ca')=#[.agg #[.int .i64 (k:Int),.int .u64 (X:Int),.slice a' C ca']]:=by unfold tI;rw[HX.out]
       rw[<-e];exact hy
      have hbS:some S≠some bo:=fun e=>by injection e with e;omega
      clear hC hls hV2 hr' hnb hwl hy
      gi_wp2_with fail
      refine hR.mono ?_;rintro e W3 (⟨rfl,hJ3,hk3⟩|⟨rfl,hJ3⟩)
      ·have hS3:=hk3.arr hSA hbS;have e2:=hS3.cell (i:=2) rfl;have hs3:=hk3.1;clear d0 d1 d2
       gi_wp2_with fail
       have hg:=HG.out
       gi_roundg (21-(k+1))
       case measure=>omega
       case rel=>exact⟨k+1,V2,pre++[(k,.slice a' C ca')],by omega,by omega,rfl,by go_num,rfl,HV2,hV2b,HPF,hJ3,by omega,hckr.trans hk3⟩
      ·gi_wp2_with fail
       refine gJ (results_none rfl _ _ _) rfl ?_;exact⟨⟨_,rfl⟩,.inr ⟨_,hJ3⟩⟩
  ·have t1:decide ((k:Int)<=20)=false:=decide_eq_false (by omega);have hke:k=21:=by omega
   have HPF:=hid (show pre.map (·.1)=iY ls 21 by rw[HP.out,hke])
   gi_wp2_with fail
   go_end0
   exact⟨⟨_,rfl⟩,.inl ⟨pre,HPF.out,hJ⟩⟩
theorem aPz {F:Fence} {m:Nat} {P:Program} {ops:Array Oper} {rest:List Oper} {o:Oper} {a:Act} {Q:Exit->Act->World->Prop} {w:World} {t e bytes:Nat} {z x y:Value} (hu:P.underlying t=some (.slice e)) (hinfo:(P.info? e).map (fun i=>(i.zero,i.size,i.bytes))=some (some z,2,bytes)) (hzc:z.cells=#[x,y]) (hgd:o.guard=none) (l c:Operand)
  (ho:o.op=.makeSlice t l c) (n:Nat) (hl:a.eval l=.int .i64 (n:Int)) (hc:a.eval c=.int .i64 (n:Int)) (hroom:n*bytes<=140737488355328) (hn:n<=140737488355328)
  (h:wpListIn F m P ops Q rest (a.put o.dst (.slice (some ⟨w.heap.size,0,none⟩) n n)) (w.alloc (.cells (cD n (fun _=>(x,y))).toArray e))):wpListIn F m P ops Q (o::rest) a w:=by
 refine wpListIn_plain hgd fun K hK'=>?_
 obtain⟨i,hi,hz,h2,h3⟩:=info_parts hinfo;have hb:(i.bytes:Int)*(n:Int)<=281474976710656:=by
  rw[h3,<-Int.natCast_mul,Nat.mul_comm];omega
 have hrun:=run_make (P:=P) w t e i z hu hi hz .i64 .i64 (n:Int) (n:Int) (by omega) (Int.le_refl _) hb (by omega);rw[h2,eG,hzc,SW] at hrun;unfold Oper.wpIn;refine⟨?_,?_⟩
 ·simp[Oper.about,ho]
 ·rw[Oper.semAt_plain F _ _ (by rw[ho];intro c hc';cases hc')];simp[execOp,ho,hl,hc,hrun,Result.andThen];exact hK' _ _ h
theorem aAa (n:Nat) (b o len cap:Nat) (w:World):
  mD eA n Tryz.prog 138 #[.slice (some ⟨b,o,none⟩) len cap] w fun e w'=>e=.returned (.func (.func 155) #[] #[.pointer (some ⟨w.heap.size,0,none⟩)])/\w'=w.alloc (.cells #[.slice (some ⟨b,o,none⟩) len cap] 39):=by
 refine tW Tryz.func138 rfl trivial ?_ rfl;simp only[Tryz.ntmps138,mY,cR,cX,lZ,mZ,lL,lM,lN,lO,iG,gE]
 gi_wp2
 go_ret;exact⟨rfl,rfl⟩
def kR (l:List Int) (S:List Nat) (n i d:Nat):Value×Value:=if bG l d∈S\/(bG l d=n/\bU (l.take d) n<i) then qP l d else(.int .i64 0,.int .u64 0)
theorem aP0 (l:List Int) (n:Nat):cD l.length (kR l [] n 0)=cD l.length (fun _=>(.int .i64 0,.int .u64 0)):=
 rS fun d _=>by
  unfold kR;rw[if_neg (by simp)]
theorem aP1 (l:List Int) (S:List Nat) (n m:Nat):cD l.length (kR l S n 0)=cD l.length (kR l S m 0):=
 rS fun d _=>by
  unfold kR
  by_cases h:bG l d∈S
  ·rw[if_pos (.inl h),if_pos (.inl h)]
  ·rw[if_neg (by simp[h]),if_neg (by simp[h])]
theorem aP2 {l:List Int} (h:fY l) (S:List Nat) (n m:Nat):cD l.length (kR l S n (bU l n))=cD l.length (kR l (S++[n]) m 0):=
 rS fun d hd=>by
  unfold kR
  by_cases h1:bG l d∈S
  ·rw[if_pos (.inl h1),if_pos (.inl (by simp[h1]))]
  ·by_cases h2:bG l d=n
   ·have:=BK hd (jG h hd).2.2;rw[h2] at this;rw[if_pos (.inr ⟨h2,this⟩),if_pos (.inl (by simp[h2]))]
   ·rw[if_neg (by simp[h1,h2]),if_neg (by simp[h1,h2])]
theorem aP3 {l:List Int} (h:fY l) (m:Nat):cD l.length (kR l (iY l 21) m 0)=cD l.length (qP l):=
 rS fun d hd=>by
  have h1:=jG h hd;have h2:=BK hd h1.2.2;have hm:bG l d∈iY l 21:=by
   unfold iY;rw[xN,jF];refine⟨by omega,?_⟩;rw[decide_eq_true_eq];omega
  unfold kR;rw[if_pos (.inl hm)]
theorem aP4 {l:List Int} (h:fY l) {S:List Nat} {n i s:Nat} (hs:(lR l n l.length)[i]? =some s):
  s<l.length/\((cD l.length (kR l S n i)).set (s*2) (.int .i64 (n:Int))).set (s*2+1) (.int .u64 ((fC l n+i:Nat):Int))=cD l.length (kR l S n (i+1)):=by
 obtain⟨h1,h2,h3⟩:=PF l n l.length (aA _) i s hs;have hl:=jG h h1;have hln:bG l s=n:=by unfold bG;rw[h2];rfl
 refine⟨h1,KG _ _ _ _ _ _ fun d hd=>?_⟩;unfold kR
 by_cases e:d=s
 ·subst e;rw[if_pos (.inr ⟨hln,by omega⟩),if_pos rfl];unfold qP fO;rw[hln,h3]
 ·rw[if_neg e]
  by_cases k1:bG l d∈S
  ·rw[if_pos (.inl k1),if_pos (.inl k1)]
  ·by_cases k2:bG l d=n
   ·have hd2:=(jG h hd).2.2;rw[k2] at hd2;have hs2:=hl.2.2;rw[hln] at hs2;have k3:bU (l.take d) n≠i:=fun q=>by
     rcases Nat.lt_trichotomy d s with z|z|z
     ·have:=BP z h1 hd2;omega
     ·exact e z
     ·have:=BP z hd hs2;omega
    by_cases k4:bU (l.take d) n<i
    ·rw[if_pos (.inr ⟨k2,by omega⟩),if_pos (.inr ⟨k2,k4⟩)]
    ·rw[if_neg (by simp[k1];omega),if_neg (by simp[k1];omega)]
   ·rw[if_neg (by simp[k1,k2]),if_neg (by simp[k1,k2])]
theorem aAb (n:Nat) (hn:1<=n) (Bs bo b1 o1 ca:Nat) (ls:List Int) (hE:bL ls=0) (w:World) (hA:Arr w Bs 39 [.slice (some ⟨b1,o1,none⟩) ls.length ca]) (hc:∀i x,ls[i]? =some x->w.cell? ⟨b1,o1+i,none⟩=some (.int .i64 x)) (hb1:b1≠bo) (hBs:Bs≠bo) (hbo:bo<w.heap.size) (hb1W:b1<w.heap.size):
  ZW n Tryz.prog 155 #[.pointer (some ⟨Bs,0,none⟩)] (tI ls) (dP (some bo)) (xA ls) (fun xs=>xs.map (·.1)=iY ls 21) w:=fun l J Jx W hW hJ _ hY h0=>by
 have hs:=hW.size;exact aPy n hn l Bs bo b1 o1 ca ls hE J Jx W (hA.below hW hA.lt) (fun i x hi=>(hW.cell (p:=⟨b1,o1+i,none⟩) hb1W).trans (hc i x hi)) hb1 hBs (by omega) (by omega) hJ hY h0
theorem aAc {ls:List Int}:∀(B:Nat) (pre:List (Nat×Value)) (x:Nat×Value) (A A':World),xA ls B pre x A->dP none A A'->xA ls B pre x A':=fun _ _ _ _ _ ⟨h1,h2,h3,h4,h5⟩ hk=>⟨h1,h2,h3,h4,dP.ow hk h5 (fun _ _ e=>by cases e)⟩
theorem aP5 {B g:Nat} {A C:World} (h:A.grownBy C (some g)) (hg:B<=g) (hB:B<=A.heap.size):Below B A C:=(aB B A).grown h hB (fun k hk=>by cases hk;exact hg)
theorem aAd {A B C:World} {g:Option Nat} (h:A.grownBy B g) (k:B.grownBy C g):A.grownBy C g:=
 ⟨k.os.trans h.os,k.tape.trans h.tape,k.output.trans h.output,aW h.size k.size,fun i hi hne=>(k.block i (dR hi h.size) hne).trans (h.block i hi hne)⟩
theorem aP6 (A:World) (g:Option Nat):A.grownBy A g:=⟨rfl,rfl,rfl,aA _,fun _ _ _=>rfl⟩
theorem aP7 (n:Nat) (hn:3<=n) (v:Value) (l:List Int) (w:World) (hr:RdI w v l):
  mD eA n Tryz.prog 115 #[v] w fun e w'=>∃u,e=.returned (.tuple #[u,.int .i64 (bL l)])/\(bL l=0->Wds w' w.heap.size u l)/\(bL l≠0->u=.slice none 0 0)/\Below w.heap.size w w':=by
 have h1:1<=n:=by omega
 obtain⟨a,ca,rfl,hca,hma,hA⟩:=hr.open;unfold maxLen at hma;refine xX Tryz.func115 rfl trivial ?_ rfl;simp only[Tryz.ntmps115,mY,cR,cX,lZ,mZ,lL,lM,lN,lO,iG,gE]
 by_cases hE:bL l=0
 rotate_left
 ·have HE:=hid hE;obtain⟨E,hEE⟩:∃E,E=bL l:=⟨_,rfl⟩;rw[<-hEE] at hE;have t0':(E != 0)=true:=by simpa using hE
  gi_wp2_with fail
  refine⟨trivial,(callsIn_wide.2 (zS _ l _ hr)).mono ?_⟩;rintro e w1 ⟨rfl,hb1⟩;rw[<-hEE];have HEE:=hid hEE;clear hEE
  gi_wp2_with fail
  exact⟨_,results_tmp2 rfl _ _ _,.slice none 0 0,by rw[HEE.out];rfl,fun q=>absurd q HE.out,fun _=>rfl,hb1⟩
 ·have hok:=eH hE;have HO:=hid hok.1;have HNB:=hid (fun k (hk:k<=20)=>DJ (i:=0) hok.1 hok.2 hk);have hl2:=hok.1.2.1;have hl1:=hok.1.1;obtain⟨b1,o1,rfl,hb1,hc1⟩:=hA (by omega)
  gi_wp2_with fail
  refine⟨trivial,(callsIn_wide.2 (zS _ l _ hr)).mono ?_⟩;rintro e w1 ⟨rfl,hb1'⟩;rw[hE];have HE:=hid hE;have hc2:∀i x,l[i]? =some x->w1.cell? ⟨b1,o1+i,none⟩=some (.int .i64 x):=fun i x hi=>(hb1'.cell (p:=⟨b1,o1+i,none⟩) hb1).trans (hc1 i x hi)
  have HC2:=hid hc2;have hs1:=hb1'.size;clear hE hok hr hA hc1 hc2
  gi_wp2_with (gi_at_make;refine aPz Tryz.underlying176 SX rfl rfl _ _ rfl l.length rfl rfl ?_ ?_ ?_;(omega);(omega))
  refine⟨trivial,(aAa (n-1) b1 o1 l.length ca _).mono ?_⟩;rintro e w' ⟨rfl,rfl⟩;have hA0:=Arr.new w1 180 (cD l.length (fun _=>(.int .i64 0,.int .u64 0)));rw[<-aP0 l 0] at hA0 ⊢;have k0:Below w.heap.size w (w1.alloc (.cells (cD l.length (kR l [] 0 0)).toArray 180)):=hb1'.alloc hs1 _;have z0:(w1.alloc (.cells (cD l.length (kR l [] 0 0)).toArray 180)).heap.size=w1.heap.size+1:=by simp
  have y0:Below w1.heap.size w1 (w1.alloc (.cells (cD l.length (kR l [] 0 0)).toArray 180)):=bD (aB _ _) _;generalize w1.alloc (.cells (cD l.length (kR l [] 0 0)).toArray 180)=w2 at*
  have hA1:=Arr.new w2 176 [.slice (some ⟨w1.heap.size,0,none⟩) l.length l.length];rw[z0] at hA1;have hA2:=Arr.new (w2.alloc (.cells #[.slice (some ⟨w1.heap.size,0,none⟩) l.length l.length] 176)) 39 [.slice (some ⟨b1,o1,none⟩) l.length ca];have h01:=(hA0.alloc (.cells #[.slice (some ⟨w1.heap.size,0,none⟩) l.length l.length] 176)).alloc (.cells #[.slice (some ⟨b1,o1,none⟩) l.length ca] 39);have h11:=hA1.alloc (.cells #[.slice (some ⟨b1,o1,none⟩) l.length ca] 39);rw[World.size_alloc,z0] at hA2
  have hB3:Below w.heap.size w ((w2.alloc (.cells #[.slice (some ⟨w1.heap.size,0,none⟩) l.length l.length] 176)).alloc (.cells #[.slice (some ⟨b1,o1,none⟩) l.length ca] 39)):=(k0.alloc (by omega) _).alloc (by simp;omega) _;have hz3:((w2.alloc (.cells #[.slice (some ⟨w1.heap.size,0,none⟩) l.length l.length] 176)).alloc (.cells #[.slice (some ⟨b1,o1,none⟩) l.length ca] 39)).heap.size=w1.heap.size+3:=by simp;omega
  have hy3:Below w1.heap.size w1 ((w2.alloc (.cells #[.slice (some ⟨w1.heap.size,0,none⟩) l.length l.length] 176)).alloc (.cells #[.slice (some ⟨b1,o1,none⟩) l.length ca] 39)):=(y0.alloc (by omega) _).alloc (by simp;omega) _
  gi_wp2_with fail
  generalize (w2.alloc (.cells #[.slice (some ⟨w1.heap.size,0,none⟩) l.length l.length] 176)).alloc (.cells #[.slice (some ⟨b1,o1,none⟩) l.length ca] 39)=w3 at*
  obtain⟨O,hO⟩:∃O,O=w1.heap.size:=⟨_,rfl⟩;rw[<-hO] at hA2 h01 h11 hz3 hs1 hy3 ⊢;have hb1O:b1<O:=by omega
  have hc3:∀i x,l[i]? =some x->w3.cell? ⟨b1,o1+i,none⟩=some (.int .i64 x):=fun i x hi=>(hy3.cell (p:=⟨b1,o1+i,none⟩) hb1O).trans (HC2.out i x hi)
  have HO2:=hid hO;clear k0 z0 y0 hA0 hA1 hO hb1' hy3;refine ZX (w0:=w3) (Kp:=dP (some O)) (Pre:=xA l) (encs:=tI l) h1 (gf:=155) (lb:=#[.pointer (some ⟨O+1+1,0,none⟩)]) rfl (enters_of Tryz.func155 (by kernel_rfl) rfl)
   (aAb (n-1) (by omega) (O+1+1) O b1 o1 ca l HE.out w3 hA2 hc3 (by omega) (by omega) (by omega) (by omega)) (aB _ _) (fun _=>rfl)
   (fun h k=>h.trans k) (fun _ _ h=>h.some _) aAc
   (fun pre W=>(Arr W O 180 (cD l.length (kR l (pre.map (·.1)) 0 0))/\Arr W (O+1) 176 [.slice (some ⟨O,0,none⟩) l.length l.length])/\Below w.heap.size w W)
   (fun _ _ _=>False)
   (fun s A B hs hAB=>⟨⟨hs.1.1.below hAB (by omega),hs.1.2.below hAB (by omega)⟩,hs.2.trans (hAB.mono (by omega))⟩)
   (fun _ _ _ _ h _=>h.elim)
   ⟨⟨h01,h11⟩,hB3⟩
   (fun x a' W=>∃sb,w3.heap.size<=sb/\Arr W sb 217 [.int .i64 (x.1:Int),.int .u64 (fC l x.1:Int),x.2]/\a'={tmps:=#[.slice (some ⟨b1,o1,none⟩) l.length ca,undef,.slice none 0 0,.int .i64 0,.int .i64 0,.pointer (some ⟨O+1,0,none⟩),.pointer (some ⟨sb,0,none⟩),undef,undef,.slice (some ⟨b1,o1,none⟩) l.length ca,.int .i64 0,.int .i64 0,.bool false,undef,.slice (some ⟨b1,o1,none⟩) l.length ca,.int .i64 (l.length:Int),.slice (some ⟨O,0,none⟩) l.length l.length,.slice (some ⟨b1,o1,none⟩) l.length ca,.func (.func 155) #[] #[.pointer (some ⟨O+1+1,0,none⟩)],.agg #[.int .i64 (x.1:Int),.int .u64 (fC l x.1:Int),x.2],undef,undef,undef,undef,undef,undef,undef,undef,undef,undef,undef,undef,undef,undef,undef,undef,undef,undef,undef,undef,undef],defers:=[]})
   (fun x a' A A' ⟨sb,k1,k2,k3⟩ hk=>⟨sb,k1,hk.arr k2 (by simp),k3⟩) ?assign ?body ?done ?stop
  case assign=>
   rintro l0 B pre ⟨m,u⟩ W K hI hB hBW hpre hK;obtain⟨a',ca',hua,_,_,_⟩:=(OwI.rd hpre.2.2.2.2).open;dsimp only at hua;subst hua;unfold tI
   gi_wp2
   exact hK _ _ (bD (aB _ _) _) ⟨W.heap.size,by omega,Arr.new W _ [_,_,_],rfl⟩
  case body=>
   rintro l0 B pre ⟨m,u⟩ a' W ⟨⟨hOut,hBox⟩,hbel⟩ hB hBW ⟨_,⟨hx1,hx2⟩,hc0,hpm,ho⟩ ⟨sb,hsb,hS,rfl⟩;dsimp only at hx1 hx2 hc0 hpm ho hS ⊢;obtain⟨C,hC⟩:∃C,C=bU l m:=⟨_,rfl⟩;have hwl:(lI l m l.length).length=C:=by rw[ET l m _ (aA _),kE,hC]
   have hwl2:(lR l m l.length).length=C:=by rw[BO l m _ (aA _),kE,hC]
   have hCl:C<=258:=by rw[hC];unfold bU;exact aW xR hl2
   have hfb:fC l m<=1048576:=by
    have:=HNB.out m hx2;unfold iW at this;omega
   obtain⟨X,hX⟩:∃X,X=fC l m:=⟨_,rfl⟩;have ho1:=OwI.rd ho;have hob:=Ow.lt ho;obtain⟨a',ca',hua,h4,h5,h6⟩:=ho1.open;rw[hwl] at hua h4 h6;obtain⟨bu,ou,rfl,hbu,hcu⟩:=h6 (by omega);subst hua;have hbu1:B<=bu:=(hob bu (by rfl)).1;have hput:=fun i s hi=>aP4 (S:=pre.map (·.1)) (i:=i) (s:=s) HO.out (n:=m) hi
   rw[<-hX] at hS hput hfb ⊢;have HPUT:=hid hput;have HNX:=hid (aP2 HO.out (pre.map (·.1)) m 0);rw[<-hC] at HNX;rw[aP1 l (pre.map (·.1)) 0 m] at hOut;have HWL:=hid hwl2;have HCU:=hid hcu;have hwO:Below w.heap.size w W:=hbel;have hsz:=hbel.size;clear hput hX hC hwl hwl2 hcu ho ho1 hob hpm;have d2:=hS.cell (i:=2) rfl
   gi_wp2_with fail
   gi_loopg [7,8,23] C (fun g _s7 _s8 s23 wx=>∃i:Nat,i<=C/\g=C-i/\s23=.int .i64 (i:Int)/\Arr wx O 180 (cD l.length (kR l (pre.map (·.1)) m i))/\W.grownBy wx (some O))
   case atStart=>exact⟨0,aU _,rfl,rfl,hOut,aP6 _ _⟩
   case round=>
    clear hOut d2;obtain⟨i,hi,hg,rfl,hOut,hgr⟩:=hrel;have HG:=hid hg;clear hg;have hBoxr:=hBox.grown hgr (by simp);have hSr:=hS.grown hgr (by simp;omega);have e0:=hSr.cell (i:=0) rfl;have e1:=hSr.cell (i:=1) rfl;have e5:=hBoxr.cell (i:=0) rfl
    by_cases hlt:i<C
    ·have t1:decide ((i:Int)<(C:Int))=true:=decide_eq_true (by omega);obtain⟨s,hs⟩:∃s,(lR l m l.length)[i]? =some s:=⟨_,aN (by rw[HWL.out];exact hlt)⟩;obtain⟨hsl,hset⟩:=HPUT.out i s hs;have HSET:=hid hset;have cu0:W.cell? ⟨bu,ou+i,none⟩=some (.int .i64 (s:Int)):=HCU.out i _ (by unfold lI;rw[dY,hs];rfl);have cu:wr.cell? ⟨bu,ou+i,none⟩=some (.int .i64 (s:Int)):=hgr.cell cu0 (by simp;omega);obtain⟨Y,hY⟩:∃Y,Y=X+i:=⟨_,rfl⟩;rw[<-hY] at HSET;have m1:fU.wrap (i:Int)=(i:Int):=by rw[gF];omega
     have m2:(i:Int)%18446744073709551616=(i:Int):=by omega
     have m3:(X:Int)+(i:Int)=(Y:Int):=by omega
     have m4:fU.wrap (Y:Int)=(Y:Int):=by rw[gF];omega
     have d0:=hOut.cell (uR _ _ s hsl);have d1:=hOut.cell (uS _ _ s hsl);have f0:=hOut.free (s*2);have f1:=hOut.free (s*2+1);have q1:(s:Int)<(l.length:Int):=by omega
     clear hset hs cu0 hY
     gi_wp2_with fail
     have hg:=HG.out
     gi_roundg (C-(i+1))
     case measure=>omega
     case rel=>exact⟨i+1,by omega,rfl,by go_num,by rw[<-HSET.out];exact(hOut.set _ _).set _ _,aAd hgr (aAd (MP _ _ _ _) (MP _ _ _ _))⟩
    ·have t1:decide ((i:Int)<(C:Int))=false:=decide_eq_false (by omega);obtain rfl:C=i:=by omega
     rw[HNX.out] at hOut
     gi_wp2_with fail
     exact⟨KeepsFrom.of_grownBy hgr (fun j hj=>by injection hj with hj;omega),dP.grownBy hgr,⟨⟨by rw[fI];exact hOut,hBoxr⟩,hbel.trans (aP5 hgr (by omega) (by omega))⟩⟩
  case done=>
   rintro D xs W hD hfin ⟨⟨hOut,hBox⟩,hbel⟩ hK;rw[hfin,aP3 HO.out] at hOut;have e5:=hBox.cell (i:=0) rfl
   gi_wp2_with fail
   refine⟨by simp,.inl ⟨_,_,rfl,sJ hK,?_⟩⟩;exact⟨_,results_tmp2 rfl _ _ _,_,by rw[HE.out];rfl,fun _=>⟨O,by have:=HO2.out;omega,rfl,hOut.grown (mC _ D _) (by simp;omega)⟩,fun q=>absurd HE.out q,hbel.trans (pJ (w:=w3) (by omega) W D _ _ hD hK rfl rfl)⟩
  case stop=>
   rintro D c pre W hD h;exact h.elim
theorem aP8 (v:Value) (l:List Int) (w:World) (hr:RdI w v l):
  Calls Tryz.prog 115 #[v] w fun e w'=>∃u,e=.returned (.tuple #[u,.int .i64 (bL l)])/\(bL l=0->Wds w' w.heap.size u l)/\(bL l≠0->u=.slice none 0 0)/\Below w.heap.size w w':=
 callsIn_wide.1 (aP7 3 (aA _) v l w hr)
theorem aAg:∀(l:List Int) (a:Int),a<=l.foldl max a/\(∀x∈l,x<=l.foldl max a)/\(l.foldl max a=a\/l.foldl max a∈l)
 |[],a=>⟨by simp,fun x hx=>by simp at hx,.inl rfl⟩
 |y::l,a=>by
  obtain⟨h1,h2,h3⟩:=aAg l (max a y);rw[List.foldl_cons];refine⟨by omega,fun x hx=>?_,?_⟩
  ·rcases List.mem_cons.1 hx with rfl|hx
   ·omega
   ·exact h2 x hx
  ·rcases h3 with h|h
   ·rw[h];rcases Int.le_total a y with q|q
    ·rw[Int.max_eq_right q];exact .inr (List.mem_cons_self ..)
    ·rw[Int.max_eq_left q];exact .inl rfl
   ·exact .inr (List.mem_cons_of_mem _ h)
theorem aAh {l:List Int} (h:fY l):kF l∈l/\∀x∈l,x<=kF l:=by
 obtain⟨h1,h2,h3⟩:=aAg l 0;refine⟨?_,h2⟩;rcases h3 with q|q
 ·exfalso;have hl:0<l.length:=by have:=h.1;omega
  have hx:=h.2.2 _ (gT hl);have:=h2 _ (gT hl);omega
 ·exact q
theorem aQc {l:List Int} {n:Nat} (h:0<bU l n):((n:Nat):Int)∈l:=by
 unfold bU at h;obtain⟨x,hx,he⟩:=List.countP_pos_iff.1 h;have:x=(n:Int):=by simpa using he
 rw[<-this];exact hx
theorem MR {l:List Int} {n:Nat} (h:((n:Nat):Int)∈l):0<bU l n:=by
 unfold bU;exact List.countP_pos_iff.2 ⟨_,h,by simp⟩
def xB (l:List Int) (s:List UInt8) (a:Nat) (S:List Nat):Prop:=∀n∈S,aO s.length (a:Int) n=0/\∀i,i<l.length->bG l i=n->¬gZ l s a i
theorem MS {l:List Int} {n k:Nat}:n∈iY l k↔n<k/\0<bU l n:=by
 unfold iY;rw[xN,jF,decide_eq_true_eq];omega
theorem aQd {l:List Int} {s:List UInt8} {a n:Nat} (hc:bL l=0) (hn:0<bU l n) (h:xB l s a (iY l n)) (hE:aO s.length (a:Int) n≠0):aO s.length (a:Int) n=2/\bZ l s (a:Int)=(0,0,2):=by
 have hok:=eH hc;have hg:8*(s.length:Int)-(n:Int)<(a:Int):=by
  unfold aO at hE;rw[if_neg (by omega)] at hE;split at hE
  ·assumption
  ·exact absurd rfl hE
 refine⟨by unfold aO;rw[if_neg (by omega),if_pos hg],?_⟩;rw[uD hc,if_pos]
 ·have:=(aAh hok.1).2 _ (aQc hn);omega
 ·intro i hi hf;have hb:=jG hok.1 hi
  by_cases hlt:bG l i<n
  ·have hm:((bG l i:Nat):Int)∈l:=cH hb.2.2;exact(h (bG l i) (MS.2 ⟨hlt,MR hm⟩)).2 i hi rfl hf
  ·have:=hf.1;omega
theorem aQe {l:List Int} {s:List UInt8} {a:Nat} (hc:bL l=0) (h:xB l s a (iY l 21)):bZ l s (a:Int)=(0,0,3):=by
 have hok:=eH hc;obtain⟨hm1,hm2⟩:=aAh hok.1;have hmb:=hok.1.2.2 _ hm1;rw[uD hc,if_neg]
 ·obtain⟨M,hM⟩:∃M:Nat,kF l=(M:Int):=⟨(kF l).toNat,by omega⟩;rw[hM] at hm1 hmb ⊢;have:=fQ (h M (MS.2 ⟨by omega,MR hm1⟩)).1;omega
 ·intro i hi hf;have hb:=jG hok.1 hi;have hm:((bG l i:Nat):Int)∈l:=cH hb.2.2;exact(h (bG l i) (MS.2 ⟨by omega,MR hm⟩)).2 i hi rfl hf
theorem aQf {l:List Int} {s:List UInt8} {a n k y:Nat} (hc:bL l=0) (hE:aO s.length (a:Int) n=0) (hk:(lR l n l.length)[k]? =some y) (hv:aE s (a:Int) n=fC l n+k):bZ l s (a:Int)=((y:Int),(a:Int)+(n:Int),0):=by
 have hok:=eH hc;obtain⟨h1,h2,h3⟩:=PF l n l.length (aA _) k y hk;have hln:bG l y=n:=by unfold bG;rw[h2];rfl
 have:=uB hc h1 ((KP (by rw[hln];exact hE)).2 (by rw[hln,hv];unfold fO;rw[hln,h3]));rw[this,hln]
theorem aQg (l:List Int) (s:List UInt8) (a:Nat):xB l s a []:=fun n hn=>by simp at hn
theorem aQh {l:List Int} {s:List UInt8} {a n:Nat} {S:List Nat} (hok:fY l) (h:xB l s a S) (hE:aO s.length (a:Int) n=0) (hv:¬(fC l n<=aE s (a:Int) n/\aE s (a:Int) n<fC l n+bU l n)):xB l s a (S++[n]):=fun m hm=>by
 rcases List.mem_append.1 hm with hm|hm
 ·exact h m hm
 ·obtain rfl:=List.mem_singleton.1 hm;refine⟨hE,fun i hi hl hf=>hv ?_⟩;have:=(KP (by rw[hl];exact hE)).1 hf;have hb:=BM hok hi;rw[hl] at this hb;omega
theorem aQi (w:World) (t1 t2 t3 t4 t5:TypeId) (v1 v2 v3 v4 v5:Value):∀W,W=((((w.alloc (.cells #[v1] t1)).alloc (.cells #[v2] t2)).alloc (.cells #[v3] t3)).alloc (.cells #[v4] t4)).alloc (.cells #[v5] t5)->
  (Arr W w.heap.size t1 [v1]/\Arr W (w.heap.size+1) t2 [v2]/\Arr W (w.heap.size+2) t3 [v3]/\Arr W (w.heap.size+3) t4 [v4]/\Arr W (w.heap.size+4) t5 [v5])/\Below w.heap.size w W/\W.heap.size=w.heap.size+5:=by
 rintro W rfl;have a1:=Arr.new w t1 [v1];have a2:=Arr.new (w.alloc (.cells #[v1] t1)) t2 [v2];have a3:=Arr.new ((w.alloc (.cells #[v1] t1)).alloc (.cells #[v2] t2)) t3 [v3];have a4:=Arr.new (((w.alloc (.cells #[v1] t1)).alloc (.cells #[v2] t2)).alloc (.cells #[v3] t3)) t4 [v4];have a5:=Arr.new ((((w.alloc (.cells #[v1] t1)).alloc (.cells #[v2] t2)).alloc (.cells #[v3] t3)).alloc (.cells #[v4] t4)) t5 [v5];have e:∀(W:World) (o:Obj),(W.alloc o).heap.size=W.heap.size+1:=fun W o=>by simp
 rw[e] at a2;rw[e,e] at a3;rw[e,e,e] at a4;rw[e,e,e,e] at a5;refine⟨⟨(((a1.alloc _).alloc _).alloc _).alloc _,((a2.alloc _).alloc _).alloc _,(a3.alloc _).alloc _,a4.alloc _,a5⟩,?_,by simp⟩;exact(((((aB _ w).alloc (aA _) _).alloc (by simp) _).alloc (by simp;omega) _).alloc (by simp;omega) _).alloc (by simp;omega) _
theorem MT {W w:World} {z:Nat} {t1 t2 t3:TypeId} {u1 u2 u3:Value} (g6:Arr W (z+1+1) t1 [u1]) (g7:Arr W (z+1+1+1) t2 [u2]) (g8:Arr W (z+1+1+1+1) t3 [u3]) (hbel:Below z w W) (v1 v2 v3:Value):
  Arr (((W.setCell ⟨z+1+1,0,none⟩ v1).setCell ⟨z+1+1+1,0,none⟩ v2).setCell ⟨z+1+1+1+1,0,none⟩ v3) (z+1+1) t1 [v1]/\
  Arr (((W.setCell ⟨z+1+1,0,none⟩ v1).setCell ⟨z+1+1+1,0,none⟩ v2).setCell ⟨z+1+1+1+1,0,none⟩ v3) (z+1+1+1) t2 [v2]/\
  Arr (((W.setCell ⟨z+1+1,0,none⟩ v1).setCell ⟨z+1+1+1,0,none⟩ v2).setCell ⟨z+1+1+1+1,0,none⟩ v3) (z+1+1+1+1) t3 [v3]/\
  Below z w (((W.setCell ⟨z+1+1,0,none⟩ v1).setCell ⟨z+1+1+1,0,none⟩ v2).setCell ⟨z+1+1+1+1,0,none⟩ v3):=
 ⟨((g6.set 0 v1).other _ (by show _≠_;simp only[ne_eq];omega) v2).other _ (by show _≠_;simp only[ne_eq];omega) v3,((g7.other _ (by show _≠_;simp only[ne_eq];omega) v1).set 0 v2).other _ (by show _≠_;simp only[ne_eq];omega) v3,((g8.other _ (by show _≠_;simp only[ne_eq];omega) v1).other _ (by show _≠_;simp only[ne_eq];omega) v2).set 0 v3,
  ((hbel.setCell (p:=⟨z+1+1,0,none⟩) (by show z<=z+1+1;omega) _).setCell (p:=⟨z+1+1+1,0,none⟩) (by show z<=z+1+1+1;omega) _).setCell (p:=⟨z+1+1+1+1,0,none⟩) (by show z<=z+1+1+1+1;omega) _⟩
theorem aQj (n:Nat) (hn:3<=n) (v:Value) (l:List Int) (s:ByteArray) (a:Nat) (w:World) (hr:RdI w v l) (hE:bL l=0) (hs:s.size<=1000000) (ha:a<=100000000):
  mD eA n Tryz.prog 194 #[v,.string s,.int .i64 (a:Int)] w fun e w'=>e=.returned (.tuple #[.int .i64 (bZ l s.data.toList (a:Int)).1,.int .i64 (bZ l s.data.toList (a:Int)).2.1,.int .i64 (bZ l s.data.toList (a:Int)).2.2])/\Below w.heap.size w w':=by
 have h1:1<=n:=by omega
 obtain⟨ad,ca,rfl,hca,hma,hA⟩:=hr.open;unfold maxLen at hma;have hok:=eH hE;have HO:=hid hok.1;have HNB:=hid (fun k (hk:k<=20)=>DJ (i:=0) hok.1 hok.2 hk);have hl2:=hok.1.2.1;have hl1:=hok.1.1;have HE:=hid hE;have HL:=hid (show s.data.toList.length=s.size by simp);obtain⟨b1,o1,rfl,hb1,hc1⟩:=hA (by omega);have HC1:=hid hc1;refine xX Tryz.func194 rfl trivial ?_ rfl
 simp only[Tryz.ntmps194,mY,cR,cX,lZ,mZ,lL,lM,lN,lO,iG,gE];clear hc1 hA hok
 gi_wp2_with fail
 obtain⟨⟨g4,g5,g6,g7,g8⟩,hB0,hz0⟩:=aQi w 9 3 3 3 26 (.string s) (.int .i64 (a:Int)) (.int .i64 0) (.int .i64 0) (.int .i64 0) _ rfl;generalize ((((w.alloc (.cells #[.string s] 9)).alloc (.cells #[.int .i64 (a:Int)] 3)).alloc (.cells #[.int .i64 0] 3)).alloc (.cells #[.int .i64 0] 3)).alloc (.cells #[.int .i64 0] 26)=w0 at*
 refine⟨trivial,(callsIn_wide.2 (zS _ l _ (hr.below hB0))).mono ?_⟩;rintro e w1 ⟨rfl,hb1'⟩;rw[hE];obtain⟨z,hz⟩:∃z,z=w.heap.size:=⟨_,rfl⟩;have hs1:=hb1'.size;have g4:=g4.below hb1' (by omega);have g5:=g5.below hb1' (by omega);have g6:=g6.below hb1' (by omega);have g7:=g7.below hb1' (by omega);have g8:=g8.below hb1' (by omega);have hB1:Below w.heap.size w w1:=hB0.trans (hb1'.mono (by omega));clear hB0 hb1' hr hE
 gi_wp2_with fail
 refine⟨trivial,(aAa (n-1) b1 o1 l.length ca _).mono ?_⟩;rintro e w' ⟨rfl,rfl⟩;have g9:=Arr.new w1 39 [.slice (some ⟨b1,o1,none⟩) l.length ca];have g4:=g4.alloc (.cells #[.slice (some ⟨b1,o1,none⟩) l.length ca] 39);have g5:=g5.alloc (.cells #[.slice (some ⟨b1,o1,none⟩) l.length ca] 39);have g6:=g6.alloc (.cells #[.slice (some ⟨b1,o1,none⟩) l.length ca] 39);have g7:=g7.alloc (.cells #[.slice (some ⟨b1,o1,none⟩) l.length ca] 39);have g8:=g8.alloc (.cells #[.slice (some ⟨b1,o1,none⟩) l.length ca] 39);have hB2:=hB1.alloc (o:=.cells #[.slice (some ⟨b1,o1,none⟩) l.length ca] 39) (by omega)
 have hz2:(w1.alloc (.cells #[.slice (some ⟨b1,o1,none⟩) l.length ca] 39)).heap.size=w1.heap.size+1:=by simp
 have hc3:∀i x,l[i]? =some x->(w1.alloc (.cells #[.slice (some ⟨b1,o1,none⟩) l.length ca] 39)).cell? ⟨b1,o1+i,none⟩=some (.int .i64 x):=fun i x hi=>(hB2.cell (p:=⟨b1,o1+i,none⟩) hb1).trans (HC1.out i x hi)
 obtain⟨Bs,hBs⟩:∃Bs,Bs=w1.heap.size:=⟨_,rfl⟩
 gi_wp2_with fail
 change Arr (w1.alloc (.cells #[.slice (some ⟨b1,o1,none⟩) l.length ca] 39)) _ _ _ at g9;generalize w1.alloc (.cells #[.slice (some ⟨b1,o1,none⟩) l.length ca] 39)=w3 at*
 rw[<-hBs] at g9 hz2 hs1 ⊢;rw[<-hz] at g4 g5 g6 g7 g8 hz0 hB2 hb1 ⊢;have HZ:=hid hz;clear hBs hz hB1;refine ZX (w0:=w3) (Kp:=dP (some (z+1+1))) (Pre:=xA l) (encs:=tI l) h1 (gf:=155) (lb:=#[.pointer (some ⟨Bs,0,none⟩)]) rfl (enters_of Tryz.func155 (by kernel_rfl) rfl)
  (aAb (n-1) (by omega) Bs (z+1+1) b1 o1 ca l HE.out w3 g9 hc3 (by omega) (by omega) (by omega) (by omega)) (aB _ _) (fun _=>rfl)
  (fun h k=>h.trans k) (fun _ _ h=>h.some _) aAc
  (fun pre W=>(Hid (xB l s.data.toList a (pre.map (·.1)))/\Arr W z 9 [.string s]/\Arr W (z+1) 3 [.int .i64 (a:Int)]/\Arr W (z+1+1) 3 [.int .i64 0]/\Arr W (z+1+1+1) 3 [.int .i64 0]/\Arr W (z+1+1+1+1) 26 [.int .i64 0])/\Below z w W)
  (fun c _ W=>(c=.ret/\∃r1 r2 r3,Hid (bZ l s.data.toList (a:Int)=(r1,r2,r3))/\Arr W (z+1+1) 3 [.int .i64 r1]/\Arr W (z+1+1+1) 3 [.int .i64 r2]/\Arr W (z+1+1+1+1) 26 [.int .i64 r3])/\Below z w W)
  (fun pre A B ⟨⟨h,k1,k2,k3,k4,k5⟩,k6⟩ hAB=>⟨⟨h,k1.below hAB (by omega),k2.below hAB (by omega),k3.below hAB (by omega),k4.below hAB (by omega),k5.below hAB (by omega)⟩,k6.trans (hAB.mono (by omega))⟩)
  (fun c pre A B ⟨⟨h,r1,r2,r3,h',k1,k2,k3⟩,k6⟩ hAB=>⟨⟨h,r1,r2,r3,h',k1.below hAB (by omega),k2.below hAB (by omega),k3.below hAB (by omega)⟩,k6.trans (hAB.mono (by omega))⟩)
  ⟨⟨hid (aQg _ _ _),g4,g5,g6,g7,g8⟩,hB2⟩
  (fun x a' W=>∃sb,w3.heap.size<=sb/\Arr W sb 217 [.int .i64 (x.1:Int),.int .u64 (fC l x.1:Int),x.2]/\a'={tmps:=#[.slice (some ⟨b1,o1,none⟩) l.length ca,.string s,.int .i64 (a:Int),undef,.pointer (some ⟨z,0,none⟩),.pointer (some ⟨z+1,0,none⟩),.pointer (some ⟨z+1+1,0,none⟩),.pointer (some ⟨z+1+1+1,0,none⟩),.pointer (some ⟨z+1+1+1+1,0,none⟩),.int .i64 0,.pointer (some ⟨sb,0,none⟩),undef,undef,.slice (some ⟨b1,o1,none⟩) l.length ca,.int .i64 0,.int .i64 0,.bool false,undef,.slice (some ⟨b1,o1,none⟩) l.length ca,.func (.func 155) #[] #[.pointer (some ⟨Bs,0,none⟩)],.agg #[.int .i64 (x.1:Int),.int .u64 (fC l x.1:Int),x.2],undef,undef,undef,undef,undef,undef,undef,undef,undef,undef,undef,undef,undef,undef,undef,undef,undef,undef,undef,undef,undef,undef,undef,undef,undef,undef,undef,undef,undef,undef],defers:=[]})
  (fun x a' A A' ⟨sb,k1,k2,k3⟩ hk=>⟨sb,k1,hk.arr k2 (by simp),k3⟩) ?assign ?body ?done ?stop
 case assign=>
  rintro l0 B pre ⟨m,u⟩ W K hI hB hBW hpre hK;obtain⟨a',ca',hua,_,_,_⟩:=(OwI.rd hpre.2.2.2.2).open;dsimp only at hua;subst hua;unfold tI
  gi_wp2
  exact hK _ _ (bD (aB _ _) _) ⟨W.heap.size,by omega,Arr.new W _ [_,_,_],rfl⟩
 case body=>
  rintro l0 B pre ⟨m,u⟩ a' W ⟨⟨HNF,g4,g5,g6,g7,g8⟩,hbel⟩ hB hBW ⟨_,⟨hx1,hx2⟩,hc0,hpm,ho⟩ ⟨sb,hsb,hS,rfl⟩;dsimp only at hx1 hx2 hc0 hpm ho hS ⊢;obtain⟨C,hC⟩:∃C,C=bU l m:=⟨_,rfl⟩;have hwl:(lI l m l.length).length=C:=by rw[ET l m _ (aA _),kE,hC]
  have hwl2:(lR l m l.length).length=C:=by rw[BO l m _ (aA _),kE,hC]
  have hCl:C<=258:=by rw[hC];unfold bU;exact aW xR hl2
  have hfb:fC l m<=1048576:=by
   have:=HNB.out m hx2;unfold iW at this;omega
  obtain⟨a',ca',hua,h4,h5,h6⟩:=(OwI.rd ho).open;rw[hwl] at hua h4 h6;obtain⟨bu,ou,rfl,hbu,hcu⟩:=h6 (by omega);subst hua;have hTS:=aQd (s:=s.data.toList) (a:=a) HE.out (by omega:0<bU l m);rw[<-hpm] at hTS;have hTS:=hTS HNF.out;have hTF:=fun k y=>aQf (s:=s.data.toList) (a:=a) (n:=m) (k:=k) (y:=y) HE.out
  have hNS:=aQh (s:=s.data.toList) (a:=a) (n:=m) HO.out HNF.out;rw[HL.out] at hTS hTF hNS;have hget:=fun W=>sT s (a:Int) m W hs (by omega) (by omega) (by omega)
  have hVb:=iA s.data.toList (a:Int) m;have hVb2:aE s.data.toList (a:Int) m<1048576:=dR hVb (aW (jC (by decide) hx2) (by decide));obtain⟨E,hEe⟩:∃E,E=aO s.size (a:Int) m:=⟨_,rfl⟩;obtain⟨V,hV⟩:∃V,V=aE s.data.toList (a:Int) m:=⟨_,rfl⟩;obtain⟨F,hF⟩:∃F,F=fC l m:=⟨_,rfl⟩;rw[<-hF] at hS hfb hNS;rw[<-hF] at hTF;rw[<-hC] at hNS;rw[<-hEe] at hTS hTF hNS hget;rw[<-hV] at hTF hNS hget hVb2;have d0:=hS.cell (i:=0) rfl;have d1:=hS.cell (i:=1) rfl;have d2:=hS.cell (i:=2) rfl;have e4:=g4.cell (i:=0) rfl;have e5:=g5.cell (i:=0) rfl
  have e6:=g6.cell (i:=0) rfl;have e7:=g7.cell (i:=0) rfl;have e8:=g8.cell (i:=0) rfl;have f6:=g6.free 0;have f7:=g7.free 0;have f8:=g8.free 0;have HSET:=hid (MT g6 g7 g8 hbel);have HWL:=hid hwl2;have HCU:=hid hcu;have hoK:=hid ho;clear hVb hV hEe hF hC hwl hwl2 hcu hc0 hpm ho
  by_cases hE0:E=0
  ·subst hE0;have hTF:=fun k y=>hTF k y rfl
   have hNS:=hNS rfl;have m1:fU.wrap (C:Int)=(C:Int):=by rw[gF];omega
   have m2:(C:Int)%18446744073709551616=(C:Int):=by omega
   by_cases hin:F<=V/\V<F+C
   ·obtain⟨D,hD⟩:∃D,D=V-F:=⟨_,rfl⟩;have hDC:D<C:=by omega
    obtain⟨y,hy⟩:∃y,(lR l m l.length)[D]? =some y:=⟨_,aN (by rw[HWL.out];exact hDC)⟩;have HRES:=hid (hTF D y hy (by omega));have cu:W.cell? ⟨bu,ou+D,none⟩=some (.int .i64 (y:Int)):=HCU.out D _ (by unfold lI;rw[dY,hy];rfl);have m3:fU.wrap ((V:Int)-(F:Int))=(D:Int):=by rw[gF];omega
    have m4:(V:Int)-(F:Int)=(D:Int):=by omega
    have m5:fU.wrap (D:Int)=(D:Int):=by rw[gF];omega
    have m6:IntKind.i64.wrap ((a:Int)+(m:Int))=(a:Int)+(m:Int):=by rw[IntKind.wrap_i64];omega
    have t1:decide ((D:Int)<(C:Int))=true:=decide_eq_true (by omega);have q1:(D:Int)<(C:Int):=by omega
    clear hTS hTF hNS hin hD hy
    gi_wp2_with fail
    refine⟨trivial,fun _=>by omega,((callsIn_wide.2 (hget _)).inRound l0).mono ?_⟩;rintro e W2 ⟨rfl,rfl⟩
    gi_wp2_with fail
    refine aAf (by omega) (fun w'=>w'.cell? ⟨sb,0,none⟩=some (.int .i64 (m:Int))/\w'.cell? ⟨sb,2,none⟩=some (.slice (some ⟨bu,ou,none⟩) C ca')/\w'.cell? ⟨bu,ou+D,none⟩=some (.int .i64 (y:Int))/\w'.cell? ⟨z+1,0,none⟩=some (.int .i64 (a:Int))) (by kernel_rfl) (fun⟨_,_,h⟩=>(h:False).elim) (by kernel_rfl) ?_;have hS0:W2.drew.cell? ⟨sb,0,none⟩=some (.int .i64 (m:Int))/\W2.drew.cell? ⟨sb,2,none⟩=some (.slice (some ⟨bu,ou,none⟩) C ca')/\W2.drew.cell? ⟨bu,ou+D,none⟩=some (.int .i64 (y:Int))/\W2.drew.cell? ⟨z+1,0,none⟩=some (.int .i64 (a:Int)):=⟨d0,d2,cu,e5⟩
    refine aQ (i:=0) (oi:=?oi0) (v:=?v0) ?hi0 (by kernel_rfl) (by kernel_rfl) (by kernel_rfl) ?hq0 ?hy0 (by assumption) ?_
    case hi0=>(simp only[aR,aP];rfl)
    case hq0=>exact fun _ _ _ h=>h
    case hy0=>(refine aT ⟨by rfl,?_⟩;intro w' hSw;(try dsimp only at hSw);(try go_simp);try with_reducible rfl)
    try simp only[aJ,aK,aH,aG]
    refine aQ (i:=1) (oi:=?oi1) (v:=?v1) ?hi1 (by kernel_rfl) (by kernel_rfl) (by kernel_rfl) ?hq1 ?hy1 (by assumption) ?_
    case hi1=>(simp only[aR,aS,aP];rfl)
    case hq1=>exact fun _ _ _ h=>h
    case hy1=>(refine aT ⟨by rfl,?_⟩;intro w' hSw;(try dsimp only at hSw);(try go_simp);try with_reducible rfl)
    try simp only[aJ,aK,aH,aG]
    refine aQ (i:=2) (oi:=?oi2) (v:=?v2) ?hi2 (by kernel_rfl) (by kernel_rfl) (by kernel_rfl) ?hq2 ?hy2 (by assumption) ?_
    case hi2=>(simp only[aR,aS,aP];rfl)
    case hq2=>exact fun _ _ _ h=>h
    case hy2=>(refine aT ⟨by rfl,?_⟩;intro w' hSw;(try dsimp only at hSw);(try go_simp);try with_reducible rfl)
    try simp only[aJ,aK,aH,aG]
    refine aQ (i:=3) (oi:=?oi3) (v:=?v3) ?hi3 (by kernel_rfl) (by kernel_rfl) (by kernel_rfl) ?hq3 ?hy3 (by assumption) ?_
    case hi3=>(simp only[aR,aS,aP];rfl)
    case hq3=>exact fun _ _ _ h=>h
    case hy3=>(refine aT ⟨by rfl,?_⟩;intro w' hSw;(try dsimp only at hSw);(try go_simp);try with_reducible rfl)
    try simp only[aJ,aK,aH,aG]
    refine aQ (i:=4) (oi:=?oi4) (v:=?v4) ?hi4 (by kernel_rfl) (by kernel_rfl) (by kernel_rfl) ?hq4 ?hy4 (by assumption) ?_
    case hi4=>(simp only[aR,aS,aP];rfl)
    case hq4=>exact fun _ _ _ h=>h
    case hy4=>(refine aT ⟨by rfl,?_⟩;intro w' hSw;(try dsimp only at hSw);(try go_simp);try with_reducible rfl)
    try simp only[aJ,aK,aH,aG]
    refine aQ (i:=5) (oi:=?oi5) (v:=?v5) ?hi5 (by kernel_rfl) (by kernel_rfl) (by kernel_rfl) ?hq5 ?hy5 (by assumption) ?_
    case hi5=>(simp only[aR,aS,aP];rfl)
    case hq5=>exact fun _ _ _ h=>h
    case hy5=>(refine aT ⟨by rfl,?_⟩;intro w' hSw;(try dsimp only at hSw);(try go_simp);try with_reducible rfl)
    try simp only[aJ,aK,aH,aG]
    refine aQ (i:=6) (oi:=?oi6) (v:=?v6) ?hi6 (by kernel_rfl) (by kernel_rfl) (by kernel_rfl) ?hq6 ?hy6 (by assumption) ?_
    case hi6=>(simp only[aR,aS,aP];rfl)
    case hq6=>exact fun _ _ _ h=>h
    case hy6=>(refine aT ⟨by rfl,?_⟩;intro w' hSw;(try dsimp only at hSw);(try go_simp);try with_reducible rfl)
    try simp only[aJ,aK,aH,aG]
    refine aQ (i:=7) (oi:=?oi7) (v:=?v7) ?hi7 (by kernel_rfl) (by kernel_rfl) (by kernel_rfl) ?hq7 ?hy7 (by assumption) ?_
    case hi7=>(simp only[aR,aS,aP];rfl)
    case hq7=>exact fun _ _ _ h=>h
    case hy7=>(refine aT ⟨by rfl,?_⟩;intro w' hSw;(try dsimp only at hSw);(try go_simp);try with_reducible rfl)
    try simp only[aJ,aK,aH,aG]
    refine aQ (i:=8) (oi:=?oi8) (v:=?v8) ?hi8 (by kernel_rfl) (by kernel_rfl) (by kernel_rfl) ?hq8 ?hy8 (by assumption) ?_
    case hi8=>(simp only[aR,aS,aP];rfl)
    case hq8=>exact fun _ _ _ h=>h
    case hy8=>(refine aT ⟨by rfl,?_⟩;intro w' hSw;(try dsimp only at hSw);(try go_simp);try with_reducible rfl)
    try simp only[aJ,aK,aH,aG]
    have hbuB:w3.heap.size<=bu:=by have:=(Ow.lt hoK.out bu rfl).1;omega
    have e6d:W2.drew.cell? ⟨z+1+1,0,none⟩=some (.int .i64 0):=e6;have f6d:W2.drew.frozen? ⟨z+1+1,0,none⟩=false:=f6;have G7:Arr (W2.drew.setCell ⟨z+1+1,0,none⟩ (.int .i64 (y:Int))) (z+1+1+1) 3 [.int .i64 0]:=Arr.other (w:=W2.drew) g7 _ (by show _≠_;simp only[ne_eq];omega) _;have e7d:=G7.cell (i:=0) rfl;have f7d:=G7.free 0;have G8:Arr ((W2.drew.setCell ⟨z+1+1,0,none⟩ (.int .i64 (y:Int))).setCell ⟨z+1+1+1,0,none⟩ (.int .i64 ((a:Int)+(m:Int)))) (z+1+1+1+1) 26 [.int .i64 0]:=(Arr.other (w:=W2.drew) g8 _ (by show _≠_;simp only[ne_eq];omega) _).other _ (by show _≠_;simp only[ne_eq];omega) _
    have e8d:=G8.cell (i:=0) rfl;have f8d:=G8.free 0;have hS1:=zU hS0 (q:=⟨z+1+1,0,none⟩) (jW (by omega)) (jW (by omega)) (jW (by omega)) (jW (by omega)) (.int .i64 (y:Int));have hS2:=zU hS1 (q:=⟨z+1+1+1,0,none⟩) (jW (by omega)) (jW (by omega)) (jW (by omega)) (jW (by omega)) (.int .i64 ((a:Int)+(m:Int)));refine fL (rs:=[9]) (by kernel_rfl) (by simp) ?_;refine fA rfl (fun K hK=>?_) fM;go_simp;refine hK.out _ _ ?_ (fun _=>?_)
    ·exact zU hS0 (jW (by omega)) (jW (by omega)) (jW (by omega)) (jW (by omega)) _
    try simp only[aJ,aK,aH,aG]
    refine fL (rs:=[10]) (by kernel_rfl) (by simp) ?_;refine fA rfl (fun K hK=>?_) fM;go_simp;refine hK.out _ _ ?_ (fun _=>?_)
    ·exact zU hS1 (jW (by omega)) (jW (by omega)) (jW (by omega)) (jW (by omega)) _
    try simp only[aJ,aK,aH,aG]
    refine fL (rs:=[11]) (by kernel_rfl) (by simp) ?_;refine fA rfl (fun K hK=>?_) fM;go_simp;refine hK.out _ _ ?_ (fun _=>?_)
    ·exact zU hS2 (jW (by omega)) (jW (by omega)) (jW (by omega)) (jW (by omega)) _
    try simp only[aJ,aK,aH,aG]
    refine wpAnyH_done (by kernel_rfl) ?_ _;obtain⟨s1,s2,s3,s4⟩:=MT (W:=W2.drew) (w:=w) g6 g7 g8 hbel.drew (.int .i64 (y:Int)) (.int .i64 ((a:Int)+(m:Int))) (.int .i64 0)
    gi_wp2_with fail
    exact⟨((aC3 W2).trans (((iH W2.drew _ _).trans (iH _ _ _)).trans (iH _ _ _))).from _,⟨rfl,_,_,_,HRES,s1,s2,s3⟩,s4⟩
   ·have hns:=hNS hin;have HNS:=hid hns
    by_cases hge:F<=V
    ·obtain⟨D,hD⟩:∃D,D=V-F:=⟨_,rfl⟩;have m3:fU.wrap ((V:Int)-(F:Int))=(D:Int):=by rw[gF];omega
     have m4:(V:Int)-(F:Int)=(D:Int):=by omega
     have m5:fU.wrap (D:Int)=(D:Int):=by rw[gF];omega
     have t1:decide ((D:Int)<(C:Int))=false:=decide_eq_false (by omega);have t2:decide (D<C)=false:=decide_eq_false (by omega);clear hTS hTF hNS hns hin hD
     gi_wp2_with fail
     refine⟨trivial,fun _=>by omega,((callsIn_wide.2 (hget _)).inRound l0).mono ?_⟩;rintro e W2 ⟨rfl,rfl⟩
     gi_wp2_with fail
     exact⟨KeepsFrom.refl _ _,dP.refl _ _,⟨by rw[fI];exact HNS,g4,g5,g6,g7,g8⟩,hbel⟩
    ·obtain⟨D,hD⟩:∃D,D=V+18446744073709551616-F:=⟨_,rfl⟩;have m3:fU.wrap ((V:Int)-(F:Int))=(D:Int):=by rw[gF];omega
     have m3':((V:Int)-(F:Int))%18446744073709551616=(D:Int):=by omega
     have t1:decide ((D:Int)<(C:Int))=false:=decide_eq_false (by omega);have t2:decide (D<C)=false:=decide_eq_false (by omega);clear hTS hTF hNS hns hin hD
     gi_wp2_with fail
     refine⟨trivial,fun _=>by omega,((callsIn_wide.2 (hget _)).inRound l0).mono ?_⟩;rintro e W2 ⟨rfl,rfl⟩
     gi_wp2_with fail
     exact⟨KeepsFrom.refl _ _,dP.refl _ _,⟨by rw[fI];exact HNS,g4,g5,g6,g7,g8⟩,hbel⟩
  ·obtain⟨hE2,hres⟩:=hTS hE0;subst hE2;have HRES:=hid hres;clear hTS hTF hNS hres
   gi_wp2_with fail
   refine⟨trivial,fun _=>by omega,((callsIn_wide.2 (hget _)).inRound l0).mono ?_⟩;rintro e W2 ⟨rfl,rfl⟩
   gi_wp2_with fail
   exact⟨(((iH W2 _ _).trans (iH _ _ _)).trans (iH _ _ _)).from _,⟨rfl,0,0,2,HRES,(HSET.out _ _ _).1,(HSET.out _ _ _).2.1,(HSET.out _ _ _).2.2.1⟩,(HSET.out _ _ _).2.2.2⟩
 case done=>
  rintro D xs W hD hfin ⟨⟨HNF,g4,g5,g6,g7,g8⟩,hbel⟩ hK;have hnf:=HNF.out;rw[hfin] at hnf;have HRES:=hid (aQe HE.out hnf);have e6:=g6.cell (i:=0) rfl;have e7:=g7.cell (i:=0) rfl;have e8:=g8.cell (i:=0) rfl;have f6:=g6.free 0;have f7:=g7.free 0;have f8:=g8.free 0
  gi_wp2_with fail
  obtain⟨q6,q7,q8,q9⟩:=MT g6 g7 g8 hbel (.int .i64 0) (.int .i64 0) (.int .i64 3);have hKd:=((((iH W ⟨z+1+1,0,none⟩ (.int .i64 0)).trans (iH _ ⟨z+1+1+1,0,none⟩ (.int .i64 0))).trans (iH _ ⟨z+1+1+1+1,0,none⟩ (.int .i64 3))).same D _ hK rfl);refine⟨by simp,.inl ⟨_,_,rfl,sJ hKd,?_⟩⟩;have q6:=(q6.grown (mC _ D (.deferred none)) (by simp;omega)).cell (i:=0) rfl;have q7:=(q7.grown (mC _ D (.deferred none)) (by simp;omega)).cell (i:=0) rfl
  have q8:=(q8.grown (mC _ D (.deferred none)) (by simp;omega)).cell (i:=0) rfl;refine⟨.tuple #[.int .i64 0,.int .i64 0,.int .i64 3],?_,by rw[HRES.out],?_⟩
  ·simp[results,Tryz.f194,go_sem,q6,q7,q8]
  ·rw[<-HZ.out];exact q9.trans (pJ (w:=w3) (by omega) _ D _ _ hD hKd rfl rfl)
 case stop=>
  rintro D c pre W hD ⟨⟨rfl,r1,r2,r3,HR,g6,g7,g8⟩,hbel⟩ hK
  gi_wp2_with fail
  refine⟨by simp,.inl ⟨_,_,rfl,sJ hK,?_⟩⟩;have q6:=(g6.grown (mC _ D (.deferred none)) (by simp;omega)).cell (i:=0) rfl;have q7:=(g7.grown (mC _ D (.deferred none)) (by simp;omega)).cell (i:=0) rfl;have q8:=(g8.grown (mC _ D (.deferred none)) (by simp;omega)).cell (i:=0) rfl;refine⟨.tuple #[.int .i64 r1,.int .i64 r2,.int .i64 r3],?_,by rw[HR.out],?_⟩
  ·simp[results,Tryz.f194,go_sem,q6,q7,q8]
  ·rw[<-HZ.out];exact hbel.trans (pJ (w:=w3) (by omega) _ D _ _ hD hK rfl rfl)
theorem aQk (v:Value) (l:List Int) (s:ByteArray) (a:Nat) (w:World) (hr:RdI w v l) (hE:bL l=0) (hs:s.size<=1000000) (ha:a<=100000000):
  Calls Tryz.prog 194 #[v,.string s,.int .i64 (a:Int)] w fun e w'=>e=.returned (.tuple #[.int .i64 (bZ l s.data.toList (a:Int)).1,.int .i64 (bZ l s.data.toList (a:Int)).2.1,.int .i64 (bZ l s.data.toList (a:Int)).2.2])/\Below w.heap.size w w':=
 callsIn_wide.1 (aQj 3 (aA _) v l s a w hr hE hs ha)
end
section
open Go.RowKit Go Go.Shelf
def pD (l syms:List Int) (k d:Nat):Value×Value:=if d<k then(.string (mkS (aD (aY (fO l (syms.getD d 0).toNat) (bG l (syms.getD d 0).toNat)))),.int .i64 ((aY (fO l (syms.getD d 0).toNat) (bG l (syms.getD d 0).toNat)).length:Int)) else(.string ⟨#[]⟩,.int .i64 0)
theorem aSl {l syms:List Int} {k n:Nat} {y W N:Nat} (hs:syms[k]? =some (y:Int)) (hW:W=fO l y) (hN:N=bG l y):((cD n (pD l syms k)).set (k*2) (.string (mkS (aD (aY W N))))).set (k*2+1) (.int .i64 ((aY W N).length:Int))=cD n (pD l syms (k+1)):=
 KG _ _ _ _ _ _ fun d _=>by
  unfold pD
  by_cases e:d=k
  ·subst e;rw[if_pos (by omega),if_pos rfl,aV,hs];simp only[Option.getD_some,eG];rw[hW,hN]
  ·rw[if_neg e]
   by_cases h:d<k
   ·rw[if_pos h,if_pos (by omega)]
   ·rw[if_neg h,if_neg (by omega)]
def zZ (l syms:List Int):List (List Bool):=syms.map (fun s=>aY (fO l s.toNat) (bG l s.toNat))
theorem aSm (l syms:List Int):(zZ l syms).flatten=eR l syms:=by unfold zZ eR;rw[List.flatMap_def]
theorem aSn {w:World} {b:Nat} {l syms:List Int} (h:Arr w b 77 (cD syms.length (pD l syms syms.length))) (hn:syms.length<=maxLen):qI w (.slice (some ⟨b,0,none⟩) syms.length syms.length) (zZ l syms):=by
 have hl:(zZ l syms).length=syms.length:=bJ ..;refine⟨some ⟨b,0,none⟩,syms.length,by rw[hl],by omega,hn,fun _=>⟨b,0,rfl,h.lt,fun j m hj=>?_⟩⟩;have hjl:j<syms.length:=by rw[<-hl];exact(List.getElem?_eq_some_iff.1 hj).1
 have hm:m=aY (fO l (syms.getD j 0).toNat) (bG l (syms.getD j 0).toNat):=by
  unfold zZ at hj;rw[dY,aN hjl] at hj;simp only[Option.map_some,iP] at hj;rw[aV,aN hjl];exact hj.symm
 have c0:=h.cell (uR _ _ j hjl);have c1:=h.cell (uS _ _ j hjl);unfold pD at c0 c1;rw[if_pos hjl] at c0 c1;rw[hm,Nat.zero_add];exact⟨c0,c1⟩
theorem aSo (l syms:List Int) (n:Nat):cD n (pD l syms 0)=cD n (fun _=>(.string ⟨#[]⟩,.int .i64 0)):=rS fun d _=>by unfold pD;rw[if_neg (by omega)]
theorem aBj (v u:Value) (l syms:List Int) (w:World) (hr:RdI w v l) (hu:RdI w u syms) (hE:bL l=0) (hs:∀x∈syms,0<=x/\x<(l.length:Int)) (hn:syms.length<=10000):
  Calls Tryz.prog 76 #[v,u] w fun e w'=>e=.returned (.tuple #[eL (eR l syms),.int .i64 0])/\Below w.heap.size w w':=by
 have hok:=eH hE;have HLT:=hid (fun i (h:i<l.length)=>(jG hok.1 h));have HWB:=hid (fun i (h:i<l.length)=>(IG hok.1 hok.2 h));have hl2:=hok.1.2.1;have HS:=hid hs;have HCL:=hid (rR hok.1 syms (fun x hx=>hs x hx));clear hs hok;have hA0:=Arr.new w 77 [.string ⟨#[]⟩,.int .i64 0];have hs0:(w.alloc (.cells #[.string ⟨#[]⟩,.int .i64 0] 77)).heap.size=w.heap.size+1:=by simp
 have hb0:Below w.heap.size w (w.alloc (.cells #[.string ⟨#[]⟩,.int .i64 0] 77)):=bD (aB _ _) _;change Arr (w.alloc (.cells #[.string ⟨#[]⟩,.int .i64 0] 77)) _ _ _ at hA0;go_enter Tryz.func76,Tryz.ntmps76;go_wp2_with fail;generalize w.alloc (.cells #[.string ⟨#[]⟩,.int .i64 0] 77)=w0 at*
 refine(aP8 _ l _ (hr.below hb0)).mono ?_;rintro e w1 ⟨uw,rfl,hW,-,hb1⟩;obtain⟨bw,hbw,rfl,hArr⟩:=hW hE;rw[hE];have hu1:=(hu.below hb0).below hb1;have hA1:=hA0.below hb1 (by omega);have hB1:=hb0.trans (hb1.mono (by omega));have hs1:=hb1.size;obtain⟨a,ca,rfl,hca,hma,hA⟩:=hu1.open;unfold maxLen at hma;clear hu hu1 hr hA0 hb0 hb1 hW;go_wp2_with (at_make;refine mk2 Tryz.underlying78 JB rfl rfl _ _ rfl syms.length rfl rfl ?_ ?_ ?_;(omega);(omega));have hL0:=Arr.new w1 77 (cD syms.length (fun _=>(.string ⟨#[]⟩,.int .i64 0)));rw[<-aSo l syms] at hL0 ⊢
 have hB2:Below w1.heap.size w1 (w1.alloc (.cells (cD syms.length (pD l syms 0)).toArray 77)):=bD (aB _ _) _;have hs2:(w1.alloc (.cells (cD syms.length (pD l syms 0)).toArray 77)).heap.size=w1.heap.size+1:=by simp
 generalize w1.alloc (.cells (cD syms.length (pD l syms 0)).toArray 77)=w2 at*
 go_wp2_with fail
 go_loopg [9,10,25,39] syms.length (fun g _s9 _s10 s25 _s39 wr=>∃k:Nat,k<=syms.length/\g=syms.length-k/\s25=.int .i64 (k:Int)/\Arr wr w1.heap.size 77 (cD syms.length (pD l syms k))/\Below w1.heap.size w1 wr/\w1.heap.size+1<=wr.heap.size)
 case atStart=>exact⟨0,aU _,rfl,rfl,hL0,hB2,by omega⟩
 case round=>
  clear hL0 hB2;obtain⟨k,hk,hg,rfl,hL,hbel,hsz⟩:=hrel;have HG:=hid hg;clear hg
  by_cases hlt:k<syms.length
  ·have t1:decide ((k:Int)<(syms.length:Int))=true:=decide_eq_true (by omega);obtain⟨b1,o1,rfl,hb1,hc1⟩:=hA (by omega);obtain⟨x,hx⟩:=dH hlt;have c1:=((lP hbel).1 b1 (o1+k) hb1).trans (hc1 k _ hx);have hxb:=HS.out x (cH hx);obtain⟨y,rfl⟩:∃y:Nat,x=(y:Int):=⟨x.toNat,by omega⟩;have hyl:y<l.length:=by omega
   have hArr':=hArr.below hbel hArr.lt;have d0:=hArr'.cell (uR _ _ y hyl);have d1:=hArr'.cell (uS _ _ y hyl);obtain⟨hy1,hy2,_⟩:=HLT.out y hyl;have hwb:=HWB.out y hyl;unfold qP at d0 d1;obtain⟨n,hn⟩:∃n,n=bG l y:=⟨_,rfl⟩;obtain⟨W,hW⟩:∃W,W=fO l y:=⟨_,rfl⟩;have HT:=hid (aSl (n:=syms.length) hx hW hn);rw[<-hn,<-hW] at d0 d1 hwb;rw[<-hn] at hy1 hy2;have hW64:W<18446744073709551616:=dR hwb (aW (jC (by decide) hy2) (by decide));have u1:decide ((y:Int)<0)=false:=decide_eq_false (by omega)
   have u2:decide ((y:Int)>=(l.length:Int))=false:=decide_eq_false (by omega);have u3:decide ((l.length:Int)<=(y:Int))=false:=decide_eq_false (by omega);have u4:decide (l.length<=y)=false:=decide_eq_false (by omega);have q1:(k:Int)<(syms.length:Int):=by omega
   have q2:(y:Int)<(l.length:Int):=by omega
   have hput:=fun W'=>uH [] W n W' hW64 (by omega) (by decide)
   unfold eL at hput;simp only[iG] at hput;obtain⟨M,hM⟩:∃M,M=aY W n:=⟨_,rfl⟩;simp only[<-hM] at hput;rw[<-hM] at HT;clear hM;clear hn hW hx hc1 hA hxb hwb hArr';go_wp2_with fail
   go_region_with (go_at_call 44;(refine(hput _).mono ?_;rintro e w3 ⟨rfl,hb3⟩;have hL3:Arr w3 w1.heap.size 77 (cD syms.length (pD l syms k)):=Arr.below (w:=wr.drew) hL hb3 (by show w1.heap.size<wr.heap.size;omega);have e0:=hL3.cell (uR _ _ k hlt);have e1:=hL3.cell (uS _ _ k hlt);have f0:=hL3.free (k*2);have f1:=hL3.free (k*2+1)))
   all_goals go_wp2_with fail
   all_goals
    have hg:=HG.out
    go_roundg (syms.length-(k+1))
    case measure=>omega
    case rel=>
     have hb3s:wr.heap.size<=w3.heap.size:=hb3.size;have hbw:Below w1.heap.size w1 w3:=hbel.drew.trans (hb3.mono (by show w1.heap.size<=wr.heap.size;omega));exact⟨k+1,by omega,rfl,by go_num,by rw[<-HT.out];exact(hL3.set _ _).set _ _,(hbw.setCell (p:=⟨w1.heap.size,k*2,none⟩) (aA _) _).setCell (p:=⟨w1.heap.size,k*2+1,none⟩) (aA _) _,by simp;omega⟩
  ·have t1:decide ((k:Int)<(syms.length:Int))=false:=decide_eq_false (by omega);have hke:k=syms.length:=by omega
   subst hke;have hrd:=aSn hL (by simp only[maxLen];omega);have HFL:=hid (aSm l syms);go_wp2_with fail;refine(CF _ _ _ hrd (by rw[HFL.out];have:=HCL.out;omega)).mono ?_;rintro e w6 ⟨rfl,hb6⟩;rw[HFL.out];unfold eL;have hA6:=(hA1.below hbel (by omega)).below hb6 (by omega);have hB6:Below w.heap.size w w6:=(hB1.trans (hbel.mono (by omega))).trans (hb6.mono (by omega));have d0:=hA6.cell (i:=0) rfl;have d1:=hA6.cell (i:=1) rfl;have f0:=hA6.free 0;have f1:=hA6.free 1;clear hA1 hb6 hbel hB1 hArr hL hrd;generalize hmm:eR l syms=m at*
   have HM:=hid hmm;clear hmm;go_wp2_with fail;have z0:Arr ((w6.setCell ⟨w.heap.size,0,none⟩ (.string (mkS (aD m)))).setCell ⟨w.heap.size,1,none⟩ (.int .i64 (m.length:Int))) w.heap.size 77 [.string (mkS (aD m)),.int .i64 (m.length:Int)]:=(hA6.set 0 _).set 1 _;refine gJ (qH rfl _ _ w.heap.size _ _ (0,0) _ rfl z0 Tryz.underlying77 rfl mF) rfl ?_;exact⟨by rw[HM.out];rfl,(hB6.setCell (p:=⟨w.heap.size,0,none⟩) (aA _) _).setCell (p:=⟨w.heap.size,1,none⟩) (aA _) _⟩
end
end Go.Proofs.YtpgmbhpbgkljdaaGreatDoor
