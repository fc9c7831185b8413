/-
  Texts put together (part 31): the walks and the plain laws on which the statement stands.
-/
import Derived.Test.YtihbnmlinkbnkaaGreatDoorZ26
import Derived.Test.YtihbnmlinkbnkaaGreatDoorZ30
set_option maxRecDepth 100000
set_option maxHeartbeats 12800000
set_option linter.unusedVariables false
set_option linter.unusedSimpArgs false
open Go.Proofs.Tryz
open Go.Proofs.Tryz renaming prog->pG
open Array renaming getElem?_eq_some_iff->fE
open Go renaming grownBy_putObj'->kV,heap_alloc_new->NP,heap_setCell_other->kF,run_underlying->wW,wpAnyH_done->nY,wpAnyH_ready->WH
open Go.Act renaming eval->lL,put->bJ
open Go.AllReadyH renaming cons->DG,nil->WI
open Go.Builtin renaming append_->sA
open Go.Instr renaming index->rE
open Go.IntKind renaming i64->aJ,wrap_i64->aM
open Go.KeepsOthers renaming setCell->kJ
open Go.Result renaming andThen->lW
open Go.RowKit.Below renaming heap_alloc->oO,refl->aH
open Go.Value renaming int->bQ
open Go.World renaming block_lt_of_cell?->gV
open Int renaming tmod_eq_emod_of_nonneg->mL,toNat_natCast->fL
open List renaming append_nil->dI,getD_eq_getElem?_getD->bV,getElem?_append_left->nE,getElem?_append_right->rY,getElem?_drop->jR,getElem?_eq_getElem->aN,getElem?_map->eQ,getElem?_take_of_lt->pW,length_append->aL,length_cons->aU,length_drop->bA,length_map->aS,length_nil->aV,length_take->aQ,map_set->AP,mem_of_getElem?->cN,replicate->aX,setIfInBounds_toArray->bK,set_cons_succ->bB,set_cons_zero->bH,size_toArray->dB,take_add_one->cG,take_of_length_le->cD
open Nat renaming le_refl->aD,le_trans->aR,lt_of_lt_of_le->fB,reduceAdd->cV,reduceSub->dC,sub_self->yP,zero_le->aO
open Option.some renaming inj->cC
namespace Go.Proofs.YtihbnmlinkbnkaaGreatDoor
section
open Go.RowKit Go Go.Shelf
attribute [local go_sem] Oper.semAt_some
theorem aHn {P:Program} {t e G:Nat} {z:Value} (E:ElT P t e G z) {w:World} (I:TypeId) (A:Nat) (v:Value) (d:List Value) (J:Ow w A e v d) (g:Nat) (u:Value) (U:w.cell? ⟨g,0,none⟩=some u) (V:u.oneCell'=true) (L:(d.length+1)*G<=140737488355328) (M:A<=w.heap.size):
  ∃F w',(sA #[t,t] I #[v,.slice (some ⟨g,0,none⟩) 1 1]).run P w=.ok F w'/\Ow w' A e F (d++[u])/\Below A w w'/\w.grownBy w' v.ownBlock:=by
 obtain⟨i,hi,Z,h2,h3⟩:=E.info;have h4:z.cells.size=1:=by rw[E.cells];rfl
 have a0:=E.pos;have hn:d.length+1<=140737488355328:=aR (Nat.le_mul_of_pos_right _ a0) L;obtain⟨F,w',q1,q2,O,_⟩:=run_append_own (P:=P) w A t I e i z 1 G E.under hi Z h2 h3 h4 (by decide) v d.length d J ⟨g,0,none⟩ 1 1 [u] rfl (fun j u' H=>by
  cases j with
  |zero=>simp at H;subst H;simpa [Addr.add] using U
  |succ j=>simp at H) (by simpa using V) (by simp only[maxLen];omega) L M
 exact⟨F,w',q1,by unfold Ow;rw[aL];exact q2,rJ J O M,O⟩
theorem Ow.keptB {w w':World} {B e:Nat} {v:Value} {d:List Value} {row:Option Nat} (h:Ow w B e v d) (F:w.grownBy w' row) (G:∀r,row=some r->∃o:Obj,w.heap[r]? =some o/\o.isCells=false):Ow w' B e v d:=by
 refine Ow.kept h F ?_;rcases h.2 with⟨rfl,_⟩|⟨g,cap,J,rfl,_,H,_⟩
 ·exact .inl rfl
 ·refine .inr (fun e=>?_);obtain⟨o,A,I⟩:=G g e.symm;rw[H] at A;obtain rfl:=cC A;exact Bool.noConfusion I
theorem bAu {w:World} {b off cap:Nat} {m:List Int} (F:b<w.heap.size) (G:∀j x,m[j]? =some x->w.cell? ⟨b,off+j,none⟩=some (.int .i64 x)) (I:m.length<=cap) (J:cap<=maxLen) {i:Nat} (_:i<(m.length+9)/10):
  RdI w (chV b off m.length i) ((m.drop (10*i)).take 10):=by
 have d:((m.drop (10*i)).take 10).length=min 10 (m.length-10*i):=by rw[aQ,bA]
 refine⟨_,_,by rw[d];rfl,by rw[d];exact aD _,by omega,.inr ⟨b,off+10*i,rfl,F,fun j H=>?_⟩⟩;rw[aS,d] at H;have A:m[10*i+j]? =some m[10*i+j]:=aN (by omega);rw[Nat.add_assoc,G _ _ A,bV,eQ,pW (by omega),jR,A];rfl
def bAv (O A:Nat) (m:List Int) (k:Nat) (W w1 w d:World):Prop:=
 KeepsFrom w1.heap.size W d/\KpA A W d/\(∃v F,Arr d O 123 [v]/\Ow d (A+1+1) 26 v F/\iE d (A+1+1) F ((dA m).take k)/\A+1+1<=d.heap.size)/\Below O w d
theorem bAw (O A:Nat) (pre:List Value) (x:Value) (m g:List Int) (W w1 w:World) {U:Option Addr} {V:Nat} {F:List Value} (hO:Arr W O 123 [.slice U F.length V]) (hv:Ow W (A+1+1) 26 (.slice U F.length V) F)
  (hx:iE W (A+1+1) F ((dA m).take pre.length)) (a8:A+1+1<=W.heap.size) (a9:Below O w W) (b2:O<A) (hz:w1.heap.size=A+1+1) (hg:(dA m).take (pre++[x]).length=(dA m).take pre.length++[g]) (b0:(F.length+1)*24<=140737488355328)
  (w2:World) (J:Below W.heap.size W w2) (G:Option Addr) (H I:Nat) (ho:OwI w2 W.heap.size (.slice G H I) g):
  ∃(L:Option Addr) (n3 M:Nat) (d:World),(sA #[123,123] 123 #[.slice U F.length V,.slice (some ⟨w2.heap.size,0,none⟩) 1 1]).run pG (w2.alloc (.cells #[.slice G H I] 26))=.ok (.slice L n3 M) d/\
   d.cell? ⟨O,0,none⟩=some (.slice U F.length V)/\d.frozen? ⟨O,0,none⟩=false/\bAv O A m (pre++[x]).length W w1 w (d.setCell ⟨O,0,none⟩ (.slice L n3 M)):=by
 have b3:=J.size;obtain⟨o,a5⟩:∃o:Obj,o=.cells #[.slice G H I] 26:=⟨_,rfl⟩;have Z:=(hv.below J (aD _)).alloc o;obtain⟨v3,d,q1,q2,q3,q4⟩:=aHn CK (w:=w2.alloc o) 123 (A+1+1) _ F Z w2.heap.size (.slice G H I) (by rw[a5];exact bX _ _ _) rfl b0 (by simp;omega);rw[<-a5];obtain⟨L,M,rfl,-⟩:=q2.rd;have a0:=((hO.below J hO.lt).alloc o).below q3 (by omega);have a1:Below W.heap.size W (w2.alloc o):=J.alloc (by omega) o;have a4:Below (A+1+1) W d:=(a1.mono (by omega)).trans q3;have b4:=a4.size
 have a6:∀{B:Nat} {u:Value} {ys:List Value} {e:Nat},Ow d (A+1+1) e u ys->u.ownBlock=none\/u.ownBlock≠some O:=fun h=>lD h (by omega)
 have a7:=gD d O 0 (.slice L (F++[Value.slice G H I]).length M);refine⟨L,_,M,d,q1,a0.cell (i:=0) rfl,a0.free 0,?_,?_,⟨_,F++[.slice G H I],a0.set 0 _,Ow.kept q2 a7 (a6 (B:=0) q2),?_,by simp;omega⟩,?_⟩
 ·refine KeepsOthers.from ?_ _;refine KeepsOthers.trans ?_ (kJ _ _ _);refine KeepsOthers.trans (B:=w2.alloc o) ⟨a1.size,fun k q hk _=>(a1.block k (fE.1 hk).1).trans hk⟩ ?_;refine KeepsOthers.of_grownBy q4 (fun j q hj hq=>?_);rcases Z.2 with⟨e,_⟩|⟨gg,cap,b5,e,_,b1,_⟩
  ·rw[e] at hj;cases hj
  ·rw[e] at hj;obtain rfl:=cC hj;rw[b1] at hq;obtain rfl:=cC hq;rfl
 ·refine⟨by simp;omega,fun k q hk hq _=>?_⟩;rw[kF d ⟨O,0,none⟩ k _ (by simp;omega)];exact(a4.block k (by omega)).trans hq
 ·rw[hg];refine iE.map (B:=A+1+1) (w:=d) ?_ (fun x g k=>Ow.kept k a7 (a6 (B:=0) k));refine iE.snoc (((hx.below J).alloc o).app Z q4) ?_;exact Ow.base (Ow.kept (OwI.alloc ho o) q4 (uV (OwI.alloc ho o) Z (by decide))) a8
 ·exact(a9.trans (a4.mono (by omega))).setCell (p:=⟨O,0,none⟩) (aD _) _
theorem bAx (n:Nat) (hn:3<=n) (v:Value) (m:List Int) (w:World) (U:RdI w v m) (h0:0<m.length) (hm:m.length<=1000000):
  CallsIn Fence.wide n pG 90 #[v] w fun e w'=>∃v' G,e=.returned v'/\Ow w' w.heap.size 26 v' G/\iE w' w.heap.size G (dA m)/\Below w.heap.size w w':=by
 have h1:1<=n:=by omega
 obtain⟨a,J,rfl,b5,c9,hA⟩:=U.open;obtain⟨b,off,rfl,hb,hc⟩:=hA h0;have HC:=hid (fun(W:World) (hW:Below w.heap.size w W) (i:Nat) (hi:i<(m.length+9)/10)=>bAu (w:=W) (cap:=J) (fB hb hW.size) (fun j x hj=>(hW.cell (p:=⟨b,off+j,none⟩) hb).trans (hc j x hj)) b5 c9 hi);have I:=Arr.new w 123 [.slice none 0 0];have a4:=bD (aH _ w) (.cells #[.slice none 0 0] 123);have b6:(w.alloc (.cells #[.slice none 0 0] 123)).heap.size=w.heap.size+1:=by simp
 clear U hA hc;refine callsIn_of_wp_marks func90 rfl trivial ?_ rfl;simp only[ntmps90,dB,aU,aV,cV,dC,Array.replicate_succ,Array.replicate_zero,List.push_toArray,List.append_toArray,List.nil_append,List.cons_append]
 gi_wp2_with fail
 refine⟨trivial,(callsIn_wide.2 (aZi _ _ _ _)).mono ?_⟩;rintro e w' ⟨rfl,rfl⟩
 gi_wp2_with fail
 generalize w.alloc (.cells #[.slice none 0 0] 123)=V at*
 have a9:=(Arr.new V 26 [.slice (some ⟨b,off,none⟩) m.length J]).alloc (.cells #[.int .i64 10] 3);have b7:Arr ((V.alloc (.cells #[.slice (some ⟨b,off,none⟩) m.length J] 26)).alloc (.cells #[.int .i64 10] 3)) (V.heap.size+1) 3 [.int .i64 10]:=by
  rw[show V.heap.size+1=(V.alloc (.cells #[.slice (some ⟨b,off,none⟩) m.length J] 26)).heap.size by simp];exact Arr.new _ _ _
 change Arr ((V.alloc (.cells #[.slice (some ⟨b,off,none⟩) m.length J] 26)).alloc (.cells #[.int .i64 10] 3)) _ _ _ at a9;have I:=(I.alloc (.cells #[.slice (some ⟨b,off,none⟩) m.length J] 26)).alloc (.cells #[.int .i64 10] 3);have a4:=(a4.alloc (o:=.cells #[.slice (some ⟨b,off,none⟩) m.length J] 26) (by omega)).alloc (o:=.cells #[.int .i64 10] 3) (by simp;omega);have hz:((V.alloc (.cells #[.slice (some ⟨b,off,none⟩) m.length J] 26)).alloc (.cells #[.int .i64 10] 3)).heap.size=V.heap.size+1+1:=by simp
 generalize (V.alloc (.cells #[.slice (some ⟨b,off,none⟩) m.length J] 26)).alloc (.cells #[.int .i64 10] 3)=w1 at*
 obtain⟨O,a5⟩:∃O,O=w.heap.size:=⟨_,rfl⟩;obtain⟨F,a6⟩:∃F,F=w.heap.size+1:=⟨_,rfl⟩;rw[b6,<-a6] at a9 b7 hz;rw[<-a6,<-a5];rw[<-a5] at I a4 a6 HC hb;have HO:=hid a5;have d1:O<F:=by omega
 clear a5 a6 b6;refine TV (w0:=w1) (Bs:=F) h1 (gf:=205) (lb:=#[.pointer (some ⟨F,0,none⟩),.pointer (some ⟨F+1,0,none⟩)]) rfl (enters_of func205 (by kernel_rfl) rfl)
  (bAb (n-1) (by omega) F b off J m.length b5 hm w1 a9 b7) (fun h k=>h.trans k) (KpA.put (by omega)) (aH _ _) (fun _=>rfl) (by omega)
  (fun pre W=>(∃v G,Arr W O 123 [v]/\Ow W (F+1+1) 26 v G/\iE W (F+1+1) G ((dA m).take pre.length)/\F+1+1<=W.heap.size)/\Below O w W)
  (OwnFrom.and (Own.from (fun s A B row hs Z U=>by
   obtain⟨v,G,k1,k2,k3,k4⟩:=hs;exact⟨v,G,k1.keptB Z U,k2.keptB Z U,k3.map (fun x g k=>Ow.keptB k Z U),aR k4 Z.size⟩) _) (ownFrom_below (by rw[HO.out];exact aD _) (by omega)))
  (fun pre A v ⟨⟨u,G,k1,k2,k3,k4⟩,k6⟩=>⟨⟨u,G,k1.other ⟨F,0,none⟩ (by simp;omega) v,Ow.kept k2 (gD A F 0 v) (lD k2 (by omega)),k3.map (fun x g k=>Ow.kept k (gD A F 0 v) (lD k (by omega))),by simpa using k4⟩,k6.setCell (p:=⟨F,0,none⟩) (by show O<=F;omega) _⟩)
  ⟨⟨_,[],I,Ow.nil _ _ _,iE.nil _ _,by omega⟩,a4⟩
  (fun x=>{tmps:=#[.slice (some ⟨b,off,none⟩) m.length J,undef,.pointer (some ⟨O,0,none⟩),x,.slice (some ⟨b,off,none⟩) m.length J,.func (.func 205) #[] #[.pointer (some ⟨F,0,none⟩),.pointer (some ⟨F+1,0,none⟩)],x,undef,undef,undef,undef,undef,undef],defers:=[]}) ?assign ?body ?done
 case assign=>
  intro l x W K d
  gi_wp2
  exact d
 case body=>
  rintro l pre x W ⟨⟨v,G,I,hv,hx,b8⟩,a7⟩ ⟨r,U⟩;have b9:=congrArg List.length U;rw[FS,aL,aU] at b9;have hi:pre.length<(m.length+9)/10:=by omega
  have c1:x=chV b off m.length pre.length:=by
   have e1:(pre++x::r)[pre.length]? =some x:=by rw[rY (aD _),yP];rfl
   rw[U,aHc hi] at e1;exact(cC e1).symm
  have b0:=HC.out W a7 _ hi;rw[<-c1] at b0;have c4:=hid (show(dA m).take (pre++[x]).length=(dA m).take pre.length++[(m.drop (10*pre.length)).take 10] by
   rw[aL,List.length_singleton,cG,BY m _ hi];rfl)
  have c5:0<((m.drop (10*pre.length)).take 10).length:=by rw[aQ,bA];omega
  have b1:((m.drop (10*pre.length)).take 10).length<=10:=by rw[aQ];omega
  obtain⟨g,Z⟩:∃g,g=(m.drop (10*pre.length)).take 10:=⟨_,rfl⟩;rw[<-Z] at b0 c4 c5 b1;have d2:G.length=pre.length:=by rw[hx.1,aQ,kR];omega
  have c6:(G.length+1)*24<=140737488355328:=by omega
  have c7:=fun(W':World) (h:Below W.heap.size W W')=>aGx x g W' (b0.below h) c5 (by omega)
  obtain⟨L,M,b2,-⟩:=hv.rd;subst b2;have b3:=hid (fun(w2:World) (a0:Below W.heap.size W w2) (a2:Option Addr) (n2 c2:Nat) (B2:Nat) (d3:B2=W.heap.size) (ho:OwI w2 B2 (.slice a2 n2 c2) g)=>bAw O F pre x m g W w1 w I hv hx b8 a7 d1 hz c4.out c6 w2 a0 a2 n2 c2 (d3▸ho));obtain⟨H,a1⟩:∃H,H=G.length:=⟨_,rfl⟩;rw[<-a1] at b3 I;have c0:=I.cell (i:=0) rfl;clear a1 b9 hi c1 Z d2 c6 hv hx U I
  gi_wp2_with fail
  refine aG9 (by omega) (fun _=>True) (by kernel_rfl) (fun⟨_,_,h⟩=>(h:False).elim) (by kernel_rfl) ?_;have hT:True:=trivial;refine fV 1 0 (by simp only[dB,aU,aV,cV,dC]<;>rfl) (by simp only[List.getElem?_toArray,List.getElem?_cons_succ,List.getElem?_cons_zero];rfl) (by kernel_rfl) (by exact fun _ _ _ h=>h) (by first|exact Or.inr ⟨by rfl,rfl⟩|(refine Or.inl ⟨by rfl,?_⟩;intro w' d4;(try dsimp only at d4);(try go_simp);try with_reducible rfl)) (by assumption) ?_
  try simp only[bJ,bK,bH,bB]
  refine WH (rs:=[0,2]) (by kernel_rfl) (by simp) ?_;refine DG rfl (fun K d=>?_) (DG rfl (fun K d=>?_) WI)
  ·go_simp;refine d.out _ _ trivial (fun _=>?_)
   try simp only[bJ,bK,bH,bB]
   clear d K;refine dJ (i:=2) (by kernel_rfl) rfl (fun K d=>?_);go_simp;refine(c7 W.drew (aH _ W).drew).mono ?_;rintro e w2 ⟨v2,rfl,ho,a0⟩;obtain⟨a2,c2,rfl,-⟩:=(OwI.rd ho).open;have a8:Below W.heap.size W w2:=(aH _ W).drew.trans a0;obtain⟨a3,n3,c3,w3,q1,d0,fd,hP⟩:=b3.out w2 a8 _ _ _ _ rfl ho;refine d.out _ _ trivial (fun _=>?_)
   try simp only[bJ,bK,bH,bB]
   clear d K;refine dJ (i:=3) (by kernel_rfl) rfl (fun K d=>?_);go_simp;refine d.out _ _ trivial (fun _=>?_)
   try simp only[bJ,bK,bH,bB]
   clear d K;refine dJ (i:=4) (by kernel_rfl) rfl (fun K d=>?_);refine sX rfl (.tmp 7) (.tmp 10) 123 rfl (.slice L H M) (.slice (some ⟨w2.heap.size,0,none⟩) 1 1) (.slice a3 n3 c3) w3 (by simp[lL]) (by simp[lL]) q1 ?_;refine d.out _ _ trivial (fun _=>?_)
   try simp only[bJ]
   clear d K;refine dJ (i:=5) (by kernel_rfl) rfl (fun K d=>?_);go_simp;refine d.out _ _ trivial (fun _=>?_)
   try simp only[bJ,bK,bH,bB]
   clear d K;refine nY (by kernel_rfl) ?_ _
   gi_wp2_with fail
   exact hP
  ·go_simp;refine(c7 W.drew (aH _ W).drew).mono ?_;rintro e w2 ⟨v2,rfl,ho,a0⟩;obtain⟨a2,c2,rfl,-⟩:=(OwI.rd ho).open;have a8:Below W.heap.size W w2:=(aH _ W).drew.trans a0;obtain⟨a3,n3,c3,w3,q1,d0,fd,hP⟩:=b3.out w2 a8 _ _ _ _ rfl ho;have c8:w2.cell? ⟨O,0,none⟩=some (.slice L H M):=(a8.cell (p:=⟨O,0,none⟩) (gV W _ c0)).trans c0;refine d.out _ _ trivial (fun _=>?_)
   try simp only[bJ,bK,bH,bB]
   clear d K;have d7:(w2.alloc (.cells #[.slice a2 g.length c2] 26)).cell? ⟨O,0,none⟩=some (.slice L H M):=((bD (aH _ w2) (.cells #[.slice a2 g.length c2] 26)).cell (p:=⟨O,0,none⟩) (gV w2 _ c8)).trans c8;refine WH (rs:=[0,3]) (by kernel_rfl) (by simp) ?_;refine DG rfl (fun K d=>?_) (DG rfl (fun K d=>?_) WI)
   ·go_simp;refine d.out _ _ trivial (fun _=>?_)
    try simp only[bJ,bK,bH,bB]
    clear d K;refine dJ (i:=3) (by kernel_rfl) rfl (fun K d=>?_);go_simp;refine d.out _ _ trivial (fun _=>?_)
    try simp only[bJ,bK,bH,bB]
    clear d K;refine dJ (i:=4) (by kernel_rfl) rfl (fun K d=>?_);refine sX rfl (.tmp 7) (.tmp 10) 123 rfl (.slice L H M) (.slice (some ⟨w2.heap.size,0,none⟩) 1 1) (.slice a3 n3 c3) w3 (by simp[lL]) (by simp[lL]) q1 ?_;refine d.out _ _ trivial (fun _=>?_)
    try simp only[bJ]
    clear d K;refine dJ (i:=5) (by kernel_rfl) rfl (fun K d=>?_);go_simp;refine d.out _ _ trivial (fun _=>?_)
    try simp only[bJ,bK,bH,bB]
    clear d K;refine nY (by kernel_rfl) ?_ _
    gi_wp2_with fail
    exact hP
   ·go_simp;refine d.out _ _ trivial (fun _=>?_)
    try simp only[bJ,bK,bH,bB]
    clear d K;refine dJ (i:=0) (by kernel_rfl) rfl (fun K d=>?_);go_simp;refine d.out _ _ trivial (fun _=>?_)
    try simp only[bJ,bK,bH,bB]
    clear d K;refine dJ (i:=4) (by kernel_rfl) rfl (fun K d=>?_);refine sX rfl (.tmp 7) (.tmp 10) 123 rfl (.slice L H M) (.slice (some ⟨w2.heap.size,0,none⟩) 1 1) (.slice a3 n3 c3) w3 (by simp[lL]) (by simp[lL]) q1 ?_;refine d.out _ _ trivial (fun _=>?_)
    try simp only[bJ]
    clear d K;refine dJ (i:=5) (by kernel_rfl) rfl (fun K d=>?_);go_simp;refine d.out _ _ trivial (fun _=>?_)
    try simp only[bJ,bK,bH,bB]
    clear d K;refine nY (by kernel_rfl) ?_ _
    gi_wp2_with fail
    exact hP
 case done=>
  rintro D W hD ⟨⟨v,G,I,hv,hx,b8⟩,a7⟩ d;rw[cD (by rw[kR,FS];exact aD _)] at hx;obtain⟨L,M,b2,-⟩:=hv.rd;subst b2;have c0:=I.cell (i:=0) rfl;have f0:=I.free 0;obtain⟨H,a1⟩:∃H,H=G.length:=⟨_,rfl⟩;rw[<-a1] at c0 I hv;clear a1
  gi_wp2_with fail
  have b4:=(kJ W ⟨O,0,none⟩ (.slice L H M)).same D _ d rfl;refine⟨by simp,.inl ⟨_,_,rfl,run_takeDeferred b4,?_⟩⟩;have d5:=((I.set 0 (.slice L H M)).grown (kV _ D (.deferred none)) (by simp;omega)).cell (i:=0) rfl;refine⟨.slice L H M,?_,?_⟩
  ·simp[results,f90,go_sem,d5]
  ·have b1:=gD W O 0 (.slice L H M);have d6:∀r,some D=some r->∃o:Obj,(W.setCell ⟨O,0,none⟩ (.slice L H M)).heap[r]? =some o/\o.isCells=false:=fun r e=>by cases e;exact⟨_,b4,rfl⟩
   have hk:∀{e:Nat} {u:Value} {ys:List Value},Ow W (F+1+1) e u ys->Ow ((W.setCell ⟨O,0,none⟩ (.slice L H M)).putObj D (.deferred none)) w.heap.size e u ys:=fun h=>
    Ow.base (Ow.keptB (Ow.kept h b1 (lD h (by omega))) (kV _ D (.deferred none)) d6) (by rw[<-HO.out];omega)
   refine⟨_,G,rfl,hk hv,hx.map (fun x g k=>hk k),?_⟩;rw[<-HO.out];exact(a7.setCell (p:=⟨O,0,none⟩) (aD _) _).trans (belowK_b (w:=w1) (by omega) _ D _ _ hD b4 rfl rfl)
theorem aHo (v:Value) (m:List Int) (w:World) (F:RdI w v m) (G:0<m.length) (H:m.length<=1000000):
  Calls pG 90 #[v] w fun e w'=>∃d A,e=.returned d/\Ow w' w.heap.size 26 d A/\iE w' w.heap.size A (dA m)/\Below w.heap.size w w':=
 callsIn_wide.1 (bAx 3 (aD _) v m w F G H)
end
section
open Go.RowKit Go Go.Shelf
def mJ (d F:Nat) (A B:World):Prop:=A.heap.size<=B.heap.size/\∀k,k<A.heap.size->k≠d->k≠F->B.heap[k]? =A.heap[k]?
theorem mJ.refl (d F:Nat) (A:World):mJ d F A A:=⟨aD _,fun _ _ _ _=>rfl⟩
theorem mJ.trans {d F:Nat} {A B C:World} (h:mJ d F A B) (k:mJ d F B C):mJ d F A C:=⟨aR h.1 k.1,fun i hi G H=>(k.2 i (fB hi h.1) G H).trans (h.2 i hi G H)⟩
theorem mJ.set0 {d F:Nat} (A:World) (i:Nat) (v:Value):mJ d F A (A.setCell ⟨d,i,none⟩ v):=⟨by simp,fun k _ G _=>kF A ⟨d,i,none⟩ k v G⟩
theorem mJ.set1 {F d:Nat} (A:World) (i:Nat) (v:Value):mJ F d A (A.setCell ⟨d,i,none⟩ v):=⟨by simp,fun k _ _ G=>kF A ⟨d,i,none⟩ k v G⟩
theorem mJ.cell {d F:Nat} {A B:World} (h:mJ d F A B) {b o:Nat} {v:Value} (G:A.cell? ⟨b,o,none⟩=some v) (H:b≠d) (I:b≠F):B.cell? ⟨b,o,none⟩=some v:=by
 rw[<-G];exact World.cell?_of_block (h.2 b (gV A _ G) H I)
theorem mJ.arr {d F:Nat} {A B:World} (h:mJ d F A B) {b e:Nat} {l:List Value} (G:Arr A b e l) (H:b≠d) (I:b≠F):Arr B b e l:=(h.2 b G.lt H I).trans G
theorem mJ.ow {F G:Nat} {A B:World} (h:mJ F G A B) {d e:Nat} {v:Value} {H:List Value} (I:Ow A d e v H) (V:F<d) (Z:G<d):Ow B d e v H:=by
 refine⟨I.1,?_⟩;rcases I.2 with L|⟨g,cap,M,O,U,J,rest⟩
 ·exact .inl L
 ·exact .inr ⟨g,cap,M,O,U,(h.2 g (fE.1 J).1 (by omega) (by omega)).trans J,rest⟩
def Wts (w F:World) (n:Nat) (d A bx:Nat):Prop:=
 Arr F d 3 (aX n (.int .i64 0))/\Arr F A 3 (aX n (.int .i64 0))/\Arr F bx 180 [.slice (some ⟨d,0,none⟩) n n,.slice (some ⟨A,0,none⟩) n n]/\
  d≠A/\bx≠d/\bx≠A/\w.heap.size<=d/\w.heap.size<=A/\Below w.heap.size w F
def LF (w:World) (B:Nat) (d:List Value) (gs:List (List Int)):Prop:=d.length=gs.length/\∀(j:Nat) (x:Value) (g:List Int),d[j]? =some x->gs[j]? =some g->nO w B x g
theorem LF.nil (w:World) (B:Nat):LF w B [] []:=⟨rfl,fun j x g h=>by simp at h⟩
theorem LF.map {w w':World} {B B':Nat} {d:List Value} {gs:List (List Int)} (h:LF w B d gs) (k:∀(x:Value) (g:List Int),nO w B x g->nO w' B' x g):LF w' B' d gs:=⟨h.1,fun j x g A F=>k x g (h.2 j x g A F)⟩
theorem LF.below {w w':World} {B:Nat} {d:List Value} {gs:List (List Int)} (h:LF w B d gs) (A:Below w.heap.size w w'):LF w' B d gs:=h.map (fun _ _ k=>k.below A)
theorem LF.snoc {w:World} {B:Nat} {F:List Value} {gs:List (List Int)} (h:LF w B F gs) {x:Value} {g:List Int} (G:nO w B x g):LF w B (F++[x]) (gs++[g]):=by
 refine⟨by simp[h.1],fun j y l d A=>?_⟩;rcases Nat.lt_trichotomy j F.length with k|k|k
 ·rw[nE k] at d;rw[nE (by rw[<-h.1];exact k)] at A;exact h.2 j y l d A
 ·subst k;rw[rY (aD _),yP] at d;rw[h.1,rY (aD _),yP] at A;obtain rfl:=cC d;obtain rfl:=cC A;exact G
 ·rw[List.getElem?_eq_none (by simp;omega)] at d;cases d
theorem nO.kept {w w':World} {B B':Nat} {v u:Value} {l:List Int} {A:List Value} (h:nO w B v l) (F:Ow w B' 26 u A) (G:w.grownBy w' u.ownBlock):nO w' B v l:=by
 obtain⟨b,R,e,H,d⟩:=h;exact⟨b,R,e,H,d.grown G (MG d F (by decide))⟩
theorem bAy (w:World) (d A F:Obj):(((w.alloc d).alloc A).alloc F).drew.heap[w.heap.size]? =some d/\(((w.alloc d).alloc A).alloc F).drew.heap[w.heap.size+1]? =some A/\(((w.alloc d).alloc A).alloc F).drew.heap[w.heap.size+1+1]? =some F/\Below w.heap.size w (((w.alloc d).alloc A).alloc F).drew:=by
 have G:(w.alloc d).heap.size=w.heap.size+1:=by simp
 have H:((w.alloc d).alloc A).heap.size=w.heap.size+1+1:=by simp
 refine⟨?_,?_,?_,(bD (bD (bD (aH _ _) _) _) _).drew⟩
 ·show(((w.alloc d).alloc A).alloc F).heap[w.heap.size]? =_;rw[oO _ _ _ (by omega),oO _ _ _ (by omega)];exact NP w d
 ·show(((w.alloc d).alloc A).alloc F).heap[w.heap.size+1]? =_;rw[oO _ _ _ (by omega),<-G];exact NP _ A
 ·show(((w.alloc d).alloc A).alloc F).heap[w.heap.size+1+1]? =_;rw[<-H];exact NP _ F
theorem bAz (x y:Value) (w:World):(rE 180 (.agg #[x,y]) (.int .i64 0)).run pG w=.ok x w:=by
 simp[rE,wW underlying180,asIntOf,part,isAgg,wW underlying26,lW]
theorem bA0 (x y:Value) (w:World):(rE 180 (.agg #[x,y]) (.int .i64 1)).run pG w=.ok y w:=by
 simp[rE,wW underlying180,asIntOf,part,isAgg,wW underlying26,lW]
theorem bA1 (v:Value) (m:List Int) (n:Nat) (w:World) (hr:RdI w v m) (m4:0<m.length) (hm:m.length<=20000) (h2:2<=n) (b6:n<=258) (F:∀x∈m,0<=x/\x<(n:Int)):
  Calls pG 83 #[v,.int .i64 (n:Int)] w fun e w'=>aHd w w' m n e:=by
 have i3:=hid (xR (which:=0) h2 b6 F hm);have i4:=hid (xR (which:=1) h2 b6 F hm);have d6:=hid (wF (which:=0) h2 b6 F hm).2;have d7:=hid (wF (which:=1) h2 b6 F hm).2;have HX:=hid F;have i5:=aF5 v m n w hr F;obtain⟨a,ca,rfl,q7,q8,hA⟩:=hr.open;have t1:decide ((n:Int)<2)=false:=aE (by omega);have t2:decide ((n:Int)>258)=false:=aE (by omega);have t3:decide (258<(n:Int))=false:=aE (by omega);have t4:((m.length:Int)==0)=false:=by rw[cB];omega
 have t5:decide ((m.length:Int)>1048576)=false:=aE (by omega);have t6:decide (1048576<(m.length:Int))=false:=aE (by omega);have t7:(m.length==0)=false:=by rw[cB];omega
 have m5:∀W:World,(Instr.makeSlice 26 (.int .i64 (n:Int)) (.int .i64 (n:Int))).run pG W=.ok (.slice (some ⟨W.heap.size,0,none⟩) n n) (W.alloc (.cells (gW (.int .i64 0) n) 3)):=fun W=>by
  obtain⟨i,hi,hz,e2,e3⟩:=jL.info;have hb:(i.bytes:Int)*(n:Int)<=281474976710656:=by rw[e3];omega
  have:=run_make (P:=pG) W 26 3 i (.int .i64 0) jL.under hi hz .i64 .i64 (n:Int) (n:Int) (by omega) (Int.le_refl _) hb (by omega);rw[e2,Nat.mul_one,fL,jL.cells,show madeCells #[bQ .i64 0] n=gW (.int .i64 0) n from by rw[gW,<-toList_madeCells_one]] at this;exact this
 have i6:=fun W (h:RdI W (.slice a m.length ca) m)=>aHo (.slice a m.length ca) m W h m4 (by omega)
 have m7:=hid i6;clear hA F i6;go_enter func83,ntmps83;go_wp2_with fail;refine i5.mono ?_;rintro e w1 ⟨rfl,b7⟩;have b9:=hr.below b7;clear i5 hr;go_wp2_with fail
 go_cut [7] (fun c7 wx=>∃M O bx,c7=.pointer (some ⟨bx,0,none⟩)/\Wts w1 wx n M O bx)
 case first=>
  go_region
  all_goals
   go_wp2_with fail;go_meet;obtain⟨k1,k2,k3,k4⟩:=bAy w1 _ _ _
   first
    |exact⟨_,_,_,rfl,k1,k2,k3,by omega,by omega,by omega,by omega,by omega,k4⟩
    |exact⟨_,_,_,rfl,k2,k1,k3,by omega,by omega,by omega,by omega,by omega,k4⟩
    |exact⟨_,_,_,rfl,k1,k3,k2,by omega,by omega,by omega,by omega,by omega,k4⟩
    |exact⟨_,_,_,rfl,k3,k1,k2,by omega,by omega,by omega,by omega,by omega,k4⟩
    |exact⟨_,_,_,rfl,k2,k3,k1,by omega,by omega,by omega,by omega,by omega,k4⟩
    |exact⟨_,_,_,rfl,k3,k2,k1,by omega,by omega,by omega,by omega,by omega,k4⟩
 case rest=>
  obtain⟨M,O,bx,rfl,J,L,c0,q9,i7,i8,f3,f4,f5⟩:=hcut;have i9:=b9.below f5;have U:=aW b7 f5;have e0:∀wh,aX n (bQ .i64 0)=(eH m n wh 0).map (bQ .i64):=fun wh=>by show _=(aX n (0:Int)).map _;rw[List.map_replicate]
  rw[e0 0] at J;rw[e0 1] at L;have d8:M<wc.heap.size:=J.lt;have d9:O<wc.heap.size:=L.lt;have j0:bx<wc.heap.size:=c0.lt;have f3:w.heap.size<=M:=aR b7.size f3;have f4:w.heap.size<=O:=aR b7.size f4;clear m5 e0 b9 f5 b7;go_wp2_with fail;refine(m7.out _ i9).mono ?_;rintro e w5 ⟨v8,gs,rfl,a2,a3,b2⟩;have m8:=b2.size;have J:=J.below b2 d8;have L:=L.below b2 d9;have c0:=c0.below b2 j0;have U:=U.trans (b2.mono U.size);obtain⟨BB,j1⟩:∃BB,BB=wc.heap.size:=⟨_,rfl⟩;rw[<-j1] at a2 a3 d8 d9 j0 m8;have c3:gs.length=(m.length+9)/10:=by rw[a3.1,kR]
  obtain⟨b8,o8,c8,rfl⟩:=Ow.openN a2 (by omega);have r0:=(Ow.lt a2 b8 rfl).1;obtain⟨G,hG⟩:∃G,G=gs.length:=⟨_,rfl⟩;have j2:=hid (hG.trans c3);rw[<-hG];have r4:G<=2001:=by omega
  have f6:=hid (fun wh k hk=>(BZ m n wh HX.out k hk).2.2);have c5:=hid (fun wh=>xO m n wh);have f7:=hid (fun wh k x (h:m[k]? =some x)=>aF2 (n:=n) (wh:=wh) h);have j3:=hid a2;have f8:=hid a3;clear i9 j1 c3 b2 hG a2 a3;go_wp2_with fail
  go_loopg [9,10,12,54,61] G (fun g _s9 _s10 _s12 m9 _s61 wr=>∃i k:Nat,Hid (k=min (10*i) m.length)/\i<=G/\g=G-i/\m9=.int .i64 (i:Int)/\Arr wr M 3 ((eH m n 0 k).map (bQ .i64))/\Arr wr O 3 ((eH m n 1 k).map (bQ .i64))/\mJ M O w5 wr/\Below w.heap.size w wr)
  case atStart=>exact⟨0,0,hid (by simp),aO _,rfl,rfl,J,L,mJ.refl _ _ _,U⟩
  case round=>
   clear J L U;obtain⟨i,k,HK,hi,I,rfl,J,L,V,U⟩:=hrel;have HG:=hid I;have e4:=j2.out;have hk:=HK.out;have b3:=V.arr c0 i7 i8;clear I
   by_cases o0:i<G
   ·have u1:decide ((i:Int)<(G:Int))=true:=aG (by omega);have a7:(dA m)[i]? =some ((m.drop (10*i)).take 10):=BY m i (by omega);have o1:k=10*i:=by rw[hk];exact Nat.min_eq_left (by omega)
    clear hk HK;subst o1;obtain⟨x,F⟩:∃x,gs[i]? =some x:=⟨_,aN (by rw[f8.out.1,kR];omega)⟩;have e5:=f8.out.2 i x _ F a7;have c1:=V.cell (j3.out.cellAt F) (by omega) (by omega);obtain⟨g,e6⟩:∃g,g=(m.drop (10*i)).take 10:=⟨_,rfl⟩;rw[<-e6] at e5;have c3:g.length=min 10 (m.length-10*i):=by rw[e6,aQ,bA]
    have j4:0<g.length:=by omega
    have o2:=hid (fun j (hj:j<g.length)=>show g[j]? =m[10*i+j]? by rw[e6,pW (by omega),jR]);obtain⟨ag,cg,rfl,_,_,j5⟩:=(OwI.rd e5).open;obtain⟨bg,og,rfl,r5,j6⟩:=j5 j4;have r6:=(Ow.lt e5 bg rfl).1;have o3:=hid j6;obtain⟨N,hN⟩:∃N,N=g.length:=⟨_,rfl⟩;rw[<-hN] at c1 j4;have HN:=hid (hN.trans c3);have o4:=hid hN;have r7:N<=10:=by omega
    clear F a7 e5 e6 c3 j5 j6 hN;obtain⟨Z,rfl⟩:∃Z,Z=wr:=⟨_,rfl⟩;go_wp2_with fail
    go_loopg [12,61] N (fun gm _s12 o5 wr=>∃j k:Nat,Hid (k=10*i+j)/\j<=N/\gm=N-j/\o5=.int .i64 (j:Int)/\Arr wr M 3 ((eH m n 0 k).map (bQ .i64))/\Arr wr O 3 ((eH m n 1 k).map (bQ .i64))/\mJ M O w5 wr/\Below w.heap.size w wr)
    case atStart=>exact⟨0,10*i,hid (by omega),aO _,rfl,rfl,J,L,V,U⟩
    case round=>
     clear J L V U b3 c1;obtain⟨j,k,HK,hj,I,rfl,J,L,V,U⟩:=hrel;have j7:=hid I;have hk:=HK.out;have b3:=V.arr c0 i7 i8;have d0:=b3.cell (i:=0) rfl;have d1:=b3.cell (i:=1) rfl;clear I
     by_cases o6:j<N
     ·have v1:decide ((j:Int)<(N:Int))=true:=aG (by omega);have o7:=HN.out;have f9:k<m.length:=by omega
      obtain⟨x,F⟩:=eG f9;have j8:g[j]? =some x:=by rw[o2.out j (by rw[<-o4.out];exact o6),<-hk];exact F
      have c1:=V.cell (o3.out j x j8) (by omega) (by omega);have j9:=HX.out x (cN F);have a5:=f7.out 0 k x F;have a6:=f7.out 1 k x F;have k0:k/10=i:=by omega
      rw[k0] at a5 a6;obtain⟨X,rfl⟩:∃X:Nat,x=(X:Int):=⟨x.toNat,by omega⟩;rw[fL] at a5 a6;have q1:(X:Int)<(n:Int):=j9.2;have k5:X<n:=by omega
      have k6:k<=m.length:=by omega
      clear j8 F k0 hk j9;rcases Nat.mod_two_eq_zero_or_one i with hp|hp
      ·rw[aB hp] at a5;rw[aA (by omega)] at a6;have m1:(i:Int).tmod 2=0:=by rw[mL (by omega)];omega
       have m2:(i:Int)%2=0:=by omega
       have a8:(eH m n 0 k)[X]? =some ((eH m n 0 k).getD X 0):=by rw[bV,aN (by rw[c5.out 0 k];exact k5)];rfl
       have g0:=f6.out 0 k k6 _ (cN a8);have c2:=J.cell (i:=X) (v:=.int .i64 ((eH m n 0 k).getD X 0)) (by rw[eQ,a8];rfl);have f2:=J.free X;have HS:=hid (show((eH m n 0 (k+1)).map (bQ .i64))=((eH m n 0 k).map (bQ .i64)).set X (.int .i64 ((eH m n 0 k).getD X 0+1)) by rw[a5,AP]);have g1:=hid a6;obtain⟨d,hd⟩:∃d,d=(eH m n 0 k).getD X 0:=⟨_,rfl⟩;rw[<-hd] at c2 g0 HS;have m6:aJ.wrap (d+1)=d+1:=by rw[aM];omega
       clear hd a5 a6 a8 hp;go_wp2_with fail;have I:=j7.out;have hk:=HK.out
       go_roundg (N-(j+1))
       case measure=>omega
       case rel=>exact⟨j+1,k+1,hid (by omega),by omega,rfl,by go_num,by rw[HS.out];exact J.set X _,by rw[g1.out];exact L.other ⟨M,X,none⟩ (by simp;omega) _,V.trans (mJ.set0 _ _ _),U.setCell (p:=⟨M,X,none⟩) f3 _⟩
      ·rw[aA (by omega)] at a5;rw[aB hp] at a6;have m1:(i:Int).tmod 2=1:=by rw[mL (by omega)];omega
       have m2:(i:Int)%2=1:=by omega
       have a8:(eH m n 1 k)[X]? =some ((eH m n 1 k).getD X 0):=by rw[bV,aN (by rw[c5.out 1 k];exact k5)];rfl
       have g0:=f6.out 1 k k6 _ (cN a8);have c2:=L.cell (i:=X) (v:=.int .i64 ((eH m n 1 k).getD X 0)) (by rw[eQ,a8];rfl);have f2:=L.free X;have HS:=hid (show((eH m n 1 (k+1)).map (bQ .i64))=((eH m n 1 k).map (bQ .i64)).set X (.int .i64 ((eH m n 1 k).getD X 0+1)) by rw[a6,AP]);have g1:=hid a5;obtain⟨d,hd⟩:∃d,d=(eH m n 1 k).getD X 0:=⟨_,rfl⟩;rw[<-hd] at c2 g0 HS;have m6:aJ.wrap (d+1)=d+1:=by rw[aM];omega
       clear hd a5 a6 a8 hp;go_wp2_with fail;have I:=j7.out;have hk:=HK.out
       go_roundg (N-(j+1))
       case measure=>omega
       case rel=>exact⟨j+1,k+1,hid (by omega),by omega,rfl,by go_num,by rw[g1.out];exact J.other ⟨O,X,none⟩ (by simp;omega) _,by rw[HS.out];exact L.set X _,V.trans (mJ.set1 _ _ _),U.setCell (p:=⟨O,X,none⟩) f4 _⟩
     ·have v1:decide ((j:Int)<(N:Int))=false:=aE (by omega);clear hk;go_wp2_with fail;have I:=HG.out;have hk:=HK.out;have o7:=HN.out
      go_roundg (G-(i+1))
      case measure=>omega
      case rel=>exact⟨i+1,k,hid (by omega),by omega,rfl,by go_num,J,L,V,U⟩
   ·have u1:decide ((i:Int)<(G:Int))=false:=aE (by omega);have f9:k=m.length:=by omega
    subst f9;obtain⟨Z,rfl⟩:∃Z,Z=wr:=⟨_,rfl⟩;have o9:=U.size;have k7:RdI Z (.slice (some ⟨M,0,none⟩) n n) (mW m n 0):=TT (R:=[]) (by rw[dI];exact J) (c5.out 0 _) (aD _) (by simp only[maxLen];omega);have b9:RdI Z (.slice (some ⟨O,0,none⟩) n n) (mW m n 1):=TT (R:=[]) (by rw[dI];exact L) (c5.out 1 _) (aD _) (by simp only[maxLen];omega)
    have g2:=fun(wh:Nat) u W (h:RdI W u (mW m n wh))=>aZ3 u (mW m n wh) W h (by rw[(yA hm HX.out).1];exact h2) (by rw[(yA hm HX.out).1];exact b6) (yA hm HX.out).2.2 (yA hm HX.out).2.1
    have e7:=hid (g2 0 (.slice (some ⟨M,0,none⟩) n n));have e8:=hid (g2 1 (.slice (some ⟨O,0,none⟩) n n));rw[show qX (mW m n 0)=eN m n 0 from rfl] at e7;rw[show qX (mW m n 1)=eN m n 1 from rfl] at e8;obtain⟨A,e9⟩:∃A,A=eN m n 0:=⟨_,rfl⟩;obtain⟨C,f0⟩:∃C,C=eN m n 1:=⟨_,rfl⟩;rw[<-e9] at e7 i3 d6;rw[<-f0] at e8 i4 d7;have p2:=hid (show dS m n=(dA m).map (rO A C) by unfold dS;rw[e9,f0]);have p3:=hid (show([eN m n 0,eN m n 1]:List (List Int))=[A,C] by rw[e9,f0]);have a2:=V.ow j3.out d8 d9;have a3:=f8.out.map (fun x g k=>V.ow k d8 d9);have d0:=b3.cell (i:=0) rfl
    have d1:=b3.cell (i:=1) rfl;clear g2 J L e9 f0 V hk HK f6 c5 f7 e4;go_wp2_with fail
    go_loopg [4,14,15,16,77] 2 (fun gm s4 _s14 _s15 _s16 p4 wr=>∃(q:Nat) (xs:List Value) (v4:Value),q<=2/\gm=2-q/\v4=s4/\p4=.int .i64 (q:Int)/\Ow wr Z.heap.size 26 v4 xs/\LF wr Z.heap.size xs ([A,C].take q)/\Below Z.heap.size Z wr)
    case atStart=>exact⟨0,[],_,by omega,rfl,rfl,rfl,Ow.nil _ _ _,LF.nil _ _,aH _ _⟩
    case round=>
     obtain⟨q,xs,v4,hq,I,rfl,rfl,ho,hl,a4⟩:=hrel;have k8:=hid I;have c6:=a4.size;have k9:xs.length=q:=by rw[hl.1,aQ];simp;omega
     have g3:(xs.length+1)*24<=140737488355328:=by omega
     clear I;rcases(show q=0\/q=1\/q=2 by omega) with rfl|rfl|rfl
     ·have g4:=e7.out wr (k7.below a4);have ix:=fun W=>bAz (.slice (some ⟨M,0,none⟩) n n) (.slice (some ⟨O,0,none⟩) n n) W
      go_wp2_with fail;refine g4.mono ?_;rintro e w6 ⟨p5,rfl,hf,a1⟩;have p6:=a1.size;obtain⟨bf,Rf,c9,-,-⟩:=id hf;obtain⟨H,d2⟩:∃H,H=A.length:=⟨_,rfl⟩;rw[<-d2] at c9;subst c9;have HF:=hid hf;clear hf d2;go_wp2_with (at_builtin;refine tM CK rfl _ _ rfl Z.heap.size _ xs rfl ((ho.below a1 (aD _)).alloc _) w6.heap.size (.slice (some ⟨bf,0,none⟩) H H) rfl (bX _ _ _) rfl ?_ ?_ ?_;(exact g3);(simp;omega);intro v9 w7 r1 r2 r3);have d3:(w6.alloc (.cells #[.slice (some ⟨bf,0,none⟩) H H] 26)).grownBy w7 v4.ownBlock:=r3
      have d4:=(ho.below a1 (aD _)).alloc (.cells #[.slice (some ⟨bf,0,none⟩) H H] 26);have a9:=bD (aH _ w6) (.cells #[.slice (some ⟨bf,0,none⟩) H H] 26);have I:=k8.out
      go_roundg 1
      case measure=>omega
      case rel=>
       refine⟨1,_,_,by omega,rfl,rfl,by go_num,r1,?_,((a4.trans (a1.mono c6)).trans (a9.mono (by omega))).trans r2⟩;refine LF.snoc (gs:=[]) ?_ ?_
       ·exact(((hl.below a1).below a9).map (fun x g k=>k.kept d4 d3))
       ·exact((HF.out.base c6).below a9).kept d4 d3
     ·have g4:=e8.out wr (b9.below a4);have ix:=fun W=>bA0 (.slice (some ⟨M,0,none⟩) n n) (.slice (some ⟨O,0,none⟩) n n) W
      go_wp2_with fail;refine g4.mono ?_;rintro e w6 ⟨p5,rfl,hf,a1⟩;have p6:=a1.size;obtain⟨bf,Rf,c9,-,-⟩:=id hf;obtain⟨H,d2⟩:∃H,H=C.length:=⟨_,rfl⟩;rw[<-d2] at c9;subst c9;have HF:=hid hf;clear hf d2;go_wp2_with (at_builtin;refine tM CK rfl _ _ rfl Z.heap.size _ xs rfl ((ho.below a1 (aD _)).alloc _) w6.heap.size (.slice (some ⟨bf,0,none⟩) H H) rfl (bX _ _ _) rfl ?_ ?_ ?_;(exact g3);(simp;omega);intro v9 w7 r1 r2 r3);have d3:(w6.alloc (.cells #[.slice (some ⟨bf,0,none⟩) H H] 26)).grownBy w7 v4.ownBlock:=r3
      have d4:=(ho.below a1 (aD _)).alloc (.cells #[.slice (some ⟨bf,0,none⟩) H H] 26);have a9:=bD (aH _ w6) (.cells #[.slice (some ⟨bf,0,none⟩) H H] 26);have I:=k8.out
      go_roundg 0
      case measure=>omega
      case rel=>
       refine⟨2,_,_,by omega,rfl,rfl,by go_num,r1,?_,((a4.trans (a1.mono c6)).trans (a9.mono (by omega))).trans r2⟩;refine LF.snoc (gs:=[A]) ?_ ?_
       ·exact(((hl.below a1).below a9).map (fun x g k=>k.kept d4 d3))
       ·exact((HF.out.base c6).below a9).kept d4 d3
     ·obtain⟨x0,x1,rfl⟩:∃x0 x1,xs=[x0,x1]:=by
       match xs,k9 with
       |[x0,x1],_=>exact⟨x0,x1,rfl⟩
      obtain⟨w7,rfl⟩:∃w7,w7=wr:=⟨_,rfl⟩;have l1:=hl.2 0 x0 A rfl rfl;have l2:=hl.2 1 x1 C rfl rfl;obtain⟨b4,c4,R4,rfl,r8,g5,r9,s0,_⟩:=Ow.openA ho (by simp);have l3:=U.trans (a4.mono o9);have a2:=a2.below a4 (aD _);have a3:=a3.below a4;have s1:=hid hl;have p7:=hid ho;have p8:=hid (fun j g (h:(dA m)[j]? =some g)=>MM h);have p9:=hid (fun(g:List Int) u W (h:RdI W u g) (hv:RdI W x0 A) (h1:∀x∈g,x∈m) (h3:g.length<=10)=>aF6 x0 u A g W hv h i3.out (by rw[d6.out];exact fun x F=>HX.out x (h1 x F)) (by omega))
      have q0:=hid (fun(g:List Int) u W (h:RdI W u g) (hv:RdI W x1 C) (h1:∀x∈g,x∈m) (h3:g.length<=10)=>aF6 x1 u C g W hv h i4.out (by rw[d7.out];exact fun x F=>HX.out x (h1 x F)) (by omega));clear e7 e8 k7 b9 hl ho g3 k9 a4 c6;have e0:=g5.cell (i:=0) rfl;have e1:=g5.cell (i:=1) rfl;have g6:=g5.lt;go_wp2_with fail
      go_loopg [5,18,19,20,21,22,23,92] G (fun gm s5 _s18 _s19 _s20 _s21 _s22 _s23 q3 wr=>∃(i:Nat) (u:Value),i<=G/\gm=G-i/\u=s5/\q3=.int .i64 (i:Int)/\OwI wr w7.heap.size u (((dA m).take i).map (rO A C))/\Below w7.heap.size w7 wr)
      case atStart=>exact⟨0,_,aO _,rfl,rfl,rfl,OwI.nil _ _,aH _ _⟩
      case round=>
       obtain⟨i,u,hi,I,rfl,rfl,hu,a0⟩:=hrel;have l4:=hid I;have l5:=a0.size;have e4:=j2.out;have q4:(((dA m).take i).map (rO A C)).length<=3000:=by rw[aS,aQ];omega
       clear I
       by_cases o0:i<G
       ·have u1:decide ((i:Int)<(G:Int))=true:=aG (by omega);obtain⟨g,a7⟩:∃g,(dA m)[i]? =some g:=⟨_,aN (by rw[kR];omega)⟩;obtain⟨x,F⟩:∃x,gs[i]? =some x:=⟨_,aN (by rw[a3.1,kR];omega)⟩;have g7:=OwI.rd (a3.2 i x g F a7);have g8:=a2.cellAt F;have c1:=(a0.cell (p:=⟨b8,o8+i,none⟩) (gV w7 _ g8)).trans g8;obtain⟨q1,q2⟩:=p8.out i g a7;have g9:=g7.below a0;have i0:=p9.out g x wr g9 ((l1.below a0).rd (by rw[d6.out];omega)) q1 q2
        have i1:=fun W (hb:Below wr.heap.size wr W)=>q0.out g x W (g9.below hb) (((l2.below a0).below hb).rd (by rw[d7.out];omega)) q1 q2
        have b5:=hid (show((dA m).take (i+1)).map (rO A C)=((dA m).take i).map (rO A C)++[if qW C g<qW A g then 1 else 0] by rw[cG,a7,List.map_append];rfl);obtain⟨p0,l6⟩:∃p0,p0=qW A g:=⟨_,rfl⟩;obtain⟨p1,l7⟩:∃p1,p1=qW C g:=⟨_,rfl⟩;rw[<-l6] at i0 b5;rw[<-l7] at i1 b5;obtain⟨ax,cx,rfl,_,_,_⟩:=g7.open;have e0:=(a0.cell (p:=⟨b4,0,none⟩) g6).trans e0;have e1:=(a0.cell (p:=⟨b4,1,none⟩) g6).trans e1;clear a7 F g7 g8 g9 l6 l7 e4 q1;go_wp2_with fail;refine i0.mono ?_;rintro e w8 ⟨rfl,d5⟩;have e1:=(d5.cell (p:=⟨b4,1,none⟩) (fB g6 l5)).trans e1
        go_wp2_with fail;refine(i1 _ d5).mono ?_;rintro e w9 ⟨rfl,l8⟩;have i2:=d5.trans (l8.mono d5.size);have l9:=OwI.below hu i2 (aD _);have s2:=i2.size;have m0:=a0.trans (i2.mono l5);clear i0 i1 d5 l8 e0 e1 c1
        by_cases f1:p1<p0
        ·have v1:decide (p1<p0)=true:=aG f1;rw[aB f1] at b5;go_wp2_with (at_builtin;refine gK rfl _ _ rfl w7.heap.size _ _ rfl (OwI.alloc l9 _) _ 1 rfl (bX _ _ _) ?_ ?_ ?_;(omega);(simp;omega);intro q5 q6 r1 r2 r3);have I:=l4.out
         go_roundg (G-(i+1))
         case measure=>omega
         case rel=>exact⟨i+1,_,by omega,rfl,rfl,by go_num,by rw[b5.out];exact r1,(m0.alloc (by omega) _).trans r2⟩
        ·have v1:decide (p1<p0)=false:=aE f1;rw[aA f1] at b5;go_wp2_with (at_builtin;refine gK rfl _ _ rfl w7.heap.size _ _ rfl (OwI.alloc l9 _) _ 0 rfl (bX _ _ _) ?_ ?_ ?_;(omega);(simp;omega);intro q5 q6 r1 r2 r3);have I:=l4.out
         go_roundg (G-(i+1))
         case measure=>omega
         case rel=>exact⟨i+1,_,by omega,rfl,rfl,by go_num,by rw[b5.out];exact r1,(m0.alloc (by omega) _).trans r2⟩
       ·have u1:decide ((i:Int)<(G:Int))=false:=aE (by omega);rw[cD (by rw[kR];omega),<-p2.out] at hu;have m3:=l3.size;clear e4 q4;go_wp2_with fail
        go_ret3
        refine⟨_,_,rfl,?_,OwI.base hu m3,l3.trans (a0.mono m3)⟩;rw[p3.out];exact⟨[x0,x1],(Ow.rd p7.out).below a0,LOK.two ((l1.below a0).rd (by rw[d6.out];omega)) ((l2.below a0).rd (by rw[d7.out];omega))⟩
end
end Go.Proofs.YtihbnmlinkbnkaaGreatDoor
