/-
  Texts put together (part 19): the walks and the plain laws on which the statement stands.
-/
import Derived.Test.YtpgmbhpbgkljdaaGreatDoorZ18
set_option maxRecDepth 100000
set_option maxHeartbeats 12800000
open Array renaming getElem?_eq_some_iff->gQ,replicate_succ->lL,replicate_zero->lM
open Go renaming belowK_b->pJ,callsIn_of_wp_marks->xX,grownBy_putObj'->mC,heap_alloc_new->FL,heap_setCell_other->kT,results_none->qX,run_takeDeferred->sJ,run_underlying->sI,wpAnyH_done->pY,wpAnyH_ready->fL
open Go.Act renaming eval->qC,put->aJ
open Go.AllReadyH renaming cons->fA,nil->fM
open Go.Builtin renaming append_->tT
open Go.Fence renaming wide->eA
open Go.Instr renaming index->tV
open Go.IntKind renaming i64->aI,wrap_i64->aM
open Go.KeepsOthers renaming drew->aC3,setCell->iH
open Go.Oper renaming semAt_some->rB
open Go.Result renaming andThen->jB
open Go.RowKit.Below renaming heap_alloc->oF,refl->aB
open Go.Value renaming int->bO
open Go.World renaming block_lt_of_cell?->iO
open Int renaming tmod_eq_emod_of_nonneg->oJ,toNat_natCast->eG
open List renaming append_nil->eE,append_toArray->lO,cons_append->gE,getD_eq_getElem?_getD->aV,getElem?_append_left->gS,getElem?_append_right->jY,getElem?_drop->gR,getElem?_eq_getElem->aN,getElem?_map->dY,getElem?_take_of_lt->mB,length_append->aL,length_cons->cR,length_drop->cI,length_map->bJ,length_nil->cX,length_take->aX,map_set->vF,mem_of_getElem?->cH,nil_append->iG,push_toArray->lN,replicate->bB,setIfInBounds_toArray->aK,set_cons_succ->aG,set_cons_zero->aH,size_toArray->mY,take_add_one->cQ,take_of_length_le->cS
open Nat renaming le_refl->aA,le_trans->aW,lt_of_lt_of_le->dR,reduceAdd->lZ,reduceSub->mZ,sub_self->oI,zero_le->aU
open Option.some renaming inj->bW
namespace Go.Proofs.YtpgmbhpbgkljdaaGreatDoor
section
open Go.RowKit Go Go.Shelf
attribute [local go_sem] rB
theorem aSc {P:Program} {t e bytes:Nat} {z:Value} (E:ElT P t e bytes z) {w:World} (ty:TypeId) (base:Nat) (v:Value) (xs:List Value) (hown:Ow w base e v xs) (g:Nat) (u:Value) (hc:w.cell? ⟨g,0,none⟩=some u) (h1:u.oneCell'=true) (hroom:(xs.length+1)*bytes<=140737488355328) (hbase:base<=w.heap.size):
  ∃v' w',(tT #[t,t] ty #[v,.slice (some ⟨g,0,none⟩) 1 1]).run P w=.ok v' w'/\Ow w' base e v' (xs++[u])/\Below base w w'/\w.grownBy w' v.ownBlock:=by
 obtain⟨i,hi,hz,h2,h3⟩:=E.info;have h4:z.cells.size=1:=by rw[E.cells];rfl
 have hpos:=E.pos;have hn:xs.length+1<=140737488355328:=aW (Nat.le_mul_of_pos_right _ hpos) hroom;obtain⟨v',w',q1,q2,q3,_⟩:=run_append_own (P:=P) w base t ty e i z 1 bytes E.under hi hz h2 h3 h4 (by decide) v xs.length xs hown ⟨g,0,none⟩ 1 1 [u] rfl (fun j u' hj=>by
  cases j with
  |zero=>simp at hj;subst hj;simpa [Addr.add] using hc
  |succ j=>simp at hj) (by simpa using h1) (by simp only[maxLen];omega) hroom hbase
 exact⟨v',w',q1,by unfold Ow;rw[aL];exact q2,rC hown q3 hbase,q3⟩
theorem Ow.keptB {w w':World} {B e:Nat} {v:Value} {xs:List Value} {row:Option Nat} (h:Ow w B e v xs) (hg:w.grownBy w' row) (hr:∀r,row=some r->∃o:Obj,w.heap[r]? =some o/\o.isCells=false):Ow w' B e v xs:=by
 refine Ow.kept h hg ?_;rcases h.2 with⟨rfl,_⟩|⟨g,cap,cur,rfl,_,hg2,_⟩
 ·exact .inl rfl
 ·refine .inr (fun e=>?_);obtain⟨o,ho,hc⟩:=hr g e.symm;rw[hg2] at ho;obtain rfl:=bW ho;exact Bool.noConfusion hc
theorem aSd {w:World} {b off cap:Nat} {m:List Int} (hb:b<w.heap.size) (hc:∀j x,m[j]? =some x->w.cell? ⟨b,off+j,none⟩=some (.int .i64 x)) (hl:m.length<=cap) (hm:cap<=maxLen) {i:Nat} (_:i<(m.length+9)/10):
  RdI w (chV b off m.length i) ((m.drop (10*i)).take 10):=by
 have hlen:((m.drop (10*i)).take 10).length=min 10 (m.length-10*i):=by rw[aX,cI]
 refine⟨_,_,by rw[hlen];rfl,by rw[hlen];exact aA _,by omega,.inr ⟨b,off+10*i,rfl,hb,fun j hj=>?_⟩⟩;rw[bJ,hlen] at hj;have hx:m[10*i+j]? =some m[10*i+j]:=aN (by omega);rw[Nat.add_assoc,hc _ _ hx,aV,dY,mB (by omega),gR,hx];rfl
def aSe (O B1:Nat) (m:List Int) (k:Nat) (W w1 w W':World):Prop:=
 KeepsFrom w1.heap.size W W'/\KpA B1 W W'/\(∃v xs,Arr W' O 122 [v]/\Ow W' (B1+1+1) 39 v xs/\fE W' (B1+1+1) xs ((cK m).take k)/\B1+1+1<=W'.heap.size)/\Below O w W'
theorem aSf (O B1:Nat) (pre:List Value) (x:Value) (m g:List Int) (W w1 w:World) {av:Option Addr} {cv:Nat} {xs:List Value} (hO:Arr W O 122 [.slice av xs.length cv]) (hv:Ow W (B1+1+1) 39 (.slice av xs.length cv) xs)
  (hx:fE W (B1+1+1) xs ((cK m).take pre.length)) (hwb:B1+1+1<=W.heap.size) (hbel:Below O w W) (hOB:O<B1) (hz:w1.heap.size=B1+1+1) (hg:(cK m).take (pre++[x]).length=(cK m).take pre.length++[g]) (hroom:(xs.length+1)*24<=140737488355328)
  (w2:World) (hb2:Below W.heap.size W w2) (a2:Option Addr) (n2 c2:Nat) (ho:OwI w2 W.heap.size (.slice a2 n2 c2) g):
  ∃(a3:Option Addr) (n3 c3:Nat) (w3:World),(tT #[122,122] 122 #[.slice av xs.length cv,.slice (some ⟨w2.heap.size,0,none⟩) 1 1]).run Tryz.prog (w2.alloc (.cells #[.slice a2 n2 c2] 39))=.ok (.slice a3 n3 c3) w3/\
   w3.cell? ⟨O,0,none⟩=some (.slice av xs.length cv)/\w3.frozen? ⟨O,0,none⟩=false/\aSe O B1 m (pre++[x]).length W w1 w (w3.setCell ⟨O,0,none⟩ (.slice a3 n3 c3)):=by
 have hs2:=hb2.size;obtain⟨o,hoe⟩:∃o:Obj,o=.cells #[.slice a2 n2 c2] 39:=⟨_,rfl⟩;have hv2:=(hv.below hb2 (aA _)).alloc o;obtain⟨v3,w3,q1,q2,q3,q4⟩:=aSc wK (w:=w2.alloc o) 122 (B1+1+1) _ xs hv2 w2.heap.size (.slice a2 n2 c2) (by rw[hoe];exact bS _ _ _) rfl hroom (by simp;omega);rw[<-hoe];obtain⟨a3,c3,rfl,-⟩:=q2.rd;have hO3:=((hO.below hb2 hO.lt).alloc o).below q3 (by omega);have hba:Below W.heap.size W (w2.alloc o):=hb2.alloc (by omega) o;have hb3:Below (B1+1+1) W w3:=(hba.mono (by omega)).trans q3;have hs3:=hb3.size
 have hne:∀{B:Nat} {u:Value} {ys:List Value} {e:Nat},Ow w3 (B1+1+1) e u ys->u.ownBlock=none\/u.ownBlock≠some O:=fun h=>iL h (by omega)
 have hg':=eM w3 O 0 (.slice a3 (xs++[Value.slice a2 n2 c2]).length c3);refine⟨a3,_,c3,w3,q1,hO3.cell (i:=0) rfl,hO3.free 0,?_,?_,⟨_,xs++[.slice a2 n2 c2],hO3.set 0 _,Ow.kept q2 hg' (hne (B:=0) q2),?_,by simp;omega⟩,?_⟩
 ·refine KeepsOthers.from ?_ _;refine KeepsOthers.trans ?_ (iH _ _ _);refine KeepsOthers.trans (B:=w2.alloc o) ⟨hba.size,fun k q hk _=>(hba.block k (gQ.1 hk).1).trans hk⟩ ?_;refine KeepsOthers.of_grownBy q4 (fun j q hj hq=>?_);rcases hv2.2 with⟨e,_⟩|⟨gg,cap,cur,e,_,hg2,_⟩
  ·rw[e] at hj;cases hj
  ·rw[e] at hj;obtain rfl:=bW hj;rw[hg2] at hq;obtain rfl:=bW hq;rfl
 ·refine⟨by simp;omega,fun k q hk hq _=>?_⟩;rw[kT w3 ⟨O,0,none⟩ k _ (by simp;omega)];exact(hb3.block k (by omega)).trans hq
 ·rw[hg];refine fE.map (B:=B1+1+1) (w:=w3) ?_ (fun x g k=>Ow.kept k hg' (hne (B:=0) k));refine fE.snoc (((hx.below hb2).alloc o).app hv2 q4) ?_;exact Ow.base (Ow.kept (OwI.alloc ho o) q4 (qO (OwI.alloc ho o) hv2 (by decide))) hwb
 ·exact(hbel.trans (hb3.mono (by omega))).setCell (p:=⟨O,0,none⟩) (aA _) _
theorem aSg (n:Nat) (hn:3<=n) (v:Value) (m:List Int) (w:World) (hr:RdI w v m) (h0:0<m.length) (hm:m.length<=1000000):
  CallsIn eA n Tryz.prog 75 #[v] w fun e w'=>∃v' xs,e=.returned v'/\Ow w' w.heap.size 39 v' xs/\fE w' w.heap.size xs (cK m)/\Below w.heap.size w w':=by
 have h1:1<=n:=by omega
 obtain⟨a,ca,rfl,hca,hma,hA⟩:=hr.open;obtain⟨b,off,rfl,hb,hc⟩:=hA h0;have HC:=hid (fun(W:World) (hW:Below w.heap.size w W) (i:Nat) (hi:i<(m.length+9)/10)=>aSd (w:=W) (cap:=ca) (dR hb hW.size) (fun j x hj=>(hW.cell (p:=⟨b,off+j,none⟩) hb).trans (hc j x hj)) hca hma hi);have hO:=Arr.new w 122 [.slice none 0 0];have hbo:=bD (aB _ w) (.cells #[.slice none 0 0] 122);have hso:(w.alloc (.cells #[.slice none 0 0] 122)).heap.size=w.heap.size+1:=by simp
 clear hr hA hc;refine xX Tryz.func75 rfl trivial ?_ rfl;simp only[Tryz.ntmps75,mY,cR,cX,lZ,mZ,lL,lM,lN,lO,iG,gE]
 gi_wp2_with fail
 refine⟨trivial,(callsIn_wide.2 (aRd _ _ _ _)).mono ?_⟩;rintro e w' ⟨rfl,rfl⟩
 gi_wp2_with fail
 generalize w.alloc (.cells #[.slice none 0 0] 122)=W0 at*
 have hX1:=(Arr.new W0 39 [.slice (some ⟨b,off,none⟩) m.length ca]).alloc (.cells #[.int .i64 10] 3);have hX2:Arr ((W0.alloc (.cells #[.slice (some ⟨b,off,none⟩) m.length ca] 39)).alloc (.cells #[.int .i64 10] 3)) (W0.heap.size+1) 3 [.int .i64 10]:=by
  rw[show W0.heap.size+1=(W0.alloc (.cells #[.slice (some ⟨b,off,none⟩) m.length ca] 39)).heap.size by simp];exact Arr.new _ _ _
 change Arr ((W0.alloc (.cells #[.slice (some ⟨b,off,none⟩) m.length ca] 39)).alloc (.cells #[.int .i64 10] 3)) _ _ _ at hX1;have hO:=(hO.alloc (.cells #[.slice (some ⟨b,off,none⟩) m.length ca] 39)).alloc (.cells #[.int .i64 10] 3);have hbo:=(hbo.alloc (o:=.cells #[.slice (some ⟨b,off,none⟩) m.length ca] 39) (by omega)).alloc (o:=.cells #[.int .i64 10] 3) (by simp;omega);have hz:((W0.alloc (.cells #[.slice (some ⟨b,off,none⟩) m.length ca] 39)).alloc (.cells #[.int .i64 10] 3)).heap.size=W0.heap.size+1+1:=by simp
 generalize (W0.alloc (.cells #[.slice (some ⟨b,off,none⟩) m.length ca] 39)).alloc (.cells #[.int .i64 10] 3)=w1 at*
 obtain⟨O,hOe⟩:∃O,O=w.heap.size:=⟨_,rfl⟩;obtain⟨B1,hB1⟩:∃B1,B1=w.heap.size+1:=⟨_,rfl⟩;rw[hso,<-hB1] at hX1 hX2 hz;rw[<-hB1,<-hOe];rw[<-hOe] at hO hbo hB1 HC hb;have HO:=hid hOe;have hOB:O<B1:=by omega
 clear hOe hB1 hso;refine MO (w0:=w1) (Bs:=B1) h1 (gf:=137) (lb:=#[.pointer (some ⟨B1,0,none⟩),.pointer (some ⟨B1+1,0,none⟩)]) rfl (enters_of Tryz.func137 (by kernel_rfl) rfl)
  (aR4 (n-1) (by omega) B1 b off ca m.length hca hm w1 hX1 hX2) (fun h k=>h.trans k) (KpA.put (by omega)) (aB _ _) (fun _=>rfl) (by omega)
  (fun pre W=>(∃v xs,Arr W O 122 [v]/\Ow W (B1+1+1) 39 v xs/\fE W (B1+1+1) xs ((cK m).take pre.length)/\B1+1+1<=W.heap.size)/\Below O w W)
  (OwnFrom.and (Own.from (fun s A B row hs hg hr=>by
   obtain⟨v,xs,k1,k2,k3,k4⟩:=hs;exact⟨v,xs,k1.keptB hg hr,k2.keptB hg hr,k3.map (fun x g k=>Ow.keptB k hg hr),aW k4 hg.size⟩) _) (ownFrom_below (by rw[HO.out];exact aA _) (by omega)))
  (fun pre A v ⟨⟨u,xs,k1,k2,k3,k4⟩,k6⟩=>⟨⟨u,xs,k1.other ⟨B1,0,none⟩ (by simp;omega) v,Ow.kept k2 (eM A B1 0 v) (iL k2 (by omega)),k3.map (fun x g k=>Ow.kept k (eM A B1 0 v) (iL k (by omega))),by simpa using k4⟩,k6.setCell (p:=⟨B1,0,none⟩) (by show O<=B1;omega) _⟩)
  ⟨⟨_,[],hO,Ow.nil _ _ _,fE.nil _ _,by omega⟩,hbo⟩
  (fun x=>{tmps:=#[.slice (some ⟨b,off,none⟩) m.length ca,undef,.pointer (some ⟨O,0,none⟩),x,.slice (some ⟨b,off,none⟩) m.length ca,.func (.func 137) #[] #[.pointer (some ⟨B1,0,none⟩),.pointer (some ⟨B1+1,0,none⟩)],x,undef,undef,undef,undef,undef,undef],defers:=[]}) ?assign ?body ?done
 case assign=>
  intro l x W K hK
  gi_wp2
  exact hK
 case body=>
  rintro l pre x W ⟨⟨v,xs,hO,hv,hx,hwb⟩,hbel⟩ ⟨r,hr⟩;have hlen:=congrArg List.length hr;rw[zY,aL,cR] at hlen;have hi:pre.length<(m.length+9)/10:=by omega
  have hxe:x=chV b off m.length pre.length:=by
   have e1:(pre++x::r)[pre.length]? =some x:=by rw[jY (aA _),oI];rfl
   rw[hr,aBf hi] at e1;exact(bW e1).symm
  have hxr:=HC.out W hbel _ hi;rw[<-hxe] at hxr;have HGT:=hid (show(cK m).take (pre++[x]).length=(cK m).take pre.length++[(m.drop (10*pre.length)).take 10] by
   rw[aL,List.length_singleton,cQ,wH m _ hi];rfl)
  have hg0:0<((m.drop (10*pre.length)).take 10).length:=by rw[aX,cI];omega
  have hg1:((m.drop (10*pre.length)).take 10).length<=10:=by rw[aX];omega
  obtain⟨g,hg⟩:∃g,g=(m.drop (10*pre.length)).take 10:=⟨_,rfl⟩;rw[<-hg] at hxr HGT hg0 hg1;have hxl:xs.length=pre.length:=by rw[hx.1,aX,iD];omega
  have hroom:(xs.length+1)*24<=140737488355328:=by omega
  have hcl:=fun(W':World) (h:Below W.heap.size W W')=>aA3 x g W' (hxr.below h) hg0 (by omega)
  obtain⟨av,cv,hve,-⟩:=hv.rd;subst hve;have HSTEP:=hid (fun(w2:World) (hb2:Below W.heap.size W w2) (a2:Option Addr) (n2 c2:Nat) (B2:Nat) (hB2:B2=W.heap.size) (ho:OwI w2 B2 (.slice a2 n2 c2) g)=>aSf O B1 pre x m g W w1 w hO hv hx hwb hbel hOB hz HGT.out hroom w2 hb2 a2 n2 c2 (hB2▸ho));obtain⟨nv,hnv⟩:∃nv,nv=xs.length:=⟨_,rfl⟩;rw[<-hnv] at HSTEP hO;have c0:=hO.cell (i:=0) rfl;clear hnv hlen hi hxe hg hxl hroom hv hx hr hO
  gi_wp2_with fail
  refine aAf (by omega) (fun _=>True) (by kernel_rfl) (fun⟨_,_,h⟩=>(h:False).elim) (by kernel_rfl) ?_;have hT:True:=trivial;refine wpAnyH_take (i:=1) (oi:=?oi1) (v:=?v1) ?hi1 (by kernel_rfl) (by kernel_rfl) (by kernel_rfl) ?hq1 ?hy1 (by assumption) ?_
  case hi1=>(simp only[List.getElem?_toArray,List.getElem?_cons_succ,List.getElem?_cons_zero];rfl)
  case hq1=>exact fun _ _ _ h=>h
  case hy1=>(refine Or.inl ⟨by rfl,?_⟩;intro w' hSw;(try dsimp only at hSw);(try go_simp);try with_reducible rfl)
  try simp only[aJ,aK,aH,aG]
  refine fL (rs:=[0,2]) (by kernel_rfl) (by simp) ?_;refine fA rfl (fun K hK=>?_) (fA rfl (fun K hK=>?_) fM)
  ·go_simp;refine hK.out _ _ trivial (fun _=>?_)
   try simp only[aJ,aK,aH,aG]
   clear hK K;refine fL (rs:=[2]) (by kernel_rfl) (by simp) ?_;refine fA rfl (fun K hK=>?_) fM;go_simp;refine(hcl W.drew (aB _ W).drew).mono ?_;rintro e w2 ⟨v2,rfl,ho,hb2⟩;obtain⟨a2,c2,rfl,-⟩:=(OwI.rd ho).open;have hb3:Below W.heap.size W w2:=(aB _ W).drew.trans hb2;obtain⟨a3,n3,c3,w3,q1,d0,fd,hP⟩:=HSTEP.out w2 hb3 _ _ _ _ rfl ho;refine hK.out _ _ trivial (fun _=>?_)
   try simp only[aJ,aK,aH,aG]
   clear hK K;refine fL (rs:=[3]) (by kernel_rfl) (by simp) ?_;refine fA rfl (fun K hK=>?_) fM;go_simp;refine hK.out _ _ trivial (fun _=>?_)
   try simp only[aJ,aK,aH,aG]
   clear hK K;refine fL (rs:=[4]) (by kernel_rfl) (by simp) ?_;refine fA rfl (fun K hK=>?_) fM;refine xC rfl (.tmp 7) (.tmp 10) 122 rfl (.slice av nv cv) (.slice (some ⟨w2.heap.size,0,none⟩) 1 1) (.slice a3 n3 c3) w3 (by simp[qC]) (by simp[qC]) q1 ?_;refine hK.out _ _ trivial (fun _=>?_)
   try simp only[aJ]
   clear hK K;refine fL (rs:=[5]) (by kernel_rfl) (by simp) ?_;refine fA rfl (fun K hK=>?_) fM;go_simp;refine hK.out _ _ trivial (fun _=>?_)
   try simp only[aJ,aK,aH,aG]
   clear hK K;refine pY (by kernel_rfl) ?_ _
   gi_wp2_with fail
   exact hP
  ·go_simp;refine(hcl W.drew (aB _ W).drew).mono ?_;rintro e w2 ⟨v2,rfl,ho,hb2⟩;obtain⟨a2,c2,rfl,-⟩:=(OwI.rd ho).open;have hb3:Below W.heap.size W w2:=(aB _ W).drew.trans hb2;obtain⟨a3,n3,c3,w3,q1,d0,fd,hP⟩:=HSTEP.out w2 hb3 _ _ _ _ rfl ho;have c2':w2.cell? ⟨O,0,none⟩=some (.slice av nv cv):=(hb3.cell (p:=⟨O,0,none⟩) (iO W _ c0)).trans c0;refine hK.out _ _ trivial (fun _=>?_)
   try simp only[aJ,aK,aH,aG]
   clear hK K;have c3':(w2.alloc (.cells #[.slice a2 g.length c2] 39)).cell? ⟨O,0,none⟩=some (.slice av nv cv):=((bD (aB _ w2) (.cells #[.slice a2 g.length c2] 39)).cell (p:=⟨O,0,none⟩) (iO w2 _ c2')).trans c2';refine fL (rs:=[0,3]) (by kernel_rfl) (by simp) ?_;refine fA rfl (fun K hK=>?_) (fA rfl (fun K hK=>?_) fM)
   ·go_simp;refine hK.out _ _ trivial (fun _=>?_)
    try simp only[aJ,aK,aH,aG]
    clear hK K;refine fL (rs:=[3]) (by kernel_rfl) (by simp) ?_;refine fA rfl (fun K hK=>?_) fM;go_simp;refine hK.out _ _ trivial (fun _=>?_)
    try simp only[aJ,aK,aH,aG]
    clear hK K;refine fL (rs:=[4]) (by kernel_rfl) (by simp) ?_;refine fA rfl (fun K hK=>?_) fM;refine xC rfl (.tmp 7) (.tmp 10) 122 rfl (.slice av nv cv) (.slice (some ⟨w2.heap.size,0,none⟩) 1 1) (.slice a3 n3 c3) w3 (by simp[qC]) (by simp[qC]) q1 ?_;refine hK.out _ _ trivial (fun _=>?_)
    try simp only[aJ]
    clear hK K;refine fL (rs:=[5]) (by kernel_rfl) (by simp) ?_;refine fA rfl (fun K hK=>?_) fM;go_simp;refine hK.out _ _ trivial (fun _=>?_)
    try simp only[aJ,aK,aH,aG]
    clear hK K;refine pY (by kernel_rfl) ?_ _
    gi_wp2_with fail
    exact hP
   ·go_simp;refine hK.out _ _ trivial (fun _=>?_)
    try simp only[aJ,aK,aH,aG]
    clear hK K;refine fL (rs:=[0]) (by kernel_rfl) (by simp) ?_;refine fA rfl (fun K hK=>?_) fM;go_simp;refine hK.out _ _ trivial (fun _=>?_)
    try simp only[aJ,aK,aH,aG]
    clear hK K;refine fL (rs:=[4]) (by kernel_rfl) (by simp) ?_;refine fA rfl (fun K hK=>?_) fM;refine xC rfl (.tmp 7) (.tmp 10) 122 rfl (.slice av nv cv) (.slice (some ⟨w2.heap.size,0,none⟩) 1 1) (.slice a3 n3 c3) w3 (by simp[qC]) (by simp[qC]) q1 ?_;refine hK.out _ _ trivial (fun _=>?_)
    try simp only[aJ]
    clear hK K;refine fL (rs:=[5]) (by kernel_rfl) (by simp) ?_;refine fA rfl (fun K hK=>?_) fM;go_simp;refine hK.out _ _ trivial (fun _=>?_)
    try simp only[aJ,aK,aH,aG]
    clear hK K;refine pY (by kernel_rfl) ?_ _
    gi_wp2_with fail
    exact hP
 case done=>
  rintro D W hD ⟨⟨v,xs,hO,hv,hx,hwb⟩,hbel⟩ hK;rw[cS (by rw[iD,zY];exact aA _)] at hx;obtain⟨av,cv,hve,-⟩:=hv.rd;subst hve;have c0:=hO.cell (i:=0) rfl;have f0:=hO.free 0;obtain⟨nv,hnv⟩:∃nv,nv=xs.length:=⟨_,rfl⟩;rw[<-hnv] at c0 hO hv;clear hnv
  gi_wp2_with fail
  have hK2:=(iH W ⟨O,0,none⟩ (.slice av nv cv)).same D _ hK rfl;refine⟨by simp,.inl ⟨_,_,rfl,sJ hK2,?_⟩⟩;have hO2:=((hO.set 0 (.slice av nv cv)).grown (mC _ D (.deferred none)) (by simp;omega)).cell (i:=0) rfl;refine⟨.slice av nv cv,?_,?_⟩
  ·simp[results,Tryz.f75,go_sem,hO2]
  ·have hg1:=eM W O 0 (.slice av nv cv);have hr2:∀r,some D=some r->∃o:Obj,(W.setCell ⟨O,0,none⟩ (.slice av nv cv)).heap[r]? =some o/\o.isCells=false:=fun r e=>by cases e;exact⟨_,hK2,rfl⟩
   have hk:∀{e:Nat} {u:Value} {ys:List Value},Ow W (B1+1+1) e u ys->Ow ((W.setCell ⟨O,0,none⟩ (.slice av nv cv)).putObj D (.deferred none)) w.heap.size e u ys:=fun h=>
    Ow.base (Ow.keptB (Ow.kept h hg1 (iL h (by omega))) (mC _ D (.deferred none)) hr2) (by rw[<-HO.out];omega)
   refine⟨_,xs,rfl,hk hv,hx.map (fun x g k=>hk k),?_⟩;rw[<-HO.out];exact(hbel.setCell (p:=⟨O,0,none⟩) (aA _) _).trans (pJ (w:=w1) (by omega) _ D _ _ hD hK2 rfl rfl)
theorem aBi (v:Value) (m:List Int) (w:World) (hr:RdI w v m) (h0:0<m.length) (hm:m.length<=1000000):
  Calls Tryz.prog 75 #[v] w fun e w'=>∃v' xs,e=.returned v'/\Ow w' w.heap.size 39 v' xs/\fE w' w.heap.size xs (cK m)/\Below w.heap.size w w':=
 callsIn_wide.1 (aSg 3 (aA _) v m w hr h0 hm)
end
section
open Go.RowKit Go Go.Shelf
def jP (b0 b1:Nat) (A B:World):Prop:=A.heap.size<=B.heap.size/\∀k,k<A.heap.size->k≠b0->k≠b1->B.heap[k]? =A.heap[k]?
theorem jP.refl (b0 b1:Nat) (A:World):jP b0 b1 A A:=⟨aA _,fun _ _ _ _=>rfl⟩
theorem jP.trans {b0 b1:Nat} {A B C:World} (h:jP b0 b1 A B) (k:jP b0 b1 B C):jP b0 b1 A C:=⟨aW h.1 k.1,fun i hi h0 h1=>(k.2 i (dR hi h.1) h0 h1).trans (h.2 i hi h0 h1)⟩
theorem jP.set0 {b0 b1:Nat} (A:World) (i:Nat) (v:Value):jP b0 b1 A (A.setCell ⟨b0,i,none⟩ v):=⟨by simp,fun k _ h0 _=>kT A ⟨b0,i,none⟩ k v h0⟩
theorem jP.set1 {b0 b1:Nat} (A:World) (i:Nat) (v:Value):jP b0 b1 A (A.setCell ⟨b1,i,none⟩ v):=⟨by simp,fun k _ _ h1=>kT A ⟨b1,i,none⟩ k v h1⟩
theorem jP.cell {b0 b1:Nat} {A B:World} (h:jP b0 b1 A B) {b o:Nat} {v:Value} (hc:A.cell? ⟨b,o,none⟩=some v) (h0:b≠b0) (h1:b≠b1):B.cell? ⟨b,o,none⟩=some v:=by
 rw[<-hc];exact World.cell?_of_block (h.2 b (iO A _ hc) h0 h1)
theorem jP.arr {b0 b1:Nat} {A B:World} (h:jP b0 b1 A B) {b e:Nat} {l:List Value} (hA:Arr A b e l) (h0:b≠b0) (h1:b≠b1):Arr B b e l:=(h.2 b hA.lt h0 h1).trans hA
theorem jP.ow {b0 b1:Nat} {A B:World} (h:jP b0 b1 A B) {base e:Nat} {v:Value} {xs:List Value} (ho:Ow A base e v xs) (h0:b0<base) (h1:b1<base):Ow B base e v xs:=by
 refine⟨ho.1,?_⟩;rcases ho.2 with hn|⟨g,cap,cur,e1,hb,hg,rest⟩
 ·exact .inl hn
 ·exact .inr ⟨g,cap,cur,e1,hb,(h.2 g (gQ.1 hg).1 (by omega) (by omega)).trans hg,rest⟩
def Wts (w wx:World) (n:Nat) (b0 b1 bx:Nat):Prop:=
 Arr wx b0 3 (bB n (.int .i64 0))/\Arr wx b1 3 (bB n (.int .i64 0))/\Arr wx bx 155 [.slice (some ⟨b0,0,none⟩) n n,.slice (some ⟨b1,0,none⟩) n n]/\
  b0≠b1/\bx≠b0/\bx≠b1/\w.heap.size<=b0/\w.heap.size<=b1/\Below w.heap.size w wx
def LF (w:World) (B:Nat) (xs:List Value) (gs:List (List Int)):Prop:=xs.length=gs.length/\∀(j:Nat) (x:Value) (g:List Int),xs[j]? =some x->gs[j]? =some g->kS w B x g
theorem LF.nil (w:World) (B:Nat):LF w B [] []:=⟨rfl,fun j x g h=>by simp at h⟩
theorem LF.map {w w':World} {B B':Nat} {xs:List Value} {gs:List (List Int)} (h:LF w B xs gs) (k:∀(x:Value) (g:List Int),kS w B x g->kS w' B' x g):LF w' B' xs gs:=⟨h.1,fun j x g hx hg=>k x g (h.2 j x g hx hg)⟩
theorem LF.below {w w':World} {B:Nat} {xs:List Value} {gs:List (List Int)} (h:LF w B xs gs) (hb:Below w.heap.size w w'):LF w' B xs gs:=h.map (fun _ _ k=>k.below hb)
theorem LF.snoc {w:World} {B:Nat} {xs:List Value} {gs:List (List Int)} (h:LF w B xs gs) {x:Value} {g:List Int} (hx:kS w B x g):LF w B (xs++[x]) (gs++[g]):=by
 refine⟨by simp[h.1],fun j y l hy hl=>?_⟩;rcases Nat.lt_trichotomy j xs.length with k|k|k
 ·rw[gS k] at hy;rw[gS (by rw[<-h.1];exact k)] at hl;exact h.2 j y l hy hl
 ·subst k;rw[jY (aA _),oI] at hy;rw[h.1,jY (aA _),oI] at hl;obtain rfl:=bW hy;obtain rfl:=bW hl;exact hx
 ·rw[List.getElem?_eq_none (by simp;omega)] at hy;cases hy
theorem kS.kept {w w':World} {B B':Nat} {v u:Value} {l:List Int} {ys:List Value} (h:kS w B v l) (ho:Ow w B' 39 u ys) (hg:w.grownBy w' u.ownBlock):kS w' B v l:=by
 obtain⟨b,R,e,hB,hA⟩:=h;exact⟨b,R,e,hB,hA.grown hg (DF hA ho (by decide))⟩
theorem kS.one {w:World} {B:Nat} {v:Value} {l:List Int} (h:kS w B v l):v.oneCell'=true:=by
 obtain⟨b,R,e,_,_⟩:=h;rw[e];rfl
theorem aSh (w:World) (o1 o2 o3:Obj):(((w.alloc o1).alloc o2).alloc o3).drew.heap[w.heap.size]? =some o1/\(((w.alloc o1).alloc o2).alloc o3).drew.heap[w.heap.size+1]? =some o2/\(((w.alloc o1).alloc o2).alloc o3).drew.heap[w.heap.size+1+1]? =some o3/\Below w.heap.size w (((w.alloc o1).alloc o2).alloc o3).drew:=by
 have e1:(w.alloc o1).heap.size=w.heap.size+1:=by simp
 have e2:((w.alloc o1).alloc o2).heap.size=w.heap.size+1+1:=by simp
 refine⟨?_,?_,?_,(bD (bD (bD (aB _ _) _) _) _).drew⟩
 ·show(((w.alloc o1).alloc o2).alloc o3).heap[w.heap.size]? =_;rw[oF _ _ _ (by omega),oF _ _ _ (by omega)];exact FL w o1
 ·show(((w.alloc o1).alloc o2).alloc o3).heap[w.heap.size+1]? =_;rw[oF _ _ _ (by omega),<-e1];exact FL _ o2
 ·show(((w.alloc o1).alloc o2).alloc o3).heap[w.heap.size+1+1]? =_;rw[<-e2];exact FL _ o3
theorem aSi (x y:Value) (w:World):(tV 155 (.agg #[x,y]) (.int .i64 0)).run Tryz.prog w=.ok x w:=by
 simp[tV,sI Tryz.underlying155,asIntOf,part,isAgg,sI Tryz.underlying39,jB]
theorem aSj (x y:Value) (w:World):(tV 155 (.agg #[x,y]) (.int .i64 1)).run Tryz.prog w=.ok y w:=by
 simp[tV,sI Tryz.underlying155,asIntOf,part,isAgg,sI Tryz.underlying39,jB]
theorem aSk (v:Value) (m:List Int) (n:Nat) (w:World) (hr:RdI w v m) (hm0:0<m.length) (hm:m.length<=20000) (h2:2<=n) (h258:n<=258) (hx:∀x∈m,0<=x/\x<(n:Int)):
  Calls Tryz.prog 68 #[v,.int .i64 (n:Int)] w fun e w'=>TH w w' m n e:=by
 have HC0:=hid (tB (which:=0) h2 h258 hx hm);have HC1:=hid (tB (which:=1) h2 h258 hx hm);have HL0:=hid (rQ (which:=0) h2 h258 hx hm).2;have HL1:=hid (rQ (which:=1) h2 h258 hx hm).2;have HX:=hid hx;have hno:=ZJ v m n w hr hx;obtain⟨a,ca,rfl,hca,hma,hA⟩:=hr.open;have t1:decide ((n:Int)<2)=false:=decide_eq_false (by omega);have t2:decide ((n:Int)>258)=false:=decide_eq_false (by omega);have t3:decide (258<(n:Int))=false:=decide_eq_false (by omega);have t4:((m.length:Int)==0)=false:=by rw[beq_eq_false_iff_ne];omega
 have t5:decide ((m.length:Int)>1048576)=false:=decide_eq_false (by omega);have t6:decide (1048576<(m.length:Int))=false:=decide_eq_false (by omega);have t7:(m.length==0)=false:=by rw[beq_eq_false_iff_ne];omega
 have hmk:∀W:World,(Instr.makeSlice 39 (.int .i64 (n:Int)) (.int .i64 (n:Int))).run Tryz.prog W=.ok (.slice (some ⟨W.heap.size,0,none⟩) n n) (W.alloc (.cells (fB (.int .i64 0) n) 3)):=fun W=>by
  obtain⟨i,hi,hz,e2,e3⟩:=gL.info;have hb:(i.bytes:Int)*(n:Int)<=281474976710656:=by rw[e3];omega
  have:=run_make (P:=Tryz.prog) W 39 3 i (.int .i64 0) gL.under hi hz .i64 .i64 (n:Int) (n:Int) (by omega) (Int.le_refl _) hb (by omega);rw[e2,Nat.mul_one,eG,gL.cells,show madeCells #[bO .i64 0] n=fB (.int .i64 0) n from by rw[fB,<-toList_madeCells_one]] at this;exact this
 have hgr:=fun W (h:RdI W (.slice a m.length ca) m)=>aBi (.slice a m.length ca) m W h hm0 (by omega)
 have HGR:=hid hgr;clear hA hx hgr;go_enter Tryz.func68,Tryz.ntmps68;go_wp2_with fail;refine hno.mono ?_;rintro e w1 ⟨rfl,hb1⟩;have hr1:=hr.below hb1;clear hno hr;go_wp2_with fail
 go_cut [7] (fun c7 wx=>∃b0 b1 bx,c7=.pointer (some ⟨bx,0,none⟩)/\Wts w1 wx n b0 b1 bx)
 case first=>
  go_region
  all_goals
   go_wp2_with fail;go_meet;obtain⟨k1,k2,k3,k4⟩:=aSh w1 _ _ _
   first
    |exact⟨_,_,_,rfl,k1,k2,k3,by omega,by omega,by omega,by omega,by omega,k4⟩
    |exact⟨_,_,_,rfl,k2,k1,k3,by omega,by omega,by omega,by omega,by omega,k4⟩
    |exact⟨_,_,_,rfl,k1,k3,k2,by omega,by omega,by omega,by omega,by omega,k4⟩
    |exact⟨_,_,_,rfl,k3,k1,k2,by omega,by omega,by omega,by omega,by omega,k4⟩
    |exact⟨_,_,_,rfl,k2,k3,k1,by omega,by omega,by omega,by omega,by omega,k4⟩
    |exact⟨_,_,_,rfl,k3,k2,k1,by omega,by omega,by omega,by omega,by omega,k4⟩
 case rest=>
  obtain⟨b0,b1,bx,rfl,hW0,hW1,hBx,hn01,hnx0,hnx1,hs0,hs1,hbw⟩:=hcut;have hr2:=hr1.below hbw;have hbel:=bV hb1 hbw;have e0:∀wh,bB n (bO .i64 0)=(dJ m n wh 0).map (bO .i64):=fun wh=>by show _=(bB n (0:Int)).map _;rw[List.map_replicate]
  rw[e0 0] at hW0;rw[e0 1] at hW1;have hb0w:b0<wc.heap.size:=hW0.lt;have hb1w:b1<wc.heap.size:=hW1.lt;have hbxw:bx<wc.heap.size:=hBx.lt;have hs0:w.heap.size<=b0:=aW hb1.size hs0;have hs1:w.heap.size<=b1:=aW hb1.size hs1;clear hmk e0 hr1 hbw hb1;go_wp2_with fail;refine(HGR.out _ hr2).mono ?_;rintro e w5 ⟨v8,gs,rfl,ho8,hl8,hb5⟩;have hBBs:=hb5.size;have hW0:=hW0.below hb5 hb0w;have hW1:=hW1.below hb5 hb1w;have hBx:=hBx.below hb5 hbxw;have hbel:=hbel.trans (hb5.mono hbel.size);obtain⟨BB,hBB⟩:∃BB,BB=wc.heap.size:=⟨_,rfl⟩;rw[<-hBB] at ho8 hl8 hb0w hb1w hbxw hBBs
  have hgl:gs.length=(m.length+9)/10:=by rw[hl8.1,iD]
  obtain⟨b8,o8,c8,rfl⟩:=Ow.openN ho8 (by omega);have hb8:=(Ow.lt ho8 b8 rfl).1;obtain⟨G,hG⟩:∃G,G=gs.length:=⟨_,rfl⟩;have HG8:=hid (hG.trans hgl);rw[<-hG];have hG1:G<=2001:=by omega
  have HSUM:=hid (fun wh k hk=>(wI m n wh HX.out k hk).2.2);have HLEN:=hid (fun wh=>rP m n wh);have HST:=hid (fun wh k x (h:m[k]? =some x)=>TE (n:=n) (wh:=wh) h);have HO8:=hid ho8;have HL8:=hid hl8;clear hr2 hBB hgl hb5 hG ho8 hl8;go_wp2_with fail
  go_loopg [9,10,12,54,61] G (fun g _s9 _s10 _s12 s54 _s61 wr=>∃i k:Nat,Hid (k=min (10*i) m.length)/\i<=G/\g=G-i/\s54=.int .i64 (i:Int)/\Arr wr b0 3 ((dJ m n 0 k).map (bO .i64))/\Arr wr b1 3 ((dJ m n 1 k).map (bO .i64))/\jP b0 b1 w5 wr/\Below w.heap.size w wr)
  case atStart=>exact⟨0,0,hid (by simp),aU _,rfl,rfl,hW0,hW1,jP.refl _ _ _,hbel⟩
  case round=>
   clear hW0 hW1 hbel;obtain⟨i,k,HK,hi,hg,rfl,hW0,hW1,hT,hbel⟩:=hrel;have HG:=hid hg;have hG8:=HG8.out;have hk:=HK.out;have hBr:=hT.arr hBx hnx0 hnx1;clear hg
   by_cases hlt:i<G
   ·have u1:decide ((i:Int)<(G:Int))=true:=decide_eq_true (by omega);have hgg:(cK m)[i]? =some ((m.drop (10*i)).take 10):=wH m i (by omega);have hki:k=10*i:=by rw[hk];exact Nat.min_eq_left (by omega)
    clear hk HK;subst hki;obtain⟨x,hx⟩:∃x,gs[i]? =some x:=⟨_,aN (by rw[HL8.out.1,iD];omega)⟩;have hxo:=HL8.out.2 i x _ hx hgg;have c1:=hT.cell (HO8.out.cellAt hx) (by omega) (by omega);obtain⟨g,hge⟩:∃g,g=(m.drop (10*i)).take 10:=⟨_,rfl⟩;rw[<-hge] at hxo;have hgl:g.length=min 10 (m.length-10*i):=by rw[hge,aX,cI]
    have hg0:0<g.length:=by omega
    have HGE:=hid (fun j (hj:j<g.length)=>show g[j]? =m[10*i+j]? by rw[hge,mB (by omega),gR]);obtain⟨ag,cg,rfl,_,_,hAg⟩:=(OwI.rd hxo).open;obtain⟨bg,og,rfl,hbgl,hcg⟩:=hAg hg0;have hbg:=(Ow.lt hxo bg rfl).1;have HCG:=hid hcg;obtain⟨N,hN⟩:∃N,N=g.length:=⟨_,rfl⟩;rw[<-hN] at c1 hg0;have HN:=hid (hN.trans hgl);have HNN:=hid hN;have hN10:N<=10:=by omega
    clear hx hgg hxo hge hgl hAg hcg hN;obtain⟨wo,rfl⟩:∃wo,wo=wr:=⟨_,rfl⟩;go_wp2_with fail
    go_loopg [12,61] N (fun gm _s12 s61 wr=>∃j k:Nat,Hid (k=10*i+j)/\j<=N/\gm=N-j/\s61=.int .i64 (j:Int)/\Arr wr b0 3 ((dJ m n 0 k).map (bO .i64))/\Arr wr b1 3 ((dJ m n 1 k).map (bO .i64))/\jP b0 b1 w5 wr/\Below w.heap.size w wr)
    case atStart=>exact⟨0,10*i,hid (by omega),aU _,rfl,rfl,hW0,hW1,hT,hbel⟩
    case round=>
     clear hW0 hW1 hT hbel hBr c1;obtain⟨j,k,HK,hj,hg,rfl,hW0,hW1,hT,hbel⟩:=hrel;have HG2:=hid hg;have hk:=HK.out;have hBr:=hT.arr hBx hnx0 hnx1;have d0:=hBr.cell (i:=0) rfl;have d1:=hBr.cell (i:=1) rfl;clear hg
     by_cases hjt:j<N
     ·have v1:decide ((j:Int)<(N:Int))=true:=decide_eq_true (by omega);have hN2:=HN.out;have hkm:k<m.length:=by omega
      obtain⟨x,hx⟩:=dH hkm;have hgx:g[j]? =some x:=by rw[HGE.out j (by rw[<-HNN.out];exact hjt),<-hk];exact hx
      have c1:=hT.cell (HCG.out j x hgx) (by omega) (by omega);have hxb:=HX.out x (cH hx);have hst0:=HST.out 0 k x hx;have hst1:=HST.out 1 k x hx;have hk10:k/10=i:=by omega
      rw[hk10] at hst0 hst1;obtain⟨X,rfl⟩:∃X:Nat,x=(X:Int):=⟨x.toNat,by omega⟩;rw[eG] at hst0 hst1;have q1:(X:Int)<(n:Int):=hxb.2;have hXn:X<n:=by omega
      have hkle:k<=m.length:=by omega
      clear hgx hx hk10 hk hxb;rcases Nat.mod_two_eq_zero_or_one i with hp|hp
      ·rw[if_pos hp] at hst0;rw[if_neg (by omega)] at hst1;have m1:(i:Int).tmod 2=0:=by rw[oJ (by omega)];omega
       have m2:(i:Int)%2=0:=by omega
       have hdx:(dJ m n 0 k)[X]? =some ((dJ m n 0 k).getD X 0):=by rw[aV,aN (by rw[HLEN.out 0 k];exact hXn)];rfl
       have hdb:=HSUM.out 0 k hkle _ (cH hdx);have c2:=hW0.cell (i:=X) (v:=.int .i64 ((dJ m n 0 k).getD X 0)) (by rw[dY,hdx];rfl);have f2:=hW0.free X;have HS:=hid (show((dJ m n 0 (k+1)).map (bO .i64))=((dJ m n 0 k).map (bO .i64)).set X (.int .i64 ((dJ m n 0 k).getD X 0+1)) by rw[hst0,vF]);have HS1:=hid hst1;obtain⟨d,hd⟩:∃d,d=(dJ m n 0 k).getD X 0:=⟨_,rfl⟩;rw[<-hd] at c2 hdb HS;have m6:aI.wrap (d+1)=d+1:=by rw[aM];omega
       clear hd hst0 hst1 hdx hp;go_wp2_with fail;have hg:=HG2.out;have hk:=HK.out
       go_roundg (N-(j+1))
       case measure=>omega
       case rel=>exact⟨j+1,k+1,hid (by omega),by omega,rfl,by go_num,by rw[HS.out];exact hW0.set X _,by rw[HS1.out];exact hW1.other ⟨b0,X,none⟩ (by simp;omega) _,hT.trans (jP.set0 _ _ _),hbel.setCell (p:=⟨b0,X,none⟩) hs0 _⟩
      ·rw[if_neg (by omega)] at hst0;rw[if_pos hp] at hst1;have m1:(i:Int).tmod 2=1:=by rw[oJ (by omega)];omega
       have m2:(i:Int)%2=1:=by omega
       have hdx:(dJ m n 1 k)[X]? =some ((dJ m n 1 k).getD X 0):=by rw[aV,aN (by rw[HLEN.out 1 k];exact hXn)];rfl
       have hdb:=HSUM.out 1 k hkle _ (cH hdx);have c2:=hW1.cell (i:=X) (v:=.int .i64 ((dJ m n 1 k).getD X 0)) (by rw[dY,hdx];rfl);have f2:=hW1.free X;have HS:=hid (show((dJ m n 1 (k+1)).map (bO .i64))=((dJ m n 1 k).map (bO .i64)).set X (.int .i64 ((dJ m n 1 k).getD X 0+1)) by rw[hst1,vF]);have HS1:=hid hst0;obtain⟨d,hd⟩:∃d,d=(dJ m n 1 k).getD X 0:=⟨_,rfl⟩;rw[<-hd] at c2 hdb HS;have m6:aI.wrap (d+1)=d+1:=by rw[aM];omega
       clear hd hst0 hst1 hdx hp;go_wp2_with fail;have hg:=HG2.out;have hk:=HK.out
       go_roundg (N-(j+1))
       case measure=>omega
       case rel=>exact⟨j+1,k+1,hid (by omega),by omega,rfl,by go_num,by rw[HS1.out];exact hW0.other ⟨b1,X,none⟩ (by simp;omega) _,by rw[HS.out];exact hW1.set X _,hT.trans (jP.set1 _ _ _),hbel.setCell (p:=⟨b1,X,none⟩) hs1 _⟩
     ·have v1:decide ((j:Int)<(N:Int))=false:=decide_eq_false (by omega);clear hk;go_wp2_with fail;have hg:=HG.out;have hk:=HK.out;have hN2:=HN.out
      go_roundg (G-(i+1))
      case measure=>omega
      case rel=>exact⟨i+1,k,hid (by omega),by omega,rfl,by go_num,hW0,hW1,hT,hbel⟩
   ·have u1:decide ((i:Int)<(G:Int))=false:=decide_eq_false (by omega);have hkm:k=m.length:=by omega
    subst hkm;obtain⟨wo,rfl⟩:∃wo,wo=wr:=⟨_,rfl⟩;have hso:=hbel.size;have hr0:RdI wo (.slice (some ⟨b0,0,none⟩) n n) (iK m n 0):=MY (R:=[]) (by rw[eE];exact hW0) (HLEN.out 0 _) (aA _) (by simp only[maxLen];omega);have hr1:RdI wo (.slice (some ⟨b1,0,none⟩) n n) (iK m n 1):=MY (R:=[]) (by rw[eE];exact hW1) (HLEN.out 1 _) (aA _) (by simp only[maxLen];omega)
    have hlen:=fun(wh:Nat) u W (h:RdI W u (iK m n wh))=>aRz u (iK m n wh) W h (by rw[(tD hm HX.out).1];exact h2) (by rw[(tD hm HX.out).1];exact h258) (tD hm HX.out).2.2 (tD hm HX.out).2.1
    have hlen0:=hid (hlen 0 (.slice (some ⟨b0,0,none⟩) n n));have hlen1:=hid (hlen 1 (.slice (some ⟨b1,0,none⟩) n n));rw[show nJ (iK m n 0)=dN m n 0 from rfl] at hlen0;rw[show nJ (iK m n 1)=dN m n 1 from rfl] at hlen1;obtain⟨A,hAe⟩:∃A,A=dN m n 0:=⟨_,rfl⟩;obtain⟨C,hCe⟩:∃C,C=dN m n 1:=⟨_,rfl⟩;rw[<-hAe] at hlen0 HC0 HL0;rw[<-hCe] at hlen1 HC1 HL1;have HCH:=hid (show cT m n=(cK m).map (nX A C) by unfold cT;rw[hAe,hCe]);have HRET:=hid (show([dN m n 0,dN m n 1]:List (List Int))=[A,C] by rw[hAe,hCe]);have ho8:=hT.ow HO8.out hb0w hb1w
    have hl8:=HL8.out.map (fun x g k=>hT.ow k hb0w hb1w);have d0:=hBr.cell (i:=0) rfl;have d1:=hBr.cell (i:=1) rfl;clear hlen hW0 hW1 hAe hCe hT hk HK HSUM HLEN HST hG8;go_wp2_with fail
    go_loopg [4,14,15,16,77] 2 (fun gm s4 _s14 _s15 _s16 s77 wr=>∃(q:Nat) (xs:List Value) (v4:Value),q<=2/\gm=2-q/\v4=s4/\s77=.int .i64 (q:Int)/\Ow wr wo.heap.size 39 v4 xs/\LF wr wo.heap.size xs ([A,C].take q)/\Below wo.heap.size wo wr)
    case atStart=>exact⟨0,[],_,by omega,rfl,rfl,rfl,Ow.nil _ _ _,LF.nil _ _,aB _ _⟩
    case round=>
     obtain⟨q,xs,v4,hq,hg,rfl,rfl,ho,hl,hbx⟩:=hrel;have HGQ:=hid hg;have hsx:=hbx.size;have hxl:xs.length=q:=by rw[hl.1,aX];simp;omega
     have hroom:(xs.length+1)*24<=140737488355328:=by omega
     clear hg;rcases(show q=0\/q=1\/q=2 by omega) with rfl|rfl|rfl
     ·have hc0:=hlen0.out wr (hr0.below hbx);have ix:=fun W=>aSi (.slice (some ⟨b0,0,none⟩) n n) (.slice (some ⟨b1,0,none⟩) n n) W
      go_wp2_with fail;refine hc0.mono ?_;rintro e w6 ⟨v15,rfl,hf,hb6⟩;have hs6:=hb6.size;obtain⟨bf,Rf,hvf,-,-⟩:=id hf;obtain⟨nf,hnf⟩:∃nf,nf=A.length:=⟨_,rfl⟩;rw[<-hnf] at hvf;subst hvf;have HF:=hid hf;clear hf hnf;go_wp2_with (at_builtin;refine rD wK rfl _ _ rfl wo.heap.size _ xs rfl ((ho.below hb6 (aA _)).alloc _) w6.heap.size (.slice (some ⟨bf,0,none⟩) nf nf) rfl (bS _ _ _) rfl ?_ ?_ ?_;(exact hroom);(simp;omega);intro v9 w7 r1 r2 r3);have r3':(w6.alloc (.cells #[.slice (some ⟨bf,0,none⟩) nf nf] 39)).grownBy w7 v4.ownBlock:=r3
      have ho6:=(ho.below hb6 (aA _)).alloc (.cells #[.slice (some ⟨bf,0,none⟩) nf nf] 39);have hba:=bD (aB _ w6) (.cells #[.slice (some ⟨bf,0,none⟩) nf nf] 39);have hg:=HGQ.out
      go_roundg 1
      case measure=>omega
      case rel=>
       refine⟨1,_,_,by omega,rfl,rfl,by go_num,r1,?_,((hbx.trans (hb6.mono hsx)).trans (hba.mono (by omega))).trans r2⟩;refine LF.snoc (gs:=[]) ?_ ?_
       ·exact(((hl.below hb6).below hba).map (fun x g k=>k.kept ho6 r3'))
       ·exact((HF.out.base hsx).below hba).kept ho6 r3'
     ·have hc0:=hlen1.out wr (hr1.below hbx);have ix:=fun W=>aSj (.slice (some ⟨b0,0,none⟩) n n) (.slice (some ⟨b1,0,none⟩) n n) W
      go_wp2_with fail;refine hc0.mono ?_;rintro e w6 ⟨v15,rfl,hf,hb6⟩;have hs6:=hb6.size;obtain⟨bf,Rf,hvf,-,-⟩:=id hf;obtain⟨nf,hnf⟩:∃nf,nf=C.length:=⟨_,rfl⟩;rw[<-hnf] at hvf;subst hvf;have HF:=hid hf;clear hf hnf;go_wp2_with (at_builtin;refine rD wK rfl _ _ rfl wo.heap.size _ xs rfl ((ho.below hb6 (aA _)).alloc _) w6.heap.size (.slice (some ⟨bf,0,none⟩) nf nf) rfl (bS _ _ _) rfl ?_ ?_ ?_;(exact hroom);(simp;omega);intro v9 w7 r1 r2 r3);have r3':(w6.alloc (.cells #[.slice (some ⟨bf,0,none⟩) nf nf] 39)).grownBy w7 v4.ownBlock:=r3
      have ho6:=(ho.below hb6 (aA _)).alloc (.cells #[.slice (some ⟨bf,0,none⟩) nf nf] 39);have hba:=bD (aB _ w6) (.cells #[.slice (some ⟨bf,0,none⟩) nf nf] 39);have hg:=HGQ.out
      go_roundg 0
      case measure=>omega
      case rel=>
       refine⟨2,_,_,by omega,rfl,rfl,by go_num,r1,?_,((hbx.trans (hb6.mono hsx)).trans (hba.mono (by omega))).trans r2⟩;refine LF.snoc (gs:=[A]) ?_ ?_
       ·exact(((hl.below hb6).below hba).map (fun x g k=>k.kept ho6 r3'))
       ·exact((HF.out.base hsx).below hba).kept ho6 r3'
     ·obtain⟨x0,x1,rfl⟩:∃x0 x1,xs=[x0,x1]:=by
       match xs,hxl with
       |[x0,x1],_=>exact⟨x0,x1,rfl⟩
      obtain⟨w7,rfl⟩:∃w7,w7=wr:=⟨_,rfl⟩;have hf0:=hl.2 0 x0 A rfl rfl;have hf1:=hl.2 1 x1 C rfl rfl;obtain⟨b4,c4,R4,rfl,hB4,hA4,hn4,hm4,_⟩:=Ow.openA ho (by simp);have hbel7:=hbel.trans (hbx.mono hso);have ho8:=ho8.below hbx (aA _);have hl8:=hl8.below hbx;have HLF:=hid hl;have HOT:=hid ho;have hMEM:=hid (fun j g (h:(cK m)[j]? =some g)=>DK h);have hb0c:=hid (fun(g:List Int) u W (h:RdI W u g) (hv:RdI W x0 A) (h1:∀x∈g,x∈m) (h3:g.length<=10)=>ZK x0 u A g W hv h HC0.out (by rw[HL0.out];exact fun x hx=>HX.out x (h1 x hx)) (by omega))
      have hb1c:=hid (fun(g:List Int) u W (h:RdI W u g) (hv:RdI W x1 C) (h1:∀x∈g,x∈m) (h3:g.length<=10)=>ZK x1 u C g W hv h HC1.out (by rw[HL1.out];exact fun x hx=>HX.out x (h1 x hx)) (by omega));clear hlen0 hlen1 hr0 hr1 hl ho hroom hxl hbx hsx;have e0:=hA4.cell (i:=0) rfl;have e1:=hA4.cell (i:=1) rfl;have hb47:=hA4.lt;go_wp2_with fail
      go_loopg [5,18,19,20,21,22,23,92] G (fun gm s5 _s18 _s19 _s20 _s21 _s22 _s23 s92 wr=>∃(i:Nat) (u:Value),i<=G/\gm=G-i/\u=s5/\s92=.int .i64 (i:Int)/\OwI wr w7.heap.size u (((cK m).take i).map (nX A C))/\Below w7.heap.size w7 wr)
      case atStart=>exact⟨0,_,aU _,rfl,rfl,rfl,OwI.nil _ _,aB _ _⟩
      case round=>
       obtain⟨i,u,hi,hg,rfl,rfl,hu,hby⟩:=hrel;have HGI:=hid hg;have hsy:=hby.size;have hG8:=HG8.out;have hol:(((cK m).take i).map (nX A C)).length<=3000:=by rw[bJ,aX];omega
       clear hg
       by_cases hlt:i<G
       ·have u1:decide ((i:Int)<(G:Int))=true:=decide_eq_true (by omega);obtain⟨g,hgg⟩:∃g,(cK m)[i]? =some g:=⟨_,aN (by rw[iD];omega)⟩;obtain⟨x,hx⟩:∃x,gs[i]? =some x:=⟨_,aN (by rw[hl8.1,iD];omega)⟩;have hxr:=OwI.rd (hl8.2 i x g hx hgg);have hc8:=ho8.cellAt hx;have c1:=(hby.cell (p:=⟨b8,o8+i,none⟩) (iO w7 _ hc8)).trans hc8;obtain⟨q1,q2⟩:=hMEM.out i g hgg;have hx3:=hxr.below hby;have hcall0:=hb0c.out g x wr hx3 ((hf0.below hby).rd (by rw[HL0.out];omega)) q1 q2
        have hcall1:=fun W (hb:Below wr.heap.size wr W)=>hb1c.out g x W (hx3.below hb) (((hf1.below hby).below hb).rd (by rw[HL1.out];omega)) q1 q2
        have HTK:=hid (show((cK m).take (i+1)).map (nX A C)=((cK m).take i).map (nX A C)++[if nI C g<nI A g then 1 else 0] by rw[cQ,hgg,List.map_append];rfl);obtain⟨p0,hp0⟩:∃p0,p0=nI A g:=⟨_,rfl⟩;obtain⟨p1,hp1⟩:∃p1,p1=nI C g:=⟨_,rfl⟩;rw[<-hp0] at hcall0 HTK;rw[<-hp1] at hcall1 HTK;obtain⟨ax,cx,rfl,_,_,_⟩:=hxr.open;have e0:=(hby.cell (p:=⟨b4,0,none⟩) hb47).trans e0;have e1:=(hby.cell (p:=⟨b4,1,none⟩) hb47).trans e1;clear hgg hx hxr hc8 hx3 hp0 hp1 hG8 q1;go_wp2_with fail;refine hcall0.mono ?_;rintro e w8 ⟨rfl,hb8'⟩
        have e1:=(hb8'.cell (p:=⟨b4,1,none⟩) (dR hb47 hsy)).trans e1;go_wp2_with fail;refine(hcall1 _ hb8').mono ?_;rintro e w9 ⟨rfl,hb9⟩;have hbb:=hb8'.trans (hb9.mono hb8'.size);have hu9:=OwI.below hu hbb (aA _);have hs9:=hbb.size;have hby9:=hby.trans (hbb.mono hsy);clear hcall0 hcall1 hb8' hb9 e0 e1 c1
        by_cases hpp:p1<p0
        ·have v1:decide (p1<p0)=true:=decide_eq_true hpp;rw[if_pos hpp] at HTK;go_wp2_with (at_builtin;refine eN rfl _ _ rfl w7.heap.size _ _ rfl (OwI.alloc hu9 _) _ 1 rfl (bS _ _ _) ?_ ?_ ?_;(omega);(simp;omega);intro v10 w10 r1 r2 r3);have hg:=HGI.out
         go_roundg (G-(i+1))
         case measure=>omega
         case rel=>exact⟨i+1,_,by omega,rfl,rfl,by go_num,by rw[HTK.out];exact r1,(hby9.alloc (by omega) _).trans r2⟩
        ·have v1:decide (p1<p0)=false:=decide_eq_false hpp;rw[if_neg hpp] at HTK;go_wp2_with (at_builtin;refine eN rfl _ _ rfl w7.heap.size _ _ rfl (OwI.alloc hu9 _) _ 0 rfl (bS _ _ _) ?_ ?_ ?_;(omega);(simp;omega);intro v10 w10 r1 r2 r3);have hg:=HGI.out
         go_roundg (G-(i+1))
         case measure=>omega
         case rel=>exact⟨i+1,_,by omega,rfl,rfl,by go_num,by rw[HTK.out];exact r1,(hby9.alloc (by omega) _).trans r2⟩
       ·have u1:decide ((i:Int)<(G:Int))=false:=decide_eq_false (by omega);rw[cS (by rw[iD];omega),<-HCH.out] at hu;have hs7:=hbel7.size;clear hG8 hol;go_wp2_with fail
        go_ret3
        refine⟨_,_,rfl,?_,OwI.base hu hs7,hbel7.trans (hby.mono hs7)⟩;rw[HRET.out];exact⟨[x0,x1],(Ow.rd HOT.out).below hby,LOK.two ((hf0.below hby).rd (by rw[HL0.out];omega)) ((hf1.below hby).rd (by rw[HL1.out];omega))⟩
end
section
open Go.RowKit Go Go.Shelf
attribute [local go_sem] rB
theorem aSq (M k:Nat) (h1:k<=64) (h2:M<2^k):bits .and .u64 (M:Int) ((2^k-1:Nat):Int)=(M:Int):=by
 have hk:2^k<=18446744073709551616:=aW (Nat.pow_le_pow_right (by decide) h1) (by decide);rw[u64_and_nat _ _ (by omega) (by omega),Nat.and_two_pow_sub_one_eq_mod,Nat.mod_eq_of_lt h2]
theorem aSr (n:Nat) (hn:2<=n) (B:Nat) (s:ByteArray) (a k:Nat) (w:World) (hs:s.size<=1000000) (ha:a<=90000000) (hk1:1<=k) (hk2:k<=64)
  (hA:Arr w B 9 [.string s]) (hA1:Arr w (B+1) 3 [.int .i64 (a:Int)]) (hA2:Arr w (B+1+1) 3 [.int .i64 (k:Int)]):
  aBk n Tryz.prog 84 #[.pointer (some ⟨B+1,0,none⟩),.pointer (some ⟨B+1+1,0,none⟩),.pointer (some ⟨B,0,none⟩)] (fun x:Int×Int=>#[.int .i64 x.1,.int .u64 x.2]) (a+k<=8*s.size) ((a:Int),(aE s.data.toList (a:Int) k:Int)) w:=by
 intro l J Jx W hW _ _ hY h0;have hA:=hA.below hW hA.lt;have hA1:=hA1.below hW hA1.lt;have hA2:=hA2.below hW hA2.lt;have c0:=hA.cell (i:=0) rfl;have c1:=hA1.cell (i:=0) rfl;have c2:=hA2.cell (i:=0) rfl;have hget:=sT s (a:Int) k W hs hk2 (by omega) (by omega);have m0:max (a:Int) 0=(a:Int):=by omega
 have m1:aI.wrap (8*(s.size:Int))=8*(s.size:Int):=by rw[aM];omega
 have m2:aI.wrap (8*(s.size:Int)-(k:Int))=8*(s.size:Int)-(k:Int):=by rw[aM];omega
 have m3:(if(a:Int)<0 then(0:Int) else(a:Int))=(a:Int):=by rw[if_neg (by omega)]
 have m4:(if(0:Int)<(a:Int) then(a:Int) else 0)=(a:Int):=by split<;>omega
 have m5:(if(a:Int)<=0 then(0:Int) else(a:Int))=(a:Int):=by split<;>omega
 have u1:decide ((k:Int)<1)=false:=decide_eq_false (by omega);have u2:decide ((k:Int)>64)=false:=decide_eq_false (by omega);have u3:decide (64<(k:Int))=false:=decide_eq_false (by omega);obtain⟨V,hV⟩:∃V,V=aE s.data.toList (a:Int) k:=⟨_,rfl⟩;obtain⟨E,hE⟩:∃E,E=aO s.size (a:Int) k:=⟨_,rfl⟩;rw[<-hV] at hY;simp only at hY;rw[<-hV,<-hE] at hget;refine callsIn_of_wp Tryz.func84 rfl trivial ?_ rfl
 simp only[Tryz.ntmps84,mY,cR,cX,lZ,mZ,lL,lM,lN,lO,iG,gE];clear hW hV hE hA hA1 hA2
 by_cases hok:a+k<=8*s.size
 ·have u4:decide ((a:Int)>8*(s.size:Int)-(k:Int))=false:=decide_eq_false (by omega);have u5:decide (8*(s.size:Int)-(k:Int)<(a:Int))=false:=decide_eq_false (by omega);have HY:=hid (hY hok W h0 (aA _));clear hY
  gi_wp2_with fail
  refine⟨trivial,fun _=>by omega,(callsIn_wide.2 hget).mono ?_⟩;rintro e w' ⟨rfl,rfl⟩
  gi_wp2_with fail
  gi_loopg [6,8,9,10] 0 (fun _g s6 s8 _s9 _s10 wr=>s6=.int .u64 (V:Int)/\s8=.int .i64 (a:Int)/\wr=w')
  case atStart=>exact⟨rfl,rfl,rfl⟩
  case round=>
   obtain⟨rfl,rfl,rfl⟩:=hrel;obtain⟨fn,tmps,assign,body,hy,hR⟩:=HY.out
   gi_wp2_with fail
   refine⟨fun _=>by omega,hR.mono ?_⟩;rintro e2 W3 ⟨rfl,hJ3⟩
   gi_wp2_with fail
   exact⟨rfl,_,qX rfl _ _ _,⟨_,rfl⟩,.inr ⟨hok,hJ3⟩⟩
 ·have u4:decide ((a:Int)>8*(s.size:Int)-(k:Int))=true:=decide_eq_true (by omega);have u5:decide (8*(s.size:Int)-(k:Int)<(a:Int))=true:=decide_eq_true (by omega);clear hY
  gi_wp2_with fail
  exact⟨rfl,_,qX rfl _ _ _,⟨_,rfl⟩,.inl ⟨hok,h0⟩⟩
theorem aBl (w:World) (t1 t2 t3:TypeId) (v1 v2 v3:Value):∀W,W=((w.alloc (.cells #[v1] t1)).alloc (.cells #[v2] t2)).alloc (.cells #[v3] t3)->
  (Arr W w.heap.size t1 [v1]/\Arr W (w.heap.size+1) t2 [v2]/\Arr W (w.heap.size+1+1) t3 [v3])/\Below w.heap.size w W/\W.heap.size=w.heap.size+1+1+1:=by
 rintro W rfl;have a1:=Arr.new w t1 [v1];have a2:=Arr.new (w.alloc (.cells #[v1] t1)) t2 [v2];have a3:=Arr.new ((w.alloc (.cells #[v1] t1)).alloc (.cells #[v2] t2)) t3 [v3];have e:∀(W:World) (o:Obj),(W.alloc o).heap.size=W.heap.size+1:=fun W o=>by simp
 rw[e] at a2;rw[e,e] at a3;refine⟨⟨(a1.alloc _).alloc _,a2.alloc _,a3⟩,?_,by simp⟩;exact(((aB _ w).alloc (aA _) _).alloc (by simp) _).alloc (by simp;omega) _
theorem aSs (n:Nat) (hn:4<=n) (s:ByteArray) (a k M:Nat) (w:World) (hs:s.size<=1000000) (ha:a<=90000000) (hk1:1<=k) (hk2:k<=64) (hM:M<2^k):
  CallsIn eA n Tryz.prog 23 #[.string s,.int .i64 (a:Int),.int .u64 (M:Int),.int .i64 (k:Int)] w fun e w'=>e=.returned (.bool (decide (a+k<=8*s.size/\aE s.data.toList (a:Int) k=M)))/\Below w.heap.size w w':=by
 have h1:1<=n:=by omega
 have hand:=aSq M k hk2 hM;have hlow:=fun(W:World)=>(callsIn_wide (n:=n-1-1-1)).2 (aRc k W hk1 hk2)
 obtain⟨Lw,hLw⟩:∃Lw:Nat,Lw=2^k-1:=⟨_,rfl⟩;rw[<-hLw] at hand hlow;clear hLw hM;obtain⟨⟨g6,g7,g8⟩,hB0,hz0⟩:=aBl w 46 3 4 (.int .u64 (M:Int)) (.int .i64 (k:Int)) (.bool false) _ rfl;have c7:=g7.cell (i:=0) rfl;have u1:decide ((a:Int)<0)=false:=decide_eq_false (by omega);refine xX Tryz.func23 rfl trivial ?_ rfl;simp only[Tryz.ntmps23,mY,cR,cX,lZ,mZ,lL,lM,lN,lO,iG,gE]
 gi_wp2_with fail
 generalize ((w.alloc (.cells #[.int .u64 (M:Int)] 46)).alloc (.cells #[.int .i64 (k:Int)] 3)).alloc (.cells #[.bool false] 4)=w0 at*
 refine⟨trivial,(callsIn_wide.2 (aRe _ _ _ _)).mono ?_⟩;rintro e w' ⟨rfl,rfl⟩;obtain⟨⟨q0,q1,q2⟩,hB1,hz1⟩:=aBl w0 9 3 3 (.string s) (.int .i64 (a:Int)) (.int .i64 (k:Int)) _ rfl;have g6:=g6.below hB1 g6.lt;have g7:=g7.below hB1 g7.lt;have g8:=g8.below hB1 g8.lt;have hB1:=hB0.trans (hB1.mono (by omega));generalize ((w0.alloc (.cells #[.string s] 9)).alloc (.cells #[.int .i64 (a:Int)] 3)).alloc (.cells #[.int .i64 (k:Int)] 3)=w1 at*
 obtain⟨O,hO⟩:∃O,O=w.heap.size:=⟨_,rfl⟩;obtain⟨B,hB⟩:∃B,B=w0.heap.size:=⟨_,rfl⟩;rw[<-hB] at q0 q1 q2 hz1;rw[<-hB,<-hO];rw[<-hO] at g6 g7 g8 hB1;have hzw:O+1+1<w1.heap.size:=by omega
 have HO:=hid hO;clear hB hO c7 hz0 hB0 hz1
 gi_wp2_with fail
 refine aSp (w0:=w1) h1 (gf:=84) (lb:=#[.pointer (some ⟨B+1,0,none⟩),.pointer (some ⟨B+1+1,0,none⟩),.pointer (some ⟨B,0,none⟩)]) rfl (enters_of Tryz.func84 (by kernel_rfl) rfl)
  (aSr (n-1) (by omega) B s a k w1 hs ha hk1 hk2 q0 q1 q2) (aB _ _) (fun _=>rfl)
  (fun W=>(Arr W O 46 [.int .u64 (M:Int)]/\Arr W (O+1) 3 [.int .i64 (k:Int)]/\Arr W (O+1+1) 4 [.bool false])/\Below O w W)
  (fun W=>Arr W (O+1+1) 4 [.bool (decide (aE s.data.toList (a:Int) k=M))]/\Below O w W)
  (fun A B' h hb=>⟨⟨h.1.1.below hb (by omega),h.1.2.1.below hb (by omega),h.1.2.2.below hb (by omega)⟩,h.2.trans (hb.mono (by omega))⟩)
  (fun A B' h hb=>⟨h.1.below hb (by omega),h.2.trans (hb.mono (by omega))⟩)
  ⟨⟨g6,g7,g8⟩,hB1⟩
  {tmps:=#[.string s,.int .i64 (a:Int),.int .u64 (M:Int),.int .i64 (k:Int),undef,undef,.pointer (some ⟨O,0,none⟩),.pointer (some ⟨O+1,0,none⟩),.pointer (some ⟨O+1+1,0,none⟩),undef,.int .u64 (aE s.data.toList (a:Int) k:Int),.int .i64 (a:Int),.bool false,.string s,.int .i64 (a:Int),.int .i64 (k:Int),.func (.func 84) #[] #[.pointer (some ⟨B+1,0,none⟩),.pointer (some ⟨B+1+1,0,none⟩),.pointer (some ⟨B,0,none⟩)],.int .i64 (a:Int),.int .u64 (aE s.data.toList (a:Int) k:Int),undef,undef,undef,undef,undef,undef],defers:=[]} ?assign ?body ?done ?stop
 case assign=>
  intro l W K hK
  gi_wp2
  exact hK
 case body=>
  rintro hok l W ⟨⟨k6,k7,k8⟩,hbel⟩ hWs;obtain⟨V,hV⟩:∃V,V=aE s.data.toList (a:Int) k:=⟨_,rfl⟩;rw[<-hV];clear hV g6 g7 g8 q0 q1 q2;have c6:=k6.cell (i:=0) rfl;have c7:=k7.cell (i:=0) rfl;have c8:=k8.cell (i:=0) rfl;have f8:=k8.free 0;have heq:((V:Int)==(M:Int))=decide (V=M):=by
   by_cases h:V=M
   ·subst h;simp
   ·rw[decide_eq_false h,beq_eq_false_iff_ne];omega
  have heq2:(V==M)=decide (V=M):=by
   by_cases h:V=M
   ·subst h;simp
   ·rw[decide_eq_false h,beq_eq_false_iff_ne];exact h
  obtain⟨D,hD⟩:∃D,D=decide (V=M):=⟨_,rfl⟩;rw[<-hD] at heq heq2 ⊢;clear hD
  gi_wp2_with fail
  gi_region_with (refine⟨trivial,fun _=>by omega,((hlow _).inRound l).mono ?_⟩;rintro e w2 ⟨rfl,rfl⟩)
  all_goals
   gi_wp2_with fail
   exact⟨((iH W _ _).trans (aC3 _)).from _,k8.set 0 _,(hbel.setCell (p:=⟨O+1+1,0,none⟩) (by show O<=O+1+1;omega) _).drew⟩
 case done=>
  rintro D W hok hD ⟨⟨k6,k7,k8⟩,hbel⟩ hK;have c8:=k8.cell (i:=0) rfl;have f8:=k8.free 0
  gi_wp2_with fail
  have hK2:=(iH W ⟨O+1+1,0,none⟩ (.bool false)).same D _ hK rfl;refine⟨by simp,.inl ⟨_,_,rfl,sJ hK2,?_⟩⟩;have hc:=((k8.set 0 (.bool false)).grown (mC _ D (.deferred none)) (by simp;omega)).cell (i:=0) rfl;refine⟨.bool false,?_,by rw[decide_eq_false (fun h=>hok h.1)],?_⟩
  ·simp[results,Tryz.f23,go_sem,hc]
  ·rw[<-HO.out];exact(hbel.setCell (p:=⟨O+1+1,0,none⟩) (by show O<=O+1+1;omega) _).trans (pJ (w:=w1) (by omega) _ D _ _ hD hK2 rfl rfl)
 case stop=>
  rintro D W hok hD ⟨k8,hbel⟩ hK;have c8:=k8.cell (i:=0) rfl
  gi_wp2_with fail
  refine⟨by simp,.inl ⟨_,_,rfl,sJ hK,?_⟩⟩;have hc:=(k8.grown (mC _ D (.deferred none)) (by simp;omega)).cell (i:=0) rfl;refine⟨.bool (decide (aE s.data.toList (a:Int) k=M)),?_,?_,?_⟩
  ·simp[results,Tryz.f23,go_sem,hc]
  ·simp[hok]
  ·rw[<-HO.out];exact hbel.trans (pJ (w:=w1) (by omega) _ D _ _ hD hK rfl rfl)
theorem aSt (s:ByteArray) (a k M:Nat) (w:World) (hs:s.size<=1000000) (ha:a<=90000000) (hk1:1<=k) (hk2:k<=64) (hM:M<2^k):
  Calls Tryz.prog 23 #[.string s,.int .i64 (a:Int),.int .u64 (M:Int),.int .i64 (k:Int)] w fun e w'=>e=.returned (.bool (decide (a+k<=8*s.size/\aE s.data.toList (a:Int) k=M)))/\Below w.heap.size w w':=
 callsIn_wide.1 (aSs 4 (aA _) s a k M w hs ha hk1 hk2 hM)
end
end Go.Proofs.YtpgmbhpbgkljdaaGreatDoor
