/-
  Texts put together (part 19): the walks and the plain laws on which the statement stands.
-/
import Derived.Test.YtmcogmmncfihhaaGreatDoorZ18
set_option maxRecDepth 100000
set_option maxHeartbeats 12800000
set_option linter.unusedVariables false
set_option linter.unusedSimpArgs false
open Array renaming getElem?_eq_some_iff->gQ,replicate_succ->lL,replicate_zero->lM
open Bool renaming noConfusion->tQ
open Go renaming grownBy_putObj'->mC,run_takeDeferred->sJ
open Go.Fence renaming wide->eA
open Go.RowKit renaming ownsRow_setCell_below->aCj
open Go.RowKit.Below renaming refl->aB
open Go.World.ownsRow renaming kept->NH
open List renaming append_toArray->lO,cons_append->gE,length_append->aL,length_cons->cR,length_map->bJ,length_nil->cX,mem_append->cU,mem_cons->kD,mem_map->dU,nil_append->iG,not_mem_nil->ED,push_toArray->lN,size_toArray->mY
open Nat renaming add_assoc->dZ,le_refl->aA,le_trans->aW,reduceAdd->lZ,reduceSub->mZ
open Option.some renaming inj->bW
namespace Go.Proofs.YtmcogmmncfihhaaGreatDoor
section
open Go.RowKit Go Go.Shelf
attribute [local go_sem] Oper.semAt_some
def aUo (p:Prt):List Value:=[.string p.t,.int .u32 p.y,.int .i64 p.a,.int .i64 p.z]
def XS (p:Prt):List Value:=[.string p.t,.int .u32 p.y,.int .i64 p.a,.int .i64 p.z,.int .i64 p.r]
theorem aU7 (l:List Prt):aUq 5 (l.map XS):=fun q hq=>by
 obtain⟨p,_,rfl⟩:=dU.1 hq;exact⟨rfl,fun u hu=>by unfold XS at hu;simp only[kD,ED,or_false] at hu;rcases hu with rfl|rfl|rfl|rfl|rfl<;>rfl⟩
theorem aV8 (l:List Prt):aUq 4 (l.map aUo):=fun q hq=>by
 obtain⟨p,_,rfl⟩:=dU.1 hq;exact⟨rfl,fun u hu=>by unfold aUo at hu;simp only[kD,ED,or_false] at hu;rcases hu with rfl|rfl|rfl|rfl<;>rfl⟩
theorem aXp:ElR Tryz.prog 89 93 5 48 (.agg #[.string ⟨#[]⟩,.int .u32 0,.int .i64 0,.int .i64 0,.int .i64 0]):=ElR.mk' (by kernel_rfl) Tryz.underlying89 rfl (by decide) (by decide)
theorem aXq:ElR Tryz.prog 54 61 4 40 (.agg #[.string ⟨#[]⟩,.int .u32 0,.int .i64 0,.int .i64 0]):=ElR.mk' (by kernel_rfl) Tryz.underlying54 rfl (by decide) (by decide)
def aUl (s:List UInt8):List Prt:=if(hH s).2=0 then(hH s).1 else[]
theorem aXr {F:Fence} {n:Nat} {P:Program} {t e k bytes:Nat} {z:Value} (E:ElR P t e k bytes z) {ops:Array Oper} {rest:List Oper} {o:Oper} {a:Act} {Q:Exit->Act->World->Prop} {w:World} (hgd:o.guard=none) (s x:Operand)
  (ho:o.op=.call {callee:=.builtin .append,args:=#[s,x],argTypes:=#[t,t]}) (base:Nat) (v:Value) (l:aUh) (hs:a.eval s=v) (hown:OwR w base e k v l)
  (g:Nat) (q:List Value) (hx:a.eval x=.slice (some ⟨g,0,none⟩) 1 1) (hc:Arr w g e q) (hq:q.length=k) (h1:∀u∈q,u.oneCell'=true) (hroom:(l.length+1)*bytes<=140737488355328) (hbase:base<=w.heap.size)
  (h:∀v' w',OwR w' base e k v' (l++[q])->Below base w w'->w.grownBy w' v.ownBlock->wpListIn F n P ops Q rest (a.put o.dst v') w'):wpListIn F n P ops Q (o::rest) a w:=by
 obtain⟨i,hi,hz,h2,h3⟩:=E.info;have hpos:=E.pos;have hn:l.length+1<=140737488355328:=aW (Nat.le_mul_of_pos_right _ hpos) hroom;refine wpListIn_append_own w hgd s x t ho base e i z k bytes E.under hi hz h2 h3 E.cells E.some' v l.length l.flatten hs hown ⟨g,0,none⟩ 1 1 q hx (by rw[hq,Nat.one_mul]) (fun j u hj=>?_) h1 (by simp only[maxLen];omega) hroom hbase (fun v' w' q1 q2 _=>h v' w' ?_ (rC hown q2 hbase) q2)
 ·rw[show(⟨g,0,none⟩:Addr).add j=⟨g,j,none⟩ by unfold Addr.add;split<;>simp_all];exact hc.cell hj
 ·unfold OwR;rw[List.flatten_append,aL,List.flatten_cons,List.flatten_nil,List.append_nil];exact q1
theorem aXs {w w':World} {B e size n:Nat} {v:Value} {xs:List Value} (ho:w.ownsRow B e size v n xs) (hg:w.grownBy w' v.ownBlock) (k:Nat) (o:Obj) (hk:w.heap[k]? =some o) (hc:o.isCells=false):w'.heap[k]? =some o:=by
 refine(hg.block k (gQ.1 hk).1 (fun q=>?_)).trans hk;rcases ho.2 with⟨rfl,_⟩|⟨g,cap,cur,rfl,_,hgc,_⟩
 ·cases q
 ·obtain rfl:=bW q;rw[hk] at hgc
  injection hgc with hgc
  rw[hgc] at hc;exact tQ hc
theorem aVd {w:World} {z e i:Nat} {l:List Value} (ha:Arr w z e l) (v:Value) (k:Nat) (o:Obj) (hk:w.heap[k]? =some o) (hc:o.isCells=false):(w.setCell ⟨z,i,none⟩ v).heap[k]? =some o:=by
 rw[heap_setCell_other w ⟨z,i,none⟩ k v (fun q=>?_)]
 ·exact hk
 ·have q:k=z:=q;have h2:w.heap[z]? =some (.cells l.toArray e (0,0)):=ha;rw[q,h2] at hk
  injection hk with hk
  rw[<-hk] at hc;exact tQ hc
theorem aV9 {B:Nat} {W W':World} (hs:W.heap.size<=W'.heap.size) (h:∀(k:Nat) (o:Obj),W.heap[k]? =some o->o.isCells=false->W'.heap[k]? =some o):KeepsFrom B W W':=⟨hs,fun k o _ ho hc=>h k o ho hc⟩
theorem aXt {w:World} {B e size n D:Nat} {v:Value} {xs:List Value} {o:Obj} (ho:w.ownsRow B e size v n xs) (hD:w.heap[D]? =some o) (hc:o.isCells=false:=by rfl):v.ownBlock=none\/v.ownBlock≠some D:=by
 rcases ho.2 with⟨rfl,_⟩|⟨g,cap,cur,rfl,_,hgc,_⟩
 ·exact .inl rfl
 ·refine .inr fun q=>?_
  obtain rfl:=bW q;rw[hD] at hgc
  injection hgc with hgc
  rw[hgc] at hc;exact tQ hc
theorem aXu (n:Nat) (all:ByteArray) (w:World):
  CallsIn eA n Tryz.prog 63 #[.string all] w fun e w'=>e=.returned (.func (.func 79) #[] #[.pointer (some ⟨w.heap.size,0,none⟩)])/\w'=w.alloc (.cells #[.string all] 9):=by
 refine callsIn_of_wp Tryz.func63 rfl trivial ?_ rfl;simp only[Tryz.ntmps63,mY,cR,cX,lZ,mZ,lL,lM,lN,lO,iG,gE]
 gi_wp2
 go_ret;exact⟨rfl,rfl⟩
theorem aXv (n:Nat) (hn:6<=n) (s:ByteArray) (w:World) (hE:iF w) (hs:s.size<=120000):
  CallsIn eA n Tryz.prog 44 #[.string s] w fun e w'=>∃v,e=.returned (.tuple #[v,.int .i64 (hH s.data.toList).2])/\RdR w' v ((aUl s.data.toList).map XS)/\Below w.heap.size w w':=by
 have h1:1<=n:=by omega
 refine callsIn_of_wp_marks Tryz.func44 rfl trivial ?_ rfl;simp only[Tryz.ntmps44,mY,cR,cX,lZ,mZ,lL,lM,lN,lO,iG,gE]
 gi_wp2_with fail
 refine⟨trivial,(aXu (n-1) s _).mono ?_⟩;rintro e w' ⟨rfl,rfl⟩
 gi_wp2_with fail
 have hA2:=(((Arr.new w 89 [.slice none 0 0]).alloc (.cells #[.int .i64 0] 27)).alloc (.cells #[.string s] 9));have hA3:=((Arr.new (w.alloc (.cells #[.slice none 0 0] 89)) 27 [.int .i64 0]).alloc (.cells #[.string s] 9));have hA4:=Arr.new ((w.alloc (.cells #[.slice none 0 0] 89)).alloc (.cells #[.int .i64 0] 27)) 9 [.string s];have hb1:Below w.heap.size w (((w.alloc (.cells #[.slice none 0 0] 89)).alloc (.cells #[.int .i64 0] 27)).alloc (.cells #[.string s] 9)):=(((aB _ w).alloc (aA _) _).alloc (by simp) _).alloc (by simp;omega) _
 have hs1:(((w.alloc (.cells #[.slice none 0 0] 89)).alloc (.cells #[.int .i64 0] 27)).alloc (.cells #[.string s] 9)).heap.size=w.heap.size+1+1+1:=by simp
 simp only[World.size_alloc] at hA3 hA4;change Arr (((w.alloc (.cells #[.slice none 0 0] 89)).alloc (.cells #[.int .i64 0] 27)).alloc (.cells #[.string s] 9)) _ _ _ at hA2;change Arr (((w.alloc (.cells #[.slice none 0 0] 89)).alloc (.cells #[.int .i64 0] 27)).alloc (.cells #[.string s] 9)) _ _ _ at hA3;change Arr (((w.alloc (.cells #[.slice none 0 0] 89)).alloc (.cells #[.int .i64 0] 27)).alloc (.cells #[.string s] 9)) _ _ _ at hA4;generalize ((w.alloc (.cells #[.slice none 0 0] 89)).alloc (.cells #[.int .i64 0] 27)).alloc (.cells #[.string s] 9)=w1 at*
 obtain⟨z,hz⟩:∃z,z=w.heap.size:=⟨_,rfl⟩;rw[<-hz] at hA2 hA3 hA4 hb1 hs1 ⊢;have HZ:=hid hz;clear hz;obtain⟨E,hEE⟩:∃E,E=(hH s.data.toList).2:=⟨_,rfl⟩;obtain⟨T,hT⟩:∃T,T=XM s.data.toList:=⟨_,rfl⟩;have hbad:∀(pre r:List aUk) (x:aUk),T=pre++x::r->x.2≠0->x.2=E/\E≠0:=fun pre r x h hx=>by
  have:=aWz (by rw[<-hT];exact h) hx;rw[this.1];exact⟨hEE.symm,by rw[hEE];exact this.2⟩
 have hcnt:T.length<=8*s.size+2:=aV7 s hT;have HEE:=hid hEE;have HT:=hid hT;have hseq:=aXm (n-1) (by omega) (z+1+1) s w1 hA4 hs;rw[<-hT] at hseq;clear hEE hT;have hzw:z+1+1+1<=w1.heap.size:=by omega
 refine aXd (w0:=w1) (Ri:=mS aU5 none) (Kp:=mS aUy none) (Ok:=iF) (Pre:=fun pre x=>∃r,T=pre++x::r) (encs:=aVc) h1 (gf:=79) (lb:=#[.pointer (some ⟨z+1+1,0,none⟩)]) rfl (enters_of Tryz.func79 (by kernel_rfl) rfl)
  hseq (aB _ _) (fun _=>rfl) (fun h k=>h.trans k) (fun _ _ h=>.of_kept h) (fun _ _ h=>.of_kept h)
  (fun pre W=>(∀x∈pre,x.2=0)/\(∃v,Arr W z 89 [v]/\OwR W (z+1+1+1) 93 5 v (pre.map (fun x=>XS x.1)))/\Arr W (z+1) 27 [.int .i64 0]/\Below z w W/\z+1+1+1<=W.heap.size)
  (fun c _ W=>c=.ret/\Arr W z 89 [.slice none 0 0]/\Arr W (z+1) 27 [.int .i64 E]/\E≠0/\Below z w W/\z+1+1+1<=W.heap.size)
  (fun pre A B ⟨k1,⟨v,k2,k3⟩,k4,k5,k6⟩ hAB hk=>⟨k1,⟨v,k2.below hAB (by omega),mS.own hk k3 (by unfold aU5;decide)⟩,k4.below hAB (by omega),k5.trans (hAB.mono (by omega)),aW k6 hAB.size⟩)
  (fun c pre A B ⟨k1,k2,k3,k4,k5,k6⟩ hAB hk=>⟨k1,k2.below hAB (by omega),k3.below hAB (by omega),k4,k5.trans (hAB.mono (by omega)),aW k6 hAB.size⟩)
  ⟨fun x hx=>by simp at hx,⟨_,hA2,OwR.nil _ _ _ _⟩,hA3,hb1,hzw⟩ (fun pre A k=>hE.below (by rw[<-HZ.out];exact k.2.2.2.1))
  (fun x a' W=>∃zb,z+1+1+1<=zb/\Arr W zb 93 (XS x.1)/\a'={tmps:=#[.string s,undef,.pointer (some ⟨z,0,none⟩),.pointer (some ⟨z+1,0,none⟩),.pointer (some ⟨zb,0,none⟩),.int .i64 x.2,.string s,.func (.func 79) #[] #[.pointer (some ⟨z+1+1,0,none⟩)],.agg #[.string x.1.t,.int .u32 x.1.y,.int .i64 x.1.a,.int .i64 x.1.z,.int .i64 x.1.r],.int .i64 x.2,undef,undef,undef,undef,undef,undef,undef,undef],defers:=[]})
  (fun x a' A A' ⟨zb,k1,k2,k3⟩ hk=>⟨zb,k1,hk.arr k2 (by simp),k3⟩) ?assign ?body ?done ?stop
 case assign=>
  rintro l0 pre ⟨p,E0⟩ W K hI hB hpre hK;unfold aVc;have hzW:=hI.2.2.2.2
  gi_wp2
  exact hK _ _ (bD (aB _ _) _) ⟨W.heap.size,hzW,Arr.new W _ [_,_,_,_,_],rfl⟩
 case body=>
  rintro l0 pre ⟨p,E0⟩ a' W ⟨k1,⟨v,k2,k3⟩,k4,k5,k6⟩ hB ⟨r,hr⟩ ⟨zb,hzb,hS,rfl⟩;dsimp only at hS hr ⊢;have hzW:=k2.lt
  by_cases hE0:E0=0
  rotate_left
  ·have t1:(E0 != 0)=true:=by rw[bne_iff_ne];exact hE0
   obtain⟨rfl,hEn⟩:=hbad pre r (p,E0) hr hE0;have c0:=k2.cell (i:=0) rfl;have f0:=k2.free 0;have k4':=k4.other ⟨z,0,none⟩ (by show z≠z+1;omega) (.slice none 0 0);have c1:=k4'.cell (i:=0) rfl;have f1:=k4'.free 0;clear hbad hE0
   gi_wp2_with fail
   refine⟨aV9 (by simp) (fun k o ho hc=>?_),rfl,(k2.set 0 _).other _ (by show z+1≠z;omega) _,k4'.set 0 _,(k5.setCell (p:=⟨z,0,none⟩) (aA _) _).setCell (p:=⟨z+1,0,none⟩) (by show z<=z+1;omega) _,by simpa using k6⟩;exact aVd k4' _ k o (aVd k2 _ k o ho hc) hc
  subst hE0;have hlen:pre.length+1<=960100:=by
   have h:=congrArg List.length hr;rw[aL,cR] at h;omega
  obtain⟨va,vc,hv,-⟩:=(OwR.rd k3).open (by intro q hq;obtain⟨x,-,rfl⟩:=dU.1 hq;exact aU7 [x.1] _ (by simp)) (by decide:1<=5);obtain⟨vn,hvn⟩:∃vn,vn=(pre.map (fun x:aUk=>XS x.1)).length:=⟨_,rfl⟩;rw[<-hvn] at hv;subst hv;have c0:=k2.cell (i:=0) rfl;have q0:=hS.cell (i:=0) rfl;have q1:=hS.cell (i:=1) rfl;have q2:=hS.cell (i:=2) rfl;have q3:=hS.cell (i:=3) rfl;have q4:=hS.cell (i:=4) rfl;clear hvn hbad hr
  gi_wp2_with (gi_at_builtin;refine aXr aXp rfl _ _ rfl (z+1+1+1) _ _ rfl (OwR.alloc k3 _) _ (XS p) rfl (Arr.new W 93 (XS p)) rfl (fun u hu=>(aU7 [p] _ (by simp)).2 u hu) ?_ ?_ ?_;(simp only[bJ];omega);(simp;omega);intro v3 W3 p1 p2 p3;(obtain⟨a3,c3,hv3,-⟩:=(OwR.rd p1).open (by intro q hq;rcases cU.1 hq with hq|hq;(obtain⟨x,-,rfl⟩:=dU.1 hq;exact aU7 [x.1] _ (by simp));(exact aU7 [p] _ (by simpa using hq))) (by decide:1<=5));(obtain⟨n3,hn3⟩:∃n3,n3=(pre.map (fun x:aUk=>XS x.1)++[XS p]).length:=⟨_,rfl⟩);rw[<-hn3] at hv3;subst hv3;(have HN3:=hid hn3);clear hn3;(have k23:=Arr.below (Arr.alloc k2 (.cells (XS p).toArray 93)) p2 (by omega));(have k43:=Arr.below (Arr.alloc k4 (.cells (XS p).toArray 93)) p2 (by omega));(have g0:=k23.cell (i:=0) rfl);(have e0:=k23.free 0))
  change (W.alloc (.cells (XS p).toArray 93)).grownBy W3 (Value.slice va vn vc).ownBlock at p3;change Below (z+1+1+1) (W.alloc (.cells (XS p).toArray 93)) W3 at p2;have hsA:(W.alloc (.cells (XS p).toArray 93)).heap.size=W.heap.size+1:=by simp
  have hs3:=p2.size;refine⟨aV9 (by simp;omega) (fun k o ho hc=>aVd k23 _ k o (aXs (OwR.alloc k3 (.cells (XS p).toArray 93)) p3 k o ((Below.heap_alloc W _ k (gQ.1 ho).1).trans ho) hc) hc),
   (mS.of_below (bD (aB _ _) (.cells (XS p).toArray 93))).trans ((mS.app (OwR.alloc k3 _) p3 (by unfold aUy;decide)).trans (mS.box k23 (by unfold aUy;decide) _)),?_⟩
  refine⟨fun x hx=>?_,⟨_,k23.set 0 _,?_⟩,k43.other _ (by show z≠z+1;omega) _,(k5.trans ((((aB _ W).alloc (aA _) _).mono (by omega)).trans (p2.mono (by omega)))).setCell (p:=⟨z,0,none⟩) (aA _) _,by simp;omega⟩
  ·rcases cU.1 hx with hx|hx
   ·exact k1 x hx
   ·obtain rfl:=List.mem_singleton.1 hx;rfl
  ·rw[List.map_append];exact aCj p1 (a:=⟨z,0,none⟩) (by show z<z+1+1+1;omega) _
 case done=>
  rintro D xs W hD hfin ⟨k1,⟨v,k2,k3⟩,k4,k5,k6⟩ hK;obtain⟨va,vc,hv,-⟩:=(OwR.rd k3).open (by intro q hq;obtain⟨x,-,rfl⟩:=dU.1 hq;exact aU7 [x.1] _ (by simp)) (by decide:1<=5);obtain⟨vn,hvn⟩:∃vn,vn=(xs.map (fun x:aUk=>XS x.1)).length:=⟨_,rfl⟩;rw[<-hvn] at hv;subst hv;have hok:=aW0 (s:=s.data.toList) (fun x hx=>k1 x (by rw[hfin,HT.out];exact hx));have HOK:=hid (show E=0/\xs.map (fun x:aUk=>XS x.1)=(aUl s.data.toList).map XS by
   refine⟨by rw[HEE.out];exact hok.1,?_⟩;rw[hfin,HT.out,hok.2];unfold aUl okP;rw[if_pos hok.1,List.map_map];rfl)
  have c0:=k2.cell (i:=0) rfl;have f0:=k2.free 0;have k2':=k2.set 0 (.slice va vn vc);have k4':=k4.other ⟨z,0,none⟩ (by show z≠z+1;omega) (.slice va vn vc);have c1:=k4'.cell (i:=0) rfl;have f1:=k4'.free 0;have hK':((W.setCell ⟨z,0,none⟩ (.slice va vn vc)).setCell ⟨z+1,0,none⟩ (.int .i64 0)).heap[D]? =some (.deferred (some [])):=aVd k4' _ D _ (aVd k2 _ D _ hK rfl) rfl;clear hvn hok hbad hfin
  gi_wp2_with fail
  refine⟨by simp,.inl ⟨_,_,rfl,sJ hK',?_⟩⟩;have g2:Arr ((W.setCell ⟨z,0,none⟩ (.slice va vn vc)).setCell ⟨z+1,0,none⟩ (.int .i64 0)) z 89 [.slice va vn vc]:=k2'.other ⟨z+1,0,none⟩ (by show z+1≠z;omega) _;have g4:Arr ((W.setCell ⟨z,0,none⟩ (.slice va vn vc)).setCell ⟨z+1,0,none⟩ (.int .i64 0)) (z+1) 27 [.int .i64 0]:=k4'.set 0 _;have q2:=(g2.grown (mC _ D (.deferred none)) (by simp;omega)).cell (i:=0) rfl;have q3:=(g4.grown (mC _ D (.deferred none)) (by simp;omega)).cell (i:=0) rfl
  have hro:=aCj (aCj k3 (a:=⟨z,0,none⟩) (by show z<z+1+1+1;omega) (.slice va vn vc)) (a:=⟨z+1,0,none⟩) (by show z+1<z+1+1+1;omega) (.int .i64 0);have hbl:Below z w ((W.setCell ⟨z,0,none⟩ (.slice va vn vc)).setCell ⟨z+1,0,none⟩ (.int .i64 0)):=(k5.setCell (p:=⟨z,0,none⟩) (aA _) _).setCell (p:=⟨z+1,0,none⟩) (by show z<=z+1;omega) _;refine⟨.tuple #[.slice va vn vc,.int .i64 0],?_,.slice va vn vc,by rw[<-HEE.out,HOK.out.1],?_,?_⟩
  ·simp[results,Tryz.f44,go_sem,q2,q3]
  ·rw[<-HOK.out.2];exact OwR.rd (NH hro (mC _ D (.deferred none)) (aXt hro hK'))
  ·rw[<-HZ.out];exact hbl.trans (belowK_b (w:=w1) (by omega) _ D _ _ hD hK' rfl rfl)
 case stop=>
  rintro D c pre W hD ⟨rfl,k2,k3,k4,k5,k6⟩ hK
  gi_wp2_with fail
  refine⟨by simp,.inl ⟨_,_,rfl,sJ hK,?_⟩⟩;have q2:=(k2.grown (mC _ D (.deferred none)) (by simp;omega)).cell (i:=0) rfl;have q3:=(k3.grown (mC _ D (.deferred none)) (by simp;omega)).cell (i:=0) rfl;refine⟨.tuple #[.slice none 0 0,.int .i64 E],?_,.slice none 0 0,by rw[<-HEE.out],?_,?_⟩
  ·simp[results,Tryz.f44,go_sem,q2,q3]
  ·have:aUl s.data.toList=[]:=by unfold aUl;rw[if_neg (by rw[<-HEE.out];exact k4)]
   rw[this];exact(OwR.nil _ 0 93 5).rd
  ·rw[<-HZ.out];exact k5.trans (belowK_b (w:=w1) (by omega) _ D _ _ hD hK rfl rfl)
theorem aWa (s:ByteArray) (w:World) (hE:iF w) (hs:s.size<=120000):
  Calls Tryz.prog 44 #[.string s] w fun e w'=>∃v,e=.returned (.tuple #[v,.int .i64 (hH s.data.toList).2])/\RdR w' v ((aUl s.data.toList).map XS)/\Below w.heap.size w w':=
 callsIn_wide.1 (aXv 6 (aA _) s w hE hs)
end
section
open Go.RowKit Go Go.Shelf
theorem aX0 {w:World} {v:Value} {l:List Prt} (h:RdR w v (l.map aUo)):∃a cap,v=.slice a l.length cap/\l.length<=cap/\cap<=maxLen/\
  (0<l.length->∃b off,a=some ⟨b,off,none⟩/\b<w.heap.size/\∀j p,l[j]? =some p->w.cell? ⟨b,off+j*4,none⟩=some (.string p.t)/\w.cell? ⟨b,off+j*4+1,none⟩=some (.int .u32 p.y)/\w.cell? ⟨b,off+j*4+2,none⟩=some (.int .i64 p.a)/\w.cell? ⟨b,off+j*4+3,none⟩=some (.int .i64 p.z)):=by
 obtain⟨a,cap,hv,h1,h2,h3⟩:=h.open (aV8 l) (by decide);rw[bJ] at hv h1 h3;refine⟨a,cap,hv,h1,h2,fun hl=>?_⟩;obtain⟨b,off,ha,hb,hc⟩:=h3 hl;refine⟨b,off,ha,hb,fun j p hj=>?_⟩;have e:(l.map aUo)[j]? =some (aUo p):=by rw[List.getElem?_map,hj];rfl
 have c:=fun i u hi=>hc j (aUo p) i u e hi
 refine⟨c 0 _ rfl,?_,?_,?_⟩
 ·rw[dZ];exact c 1 _ rfl
 ·rw[dZ];exact c 2 _ rfl
 ·rw[dZ];exact c 3 _ rfl
end
end Go.Proofs.YtmcogmmncfihhaaGreatDoor
