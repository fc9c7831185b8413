/-
  Texts put together (part 32): the walks and the plain laws on which the statement stands.
-/
import Derived.ProofKit
import Derived.OpenShut
import Derived.ShutString
import Derived.ChangeOld
import Derived.ChangeVars
import Derived.JoinedOf
import Derived.LaidLaws
import Derived.LaidHandle
import Derived.Stop.Joined
import Derived.Deep.Slices
import Derived.Lib.SmallJoins
import Derived.SizedLaws
import Derived.Test.YtfplbbphficcjaaGreatDoorZ30
set_option maxRecDepth 100000
set_option maxHeartbeats 12800000
set_option linter.unusedVariables false
set_option linter.unusedSimpArgs false
open Go.Proofs.Tryz
open Go.Proofs.Tryz renaming prog->pG
open Array renaming getElem?_eq_some_iff->fE,replicate_succ->jG,replicate_zero->jH
open Bool renaming noConfusion->vM
open Go renaming grownBy_putObj'->kV,run_takeDeferred->sE
open Go.Addr renaming add->gP
open Go.DataW renaming trod->bHw,trod_int->bH2
open Go.Fence renaming wide->cZ
open Go.RowKit renaming ownsRow_setCell_below->vL
open Go.RowKit.Below renaming refl->aH
open Go.World.ownsRow renaming kept->yJ
open List renaming append_toArray->jJ,cons_append->fF,length_cons->aU,length_map->aS,length_nil->aV,mem_append->dK,mem_cons->jQ,mem_map->eK,mem_singleton->cP,nil_append->eL,not_mem_nil->YB,push_toArray->jI,range->eT,singleton_inj->bH3,size_toArray->dB
open Nat renaming le_refl->aD,le_trans->aR,reduceAdd->cV,reduceSub->dC
open Option.some renaming inj->cC
namespace Go.Proofs.YtfplbbphficcjaaGreatDoor
section
open Go.RowKit Go Go.Shelf
attribute [local go_sem] Oper.semAt_some
def oK (p:Prt):List Value:=[.string p.t,.int .u32 p.y,.int .i64 p.a,.int .i64 p.z]
def kD (p:Prt):List Value:=[.string p.t,.int .u32 p.y,.int .i64 p.a,.int .i64 p.z,.int .i64 p.r]
theorem CU (l:List Prt):oW 5 (l.map kD):=fun q e=>by
 obtain⟨p,_,rfl⟩:=eK.1 e;exact⟨rfl,fun u d=>by unfold kD at d;simp only[jQ,YB,or_false] at d;rcases d with rfl|rfl|rfl|rfl|rfl<;>rfl⟩
theorem aI5 (l:List Prt):oW 4 (l.map oK):=fun q e=>by
 obtain⟨p,_,rfl⟩:=eK.1 e;exact⟨rfl,fun u d=>by unfold oK at d;simp only[jQ,YB,or_false] at d;rcases d with rfl|rfl|rfl|rfl<;>rfl⟩
theorem bC1:ElR pG 127 131 5 48 (.agg #[.string ⟨#[]⟩,.int .u32 0,.int .i64 0,.int .i64 0,.int .i64 0]):=ElR.mk' (by kernel_rfl) underlying127 rfl (by decide) (by decide)
theorem bC2:ElR pG 52 59 4 40 (.agg #[.string ⟨#[]⟩,.int .u32 0,.int .i64 0,.int .i64 0]):=ElR.mk' (by kernel_rfl) underlying52 rfl (by decide) (by decide)
def eY (s:List UInt8):List Prt:=if(cI s).2=0 then(cI s).1 else[]
theorem UY {F:Fence} {n:Nat} {P:Program} {t e k A:Nat} {z:Value} (E:ElR P t e k A z) {D:Array Oper} {rest:List Oper} {o:Oper} {a:Act} {Q:Exit->Act->World->Prop} {w:World} (H:o.guard=none) (s x:Operand)
  (I:o.op=.call {callee:=.builtin .append,args:=#[s,x],argTypes:=#[t,t]}) (base:Nat) (v:Value) (l:lC) (hs:a.eval s=v) (hown:OwR w base e k v l)
  (g:Nat) (q:List Value) (hx:a.eval x=.slice (some ⟨g,0,none⟩) 1 1) (hc:Arr w g e q) (hq:q.length=k) (h1:∀u∈q,u.oneCell'=true) (hroom:(l.length+1)*A<=140737488355328) (hbase:base<=w.heap.size)
  (h:∀d w',OwR w' base e k d (l++[q])->Below base w w'->w.grownBy w' v.ownBlock->wpListIn F n P D Q rest (a.put o.dst d) w'):wpListIn F n P D Q (o::rest) a w:=by
 obtain⟨i,J,L,M,O⟩:=E.info;have T:=E.pos;have V:l.length+1<=140737488355328:=aR (Nat.le_mul_of_pos_right _ T) hroom;refine wpListIn_append_own w H s x t I base e i z k A E.under J L M O E.cells E.some' v l.length l.flatten hs hown ⟨g,0,none⟩ 1 1 q hx (by grind) (fun j u U=>?_) h1 (by simp only[maxLen];omega) hroom hbase (fun d w' Y G _=>h d w' ?_ (rJ hown G hbase) G)
 ·rw[show(⟨g,0,none⟩:Addr).add j=⟨g,j,none⟩ by unfold gP;split<;>simp_all];exact hc.cell U
 ·unfold OwR
  grind
theorem UZ {w w':World} {B e size n:Nat} {v:Value} {D:List Value} (F:w.ownsRow B e size v n D) (G:w.grownBy w' v.ownBlock) (k:Nat) (o:Obj) (h:w.heap[k]? =some o) (A:o.isCells=false):w'.heap[k]? =some o:=by
 refine(G.block k (fE.1 h).1 (fun q=>?_)).trans h;rcases F.2 with⟨rfl,_⟩|⟨g,cap,H,rfl,_,d,_⟩
 ·cases q
 ·obtain rfl:=cC q;rw[h] at d
  injection d with d
  rw[d] at A;exact vM A
theorem wP {w:World} {z e i:Nat} {l:List Value} (A:Arr w z e l) (v:Value) (k:Nat) (o:Obj) (d:w.heap[k]? =some o) (h:o.isCells=false):(w.setCell ⟨z,i,none⟩ v).heap[k]? =some o:=by
 rw[heap_setCell_other w ⟨z,i,none⟩ k v (fun q=>?_)]
 ·exact d
 ·have q:k=z:=q;have D:w.heap[z]? =some (.cells l.toArray e (0,0)):=A;rw[q,D] at d
  injection d with d
  rw[<-d] at h;exact vM h
theorem ND {B:Nat} {W d:World} (e:W.heap.size<=d.heap.size) (h:∀(k:Nat) (o:Obj),W.heap[k]? =some o->o.isCells=false->d.heap[k]? =some o):KeepsFrom B W d:=⟨e,fun k o _ A D=>h k o A D⟩
theorem VA {w:World} {B e size n D:Nat} {v:Value} {A:List Value} {o:Obj} (F:w.ownsRow B e size v n A) (G:w.heap[D]? =some o) (h:o.isCells=false:=by rfl):v.ownBlock=none\/v.ownBlock≠some D:=by
 rcases F.2 with⟨rfl,_⟩|⟨g,cap,H,rfl,_,d,_⟩
 ·exact .inl rfl
 ·refine .inr fun q=>?_
  obtain rfl:=cC q;rw[G] at d
  injection d with d
  rw[d] at h;exact vM h
theorem bC3 (n:Nat) (d:ByteArray) (w:World):
  CallsIn cZ n pG 88 #[.string d] w fun e w'=>e=.returned (.func (.func 103) #[] #[.pointer (some ⟨w.heap.size,0,none⟩)])/\w'=w.alloc (.cells #[.string d] 9):=by
 refine callsIn_of_wp func88 rfl trivial ?_ rfl;simp only[ntmps88,dB,aU,aV,cV,dC,jG,jH,jI,jJ,eL,fF]
 gi_wp2
 go_ret;exact⟨rfl,rfl⟩
theorem bC4 (n:Nat) (hn:6<=n) (s:ByteArray) (w:World) (hE:dU w) (hs:s.size<=120000):
  CallsIn cZ n pG 72 #[.string s] w fun e w'=>∃v,e=.returned (.tuple #[v,.int .i64 (cI s.data.toList).2])/\RdR w' v ((eY s.data.toList).map kD)/\Below w.heap.size w w':=by
 have h1:1<=n:=by omega
 refine callsIn_of_wp_marks func72 rfl trivial ?_ rfl;simp only[ntmps72,dB,aU,aV,cV,dC,jG,jH,jI,jJ,eL,fF]
 gi_wp2_with fail
 refine⟨trivial,(bC3 (n-1) s _).mono ?_⟩;rintro e w' ⟨rfl,rfl⟩
 gi_wp2_with fail
 have b0:=(((Arr.new w 127 [.slice none 0 0]).alloc (.cells #[.int .i64 0] 29)).alloc (.cells #[.string s] 9));have a2:=((Arr.new (w.alloc (.cells #[.slice none 0 0] 127)) 29 [.int .i64 0]).alloc (.cells #[.string s] 9));have a4:=Arr.new ((w.alloc (.cells #[.slice none 0 0] 127)).alloc (.cells #[.int .i64 0] 29)) 9 [.string s];have b4:Below w.heap.size w (((w.alloc (.cells #[.slice none 0 0] 127)).alloc (.cells #[.int .i64 0] 29)).alloc (.cells #[.string s] 9)):=(((aH _ w).alloc (aD _) _).alloc (by simp) _).alloc (by simp;omega) _
 have c2:(((w.alloc (.cells #[.slice none 0 0] 127)).alloc (.cells #[.int .i64 0] 29)).alloc (.cells #[.string s] 9)).heap.size=w.heap.size+1+1+1:=by simp
 simp only[World.size_alloc] at a2 a4;change Arr (((w.alloc (.cells #[.slice none 0 0] 127)).alloc (.cells #[.int .i64 0] 29)).alloc (.cells #[.string s] 9)) _ _ _ at b0;change Arr (((w.alloc (.cells #[.slice none 0 0] 127)).alloc (.cells #[.int .i64 0] 29)).alloc (.cells #[.string s] 9)) _ _ _ at a2;change Arr (((w.alloc (.cells #[.slice none 0 0] 127)).alloc (.cells #[.int .i64 0] 29)).alloc (.cells #[.string s] 9)) _ _ _ at a4;generalize ((w.alloc (.cells #[.slice none 0 0] 127)).alloc (.cells #[.int .i64 0] 29)).alloc (.cells #[.string s] 9)=w1 at*
 obtain⟨z,hz⟩:∃z,z=w.heap.size:=⟨_,rfl⟩;rw[<-hz] at b0 a2 a4 b4 c2 ⊢;have HZ:=hid hz;clear hz;obtain⟨E,a5⟩:∃E,E=(cI s.data.toList).2:=⟨_,rfl⟩;obtain⟨T,hT⟩:∃T,T=jY s.data.toList:=⟨_,rfl⟩;have a6:∀(F r:List oJ) (x:oJ),T=F++x::r->x.2≠0->x.2=E/\E≠0:=fun F r x h L=>by
  have:=aVz (by rw[<-hT];exact h) L;rw[this.1];exact⟨a5.symm,by rw[a5];exact this.2⟩
 have c8:T.length<=8*s.size+2:=aI4 s hT;have a7:=hid a5;have HT:=hid hT;have b5:=bCy (n-1) (by omega) (z+1+1) s w1 a4 hs;rw[<-hT] at b5;clear a5 hT;have c4:z+1+1+1<=w1.heap.size:=by omega
 refine bBz (w0:=w1) (Ri:=eS AF none) (Kp:=eS uZ none) (Ok:=dU) (Pre:=fun F x=>∃r,T=F++x::r) (encs:=GA) h1 (gf:=103) (lb:=#[.pointer (some ⟨z+1+1,0,none⟩)]) rfl (enters_of func103 (by kernel_rfl) rfl)
  b5 (aH _ _) (fun _=>rfl) (fun h k=>h.trans k) (fun _ _ h=>.of_kept h) (fun _ _ h=>.of_kept h)
  (fun F W=>(∀x∈F,x.2=0)/\(∃v,Arr W z 127 [v]/\OwR W (z+1+1+1) 131 5 v (F.map (fun x=>kD x.1)))/\Arr W (z+1) 29 [.int .i64 0]/\Below z w W/\z+1+1+1<=W.heap.size)
  (fun c _ W=>c=.ret/\Arr W z 127 [.slice none 0 0]/\Arr W (z+1) 29 [.int .i64 E]/\E≠0/\Below z w W/\z+1+1+1<=W.heap.size)
  (fun F A B ⟨U,⟨v,d,H⟩,M,O,k6⟩ V hk=>⟨U,⟨v,d.below V (by omega),eS.own hk H (by unfold AF;decide)⟩,M.below V (by omega),O.trans (V.mono (by omega)),aR k6 V.size⟩)
  (fun c F A B ⟨U,d,H,M,O,k6⟩ V hk=>⟨U,d.below V (by omega),H.below V (by omega),M,O.trans (V.mono (by omega)),aR k6 V.size⟩)
  ⟨fun x L=>by simp at L,⟨_,b0,OwR.nil _ _ _ _⟩,a2,b4,c4⟩ (fun F A k=>hE.below (by rw[<-HZ.out];exact k.2.2.2.1))
  (fun x a' W=>∃zb,z+1+1+1<=zb/\Arr W zb 131 (kD x.1)/\a'={tmps:=#[.string s,undef,.pointer (some ⟨z,0,none⟩),.pointer (some ⟨z+1,0,none⟩),.pointer (some ⟨zb,0,none⟩),.int .i64 x.2,.string s,.func (.func 103) #[] #[.pointer (some ⟨z+1+1,0,none⟩)],.agg #[.string x.1.t,.int .u32 x.1.y,.int .i64 x.1.a,.int .i64 x.1.z,.int .i64 x.1.r],.int .i64 x.2,undef,undef,undef,undef,undef,undef,undef,undef],defers:=[]})
  (fun x a' A A' ⟨zb,U,d,H⟩ hk=>⟨zb,U,hk.arr d (by simp),H⟩) ?assign ?body ?done ?stop
 case assign=>
  rintro l0 F ⟨p,E0⟩ W K hI hB c9 hK;unfold GA;have b6:=hI.2.2.2.2
  gi_wp2
  exact hK _ _ (bD (aH _ _) _) ⟨W.heap.size,b6,Arr.new W _ [_,_,_,_,_],rfl⟩
 case body=>
  rintro l0 F ⟨p,E0⟩ a' W ⟨U,⟨v,d,H⟩,M,O,k6⟩ hB ⟨r,hr⟩ ⟨zb,d0,hS,rfl⟩;dsimp only at hS hr ⊢;have b6:=d.lt
  by_cases a8:E0=0
  rotate_left
  ·have t1:(E0 != 0)=true:=by rw[bne_iff_ne];exact a8
   obtain⟨rfl,d1⟩:=a6 F r (p,E0) hr a8;have c0:=d.cell (i:=0) rfl;have f0:=d.free 0;have Y:=M.other ⟨z,0,none⟩ (by show z≠z+1;omega) (.slice none 0 0);have c1:=Y.cell (i:=0) rfl;have f1:=Y.free 0;clear a6 a8
   gi_wp2_with fail
   refine⟨ND (by simp) (fun k o ho hc=>?_),rfl,(d.set 0 _).other _ (by show z+1≠z;omega) _,Y.set 0 _,(O.setCell (p:=⟨z,0,none⟩) (aD _) _).setCell (p:=⟨z+1,0,none⟩) (by show z<=z+1;omega) _,by simpa using k6⟩;exact wP Y _ k o (wP d _ k o ho hc) hc
  subst a8;have d2:F.length+1<=960100:=by
   have h:=congrArg List.length hr;rw[List.length_append,aU] at h;omega
  obtain⟨I,J,hv,-⟩:=(OwR.rd H).open (by intro q Z;obtain⟨x,-,rfl⟩:=eK.1 Z;exact CU [x.1] _ (by simp)) (by decide:1<=5);obtain⟨G,a0⟩:∃G,G=(F.map (fun x:oJ=>kD x.1)).length:=⟨_,rfl⟩;rw[<-a0] at hv;subst hv;have c0:=d.cell (i:=0) rfl;have q0:=hS.cell (i:=0) rfl;have q1:=hS.cell (i:=1) rfl;have q2:=hS.cell (i:=2) rfl;have q3:=hS.cell (i:=3) rfl;have q4:=hS.cell (i:=4) rfl;clear a0 a6 hr
  gi_wp2_with (gi_at_builtin;refine UY bC1 rfl _ _ rfl (z+1+1+1) _ _ rfl (OwR.alloc H _) _ (kD p) rfl (Arr.new W 131 (kD p)) rfl (fun u hu=>(CU [p] _ (by simp)).2 u hu) ?_ ?_ ?_;(simp only[aS];omega);(simp;omega);intro v3 W3 p1 p2 p3;(obtain⟨a3,c3,b7,-⟩:=(OwR.rd p1).open (by intro q Z;rcases dK.1 Z with Z|Z;(obtain⟨x,-,rfl⟩:=eK.1 Z;exact CU [x.1] _ (by simp));(exact CU [p] _ (by simpa using Z))) (by decide:1<=5));(obtain⟨n3,b1⟩:∃n3,n3=(F.map (fun x:oJ=>kD x.1)++[kD p]).length:=⟨_,rfl⟩);rw[<-b1] at b7;subst b7;(have d3:=hid b1);clear b1;(have a1:=Arr.below (Arr.alloc d (.cells (kD p).toArray 131)) p2 (by omega));(have c5:=Arr.below (Arr.alloc M (.cells (kD p).toArray 131)) p2 (by omega));(have g0:=a1.cell (i:=0) rfl);(have e0:=a1.free 0))
  change (W.alloc (.cells (kD p).toArray 131)).grownBy W3 (Value.slice I G J).ownBlock at p3;change Below (z+1+1+1) (W.alloc (.cells (kD p).toArray 131)) W3 at p2;have d4:(W.alloc (.cells (kD p).toArray 131)).heap.size=W.heap.size+1:=by simp
  have d5:=p2.size;refine⟨ND (by simp;omega) (fun k o ho hc=>wP a1 _ k o (UZ (OwR.alloc H (.cells (kD p).toArray 131)) p3 k o ((Below.heap_alloc W _ k (fE.1 ho).1).trans ho) hc) hc),
   (eS.of_below (bD (aH _ _) (.cells (kD p).toArray 131))).trans ((eS.app (OwR.alloc H _) p3 (by unfold uZ;decide)).trans (eS.box a1 (by unfold uZ;decide) _)),?_⟩
  refine⟨fun x L=>?_,⟨_,a1.set 0 _,?_⟩,c5.other _ (by show z≠z+1;omega) _,(O.trans ((((aH _ W).alloc (aD _) _).mono (by omega)).trans (p2.mono (by omega)))).setCell (p:=⟨z,0,none⟩) (aD _) _,by simp;omega⟩
  ·rcases dK.1 L with L|L
   ·exact U x L
   ·obtain rfl:=cP.1 L;rfl
  ·rw[List.map_append];exact vL p1 (a:=⟨z,0,none⟩) (by show z<z+1+1+1;omega) _
 case done=>
  rintro D xs W hD b2 ⟨U,⟨v,d,H⟩,M,O,k6⟩ hK;obtain⟨I,J,hv,-⟩:=(OwR.rd H).open (by intro q Z;obtain⟨x,-,rfl⟩:=eK.1 Z;exact CU [x.1] _ (by simp)) (by decide:1<=5);obtain⟨G,a0⟩:∃G,G=(xs.map (fun x:oJ=>kD x.1)).length:=⟨_,rfl⟩;rw[<-a0] at hv;subst hv;have a9:=aV0 (s:=s.data.toList) (fun x L=>U x (by rw[b2,HT.out];exact L));have b8:=hid (show E=0/\xs.map (fun x:oJ=>kD x.1)=(eY s.data.toList).map kD by
   refine⟨by rw[a7.out];exact a9.1,?_⟩;rw[b2,HT.out,a9.2];unfold eY okP;rw[aB a9.1,List.map_map];rfl)
  have c0:=d.cell (i:=0) rfl;have f0:=d.free 0;have c6:=d.set 0 (.slice I G J);have Y:=M.other ⟨z,0,none⟩ (by show z≠z+1;omega) (.slice I G J);have c1:=Y.cell (i:=0) rfl;have f1:=Y.free 0;have b3:((W.setCell ⟨z,0,none⟩ (.slice I G J)).setCell ⟨z+1,0,none⟩ (.int .i64 0)).heap[D]? =some (.deferred (some [])):=wP Y _ D _ (wP d _ D _ hK rfl) rfl;clear a0 a9 a6 b2
  gi_wp2_with fail
  refine⟨by simp,.inl ⟨_,_,rfl,sE b3,?_⟩⟩;have g2:Arr ((W.setCell ⟨z,0,none⟩ (.slice I G J)).setCell ⟨z+1,0,none⟩ (.int .i64 0)) z 127 [.slice I G J]:=c6.other ⟨z+1,0,none⟩ (by show z+1≠z;omega) _;have g4:Arr ((W.setCell ⟨z,0,none⟩ (.slice I G J)).setCell ⟨z+1,0,none⟩ (.int .i64 0)) (z+1) 29 [.int .i64 0]:=Y.set 0 _;have q2:=(g2.grown (kV _ D (.deferred none)) (by simp;omega)).cell (i:=0) rfl;have q3:=(g4.grown (kV _ D (.deferred none)) (by simp;omega)).cell (i:=0) rfl
  have b9:=vL (vL H (a:=⟨z,0,none⟩) (by show z<z+1+1+1;omega) (.slice I G J)) (a:=⟨z+1,0,none⟩) (by show z+1<z+1+1+1;omega) (.int .i64 0);have c7:Below z w ((W.setCell ⟨z,0,none⟩ (.slice I G J)).setCell ⟨z+1,0,none⟩ (.int .i64 0)):=(O.setCell (p:=⟨z,0,none⟩) (aD _) _).setCell (p:=⟨z+1,0,none⟩) (by show z<=z+1;omega) _;refine⟨.tuple #[.slice I G J,.int .i64 0],?_,.slice I G J,by rw[<-a7.out,b8.out.1],?_,?_⟩
  ·simp[results,f72,go_sem,q2,q3]
  ·rw[<-b8.out.2];exact OwR.rd (yJ b9 (kV _ D (.deferred none)) (VA b9 b3))
  ·rw[<-HZ.out];exact c7.trans (belowK_b (w:=w1) (by omega) _ D _ _ hD b3 rfl rfl)
 case stop=>
  rintro D c F W hD ⟨rfl,d,H,M,O,k6⟩ hK
  gi_wp2_with fail
  refine⟨by simp,.inl ⟨_,_,rfl,sE hK,?_⟩⟩;have q2:=(d.grown (kV _ D (.deferred none)) (by simp;omega)).cell (i:=0) rfl;have q3:=(H.grown (kV _ D (.deferred none)) (by simp;omega)).cell (i:=0) rfl;refine⟨.tuple #[.slice none 0 0,.int .i64 E],?_,.slice none 0 0,by rw[<-a7.out],?_,?_⟩
  ·simp[results,f72,go_sem,q2,q3]
  ·have:eY s.data.toList=[]:=by unfold eY;rw[aA (by rw[<-a7.out];exact M)]
   rw[this];exact(OwR.nil _ 0 131 5).rd
  ·rw[<-HZ.out];exact O.trans (belowK_b (w:=w1) (by omega) _ D _ _ hD hK rfl rfl)
theorem VB (s:ByteArray) (w:World) (d:dU w) (h:s.size<=120000):
  Calls pG 72 #[.string s] w fun e w'=>∃v,e=.returned (.tuple #[v,.int .i64 (cI s.data.toList).2])/\RdR w' v ((eY s.data.toList).map kD)/\Below w.heap.size w w':=
 callsIn_wide.1 (bC4 6 (aD _) s w d h)
end
section
open Go.RowKit Go Go.Shelf
theorem bEm {w:World} {v:Value} {l:List Prt} (h:RdR w v (l.map oK)):∃a cap,v=.slice a l.length cap/\l.length<=cap/\cap<=maxLen/\
  (0<l.length->∃b off,a=some ⟨b,off,none⟩/\b<w.heap.size/\∀j p,l[j]? =some p->w.cell? ⟨b,off+j*4,none⟩=some (.string p.t)/\w.cell? ⟨b,off+j*4+1,none⟩=some (.int .u32 p.y)/\w.cell? ⟨b,off+j*4+2,none⟩=some (.int .i64 p.a)/\w.cell? ⟨b,off+j*4+3,none⟩=some (.int .i64 p.z)):=by
 obtain⟨a,cap,d,A,F,D⟩:=h.open (aI5 l) (by decide);rw[aS] at d A D;refine⟨a,cap,d,A,F,fun G=>?_⟩;obtain⟨b,off,H,I,J⟩:=D G;refine⟨b,off,H,I,fun j p M=>?_⟩;have e:(l.map oK)[j]? =some (oK p):=by grind
 have c:=fun i u L=>J j (oK p) i u e L
 refine⟨c 0 _ rfl,?_,?_,?_⟩
 ·grind [RdR,oK]
 ·grind [RdR,oK]
 grind [RdR,oK]
end
section
open Go.ChangeShapes Go.WideShapes Go.ChangeAt Go.RowKit Go.Joins
theorem aSj {n:Int} (h:(Lit.int .i64 n).wf=true): -9223372036854775808<=n/\n<=9223372036854775807:=by
 simp[Lit.wf,IntKind.min,IntKind.max,IntKind.signed,IntKind.bits] at h;omega
theorem bGr:ownKnob pG.godebug=none:=by kernel_rfl
theorem bGs:laidOutB pG=true:=by kernel_rfl
theorem aSk:pG.globalNamed "errors.errorType"=some 0:=by kernel_rfl
theorem aSl:(pG.cutTypes.find? (·.1== "internal/reflectlite.rtype")).map (·.2)=some 155:=by kernel_rfl
theorem aSm:pG.types.size=331:=by kernel_rfl
theorem aSn:((eT 331).filter fun t=>pG.rowNamed t [101,114,114,111,114])=[68]:=by kernel_rfl
abbrev QZ:List (String×DataW Unit):=[("errors.errorType",Rows.laid_errors_errorType)]
theorem bGt {W:World} (h:laidMetH pG QZ W):dU W:=by
 have A:laidMet pG [] W/\handlesMet pG QZ W:=h;obtain⟨D,u,F,G,I,J,L,d⟩:=A.2 _ (cP.2 rfl);have M:D=[101,114,114,111,114]:=(cC G).symm;subst M;obtain rfl:=cC (aSl.symm.trans I);have e:F∈(eT 331).filter fun t=>pG.rowNamed t [101,114,114,111,114]:=List.mem_filter.2 ⟨List.mem_range.2 (by rw[<-aSm];exact J),L⟩
 rw[aSn] at e;obtain rfl:=cP.1 e;have O:typeHandle pG 68=.pointer (some ⟨1,68,none⟩):=by kernel_rfl
 rw[O] at d;have:=World.var?_cell aSk d 0;unfold dU
 simpa using this
noncomputable def aSo (os:Os):World:=
 let w0:=World.holding pG os ⟨#[],#[],[]⟩
 {w0 with heap:=w0.heap.modify 0 fun
   |.cells _ t d=>.cells #[.iface 155 (.agg #[.pointer (some ⟨1,68,none⟩)])] t d
   |o=>o}
theorem bGu (os:Os) (args:Array Value):laidMetH pG QZ ((aSo os).forCall (fun _ _=>0) ⟨#[],args,[]⟩).memory:=
 laidMetH_of_parts (laidMet_nil _ _) (by kernel_rfl)
theorem aBp {n:Int} (h:(Lit.int .i64 n).wf=true): -9223372036854775808<=n/\n<=9223372036854775807:=aSj h
theorem aBq {α:Type}:∀{l:List α},l.length=2->∃x y,l=[x,y]
 |[x,y],_=>⟨x,y,rfl⟩
section
variable {H:Type} {enc:TypeId×Value->H} {w:World} {base:Nat} {spare:Nat->Bool} {held:Bool}
theorem bGv {a2:Nat} {v:Value} {x:DataW H×List MemPlace} (h:bHw enc pG w base spare held a2 24 [v]=some x):∃l,RdP w v l/\WfP l:=by
 have a3:pG.cellsOf 25=2:=by kernel_rfl
 have c3:pG.cellsOf 3=1:=by kernel_rfl
 rcases Go.Deep.open_slice underlying24 h with⟨J,_⟩|⟨a,A,cap,m,n,D,Pl,J,_,hl,hm,a4,_,T⟩
 ·obtain rfl:v=.slice none 0 0:=by simpa using J
  exact⟨[],⟨none,0,rfl,aD _,by simp[maxLen],fun h=>absurd h (by simp)⟩,by intro p d;simp at d⟩
 ·obtain rfl:v=.slice (some a) A cap:=by simpa using J
  have a5:A<=m:=by rw[a4];split<;>omega
  have U:∀i,i<A->∃p:Int×Int,(w.cell? (a.add (i*2))=some (.int .i64 p.1)/\w.cell? (a.add (i*2+1))=some (.int .i64 p.2))/\((-9223372036854775808<=p.1/\p.1<=9223372036854775807)/\(-9223372036854775808<=p.2/\p.2<=9223372036854775807)):=fun i I=>by
   obtain⟨b7,V,Y⟩:=T i (Nat.lt_of_lt_of_le I a5);rw[a3] at V;obtain⟨xs,k,_,_,_,a6,L⟩:=DataW.trod_array underlying25 Y;obtain⟨_,a7,Z⟩:=World.cells?_some V;obtain⟨u0,u1,rfl⟩:=aBq a7;obtain⟨y0,y1,rfl⟩:=aBq a6;have F:=L 0 (by decide);have M:=L 1 (by decide);rw[c3] at F M;obtain⟨n0,q0,_,b0⟩:=bH2 underlying3 (show bHw enc pG w base spare held k 3 [u0]=some y0 from F);obtain⟨n1,q1,_,b1⟩:=bH2 underlying3 (show bHw enc pG w base spare held k 3 [u1]=some y1 from M);have a8:u0=.int .i64 n0:=bH3.1 q0
   have a9:u1=.int .i64 n1:=bH3.1 q1;clear F M L T Y h;subst a8 a9;have a0:=Z 0 (by decide);have a1:=Z 1 (by decide);refine⟨(n0,n1),⟨?_,?_⟩,aBp b0,aBp b1⟩
   ·have F:(a.add (i*2)).add 0=a.add (i*2):=by rw[Go.Deep.add_add,Nat.add_zero]
    rw[<-F,a0];rfl
   ·simpa [<-Go.Deep.add_add] using a1
  have b2:∃f:Nat->Int×Int,∀i,i<A->(w.cell? (a.add (i*2))=some (.int .i64 (f i).1)/\w.cell? (a.add (i*2+1))=some (.int .i64 (f i).2))/\((-9223372036854775808<=(f i).1/\(f i).1<=9223372036854775807)/\(-9223372036854775808<=(f i).2/\(f i).2<=9223372036854775807)):=
   ⟨fun i=>if h:i<A then(U i h).choose else(0,0),fun i I=>by simp only[I,dif_pos];exact(U i I).choose_spec⟩
  obtain⟨f,O⟩:=b2;refine⟨(eT A).map f,⟨some a,cap,by simp,by simpa using hl,hm,fun h0=>?_⟩,fun p d=>?_⟩
  ·have b3:0<A:=by simpa using h0
   have c0:=(O 0 b3).1.1;obtain⟨b,off,b4⟩:=a;have b5:b4=none:=by simpa [gP] using World.cell?_spot c0
   subst b5;refine⟨b,off,rfl,World.block_lt_of_cell? w _ c0,fun j p d=>?_⟩;obtain⟨G,rfl⟩:j<A/\f j=p:=by
    rw[List.getElem?_map] at d
    by_cases G:j<A
    ·rw[List.getElem?_range G] at d;exact⟨G,by simpa using d⟩
    ·rw[List.getElem?_eq_none (by simpa using G)] at d;simp at d
   have e:∀q,(⟨b,off,none⟩:Addr).add q=⟨b,off+q,none⟩:=fun q=>by unfold gP;split<;>simp_all
   have:=(O j G).1;rw[e,e] at this;exact⟨this.1,by rw[Nat.add_assoc];exact this.2⟩
  ·rw[eK] at d;obtain⟨i,b6,rfl⟩:=d;exact(O i (by simpa using b6)).2
end
end
end Go.Proofs.YtfplbbphficcjaaGreatDoor
