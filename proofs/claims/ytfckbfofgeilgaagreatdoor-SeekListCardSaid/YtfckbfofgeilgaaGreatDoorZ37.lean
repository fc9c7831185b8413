/-
  Texts put together (part 37): the walks and the plain laws on which the statement stands.
-/
import Derived.Deep.Upon
import Derived.Laws.OwnMore
import Derived.Test.YtfckbfofgeilgaaGreatDoorZ30
import Derived.Test.YtfckbfofgeilgaaGreatDoorZ36
set_option maxRecDepth 100000
set_option maxHeartbeats 12800000
set_option linter.unusedVariables false
set_option linter.unusedSimpArgs false
open Go.Proofs.Tryz
open Go.Proofs.Tryz renaming prog->pG
open Go renaming bodyPost_ret->fM,results_cell_row->DJ
open Go.Act renaming put->bJ
open Go.BinOp renaming eql->bNe
open Go.RowKit renaming ownsRow_setCell_below->vL
open Go.RowKit.Below renaming refl->aH
open Go.Value renaming slice->mM
open Go.World renaming size_alloc->fP,size_setCell->aL5
open List renaming getElem?_cons_succ->gH,getElem?_cons_zero->gB,getElem?_eq_some_iff->eF,getElem?_toArray->gA,length_eq_zero_iff->nX,length_map->aS,length_set->nW,setIfInBounds_toArray->bK,set_cons_succ->bB,set_cons_zero->bH
open Nat renaming eq_zero_or_pos->jE,le_of_lt->nG,le_refl->aD,le_succ->tJ,le_trans->aR,lt_of_lt_of_le->fB,lt_succ_self->vK
namespace Go.Proofs.YtfckbfofgeilgaaGreatDoor
open Go.RowKit Go Go.Shelf
theorem bN9:ElR pG 38 116 7 72 (.agg #[.int .i64 0,.int .i64 0,.int .i64 0,.int .i64 0,.int .i64 0,.string ⟨#[]⟩,.string ⟨#[]⟩]):=ElR.mk' (by kernel_rfl) underlying38 rfl (by decide) (by decide)
section
variable {P:Program} {t e k bytes:Nat} {z:Value}
theorem bOa (w:World) (B e k:Nat) (d:B<=w.heap.size):OwR (w.alloc (.cells #[] e)) B e k (.slice (some ⟨w.heap.size,0,none⟩) 0 0) []:=
 ⟨by simp,.inr ⟨w.heap.size,0,#[],rfl,d,by unfold World.alloc;simp,aD _,by simp[maxLen],by simp,by simp⟩⟩
theorem bOb (E:ElR P t e k bytes z) {D:Array Oper} {rest:List Oper} {o:Oper} {a:Act} {Q:Exit->Act->World->Prop} {w:World} (F:o.guard=none) (s x:Operand)
  (G:o.op=.call {callee:=.builtin .append,args:=#[s,x],argTypes:=#[t,t]}) (base:Nat) (ad:Option Addr) (hs:a.eval s=.slice ad 0 0) (hown:OwR w base e k (.slice ad 0 0) [])
  (sv:Value) (m:lC) (hx:a.eval x=sv) (hsrc:RdR w sv m) (h1:oW k m) (hroom:m.length*bytes<=140737488355328) (hbase:base<=w.heap.size)
  (h:∀d w',OwR w' base e k d m->Below base w w'->wpList P D Q rest (a.put o.dst d) w'):wpList P D Q (o::rest) a w:=by
 by_cases J:0<m.length
 ·exact EH E F s x G base _ [] hs hown sv m hx hsrc h1 J (by simpa using hroom) hbase (fun d w' L M _=>h d w' L M)
 ·refine wpList_plain F fun K O=>?_
  obtain rfl:m=[]:=nX.1 (by omega);obtain⟨i,R,Y,U,Z⟩:=E.info;obtain⟨A,c,rfl,-⟩:=hsrc.open h1 E.some';have I:Src P k t (.slice A 0 c) 0 [] w:=by
   cases A with
   |none=>exact Src.ofNil w E.under c
   |some A=>exact Src.ofSlice w E.under A 0 c [] (by simp) (fun j u h=>by simp at h) (fun u h=>by simp at h)
  rw[<-U] at I;have V:=run_append_nothing w _ _ o.type _ i E.under R ad 0 0 (aD _) _ I;unfold Oper.wp execOp;simp only[G,resolve,invoke,builtin,Sem.run_bind,Sem.run_pure,Result.andThen_ok,List.map_toArray,List.map_cons,List.map_nil,hs,hx,List.length_nil,V];exact O _ _ (h _ w hown (aH _ _))
end
theorem bRp (v:Value) (l:List Ent) (w:World) (A:RdR w v (l.map bG)) (Z:l.length<=2000):
  Calls pG 88 #[v] w fun e w'=>∃u,e=.returned u/\OwR w' w.heap.size 103 5 u (l.map bG)/\Below w.heap.size w w':=by
 have F:=A;obtain⟨a,G,rfl,I,a0,d⟩:=A.open (yG l) (by decide);obtain⟨n,D⟩:=ex1 ((l.map bG).length);rw[<-D] at F I d ⊢;have J:=hid D;clear A D
 cases a with
 |none=>
  have L:l=[]:=nX.1 (by have:=J.out;rw[aS] at this;rcases jE n with h|h;omega;obtain⟨_,_,h,_⟩:=d h;cases h);clear d;have M:∀W:World,(binOp bNe 30 (mM none n G) (mM none 0 0)).run pG W=.ok (.bool true) W:=fun W=>by kernel_rfl
  go_enter func88,ntmps88;go_wp2_with fail;go_ret;subst L;exact⟨_,rfl,OwR.nil _ _ _ _,aH _ _⟩
 |some O=>
  obtain⟨b,off,R⟩:=O;clear d;have M:∀W:World,(binOp bNe 30 (mM (some ⟨b,off,R⟩) n G) (mM none 0 0)).run pG W=.ok (.bool false) W:=fun W=>by kernel_rfl
  go_enter func88,ntmps88;go_wp2_with (refine bOb AK rfl _ _ rfl w.heap.size _ rfl (bOa w _ _ _ (aD _)) _ _ rfl (F.below (bD (aH _ _) _)) (yG l) ?_ ?_ ?_;(rw[aS];omega);simp;intro u w2 U V;(have Y:=(bD (aH w.heap.size w) (.cells #[] 103)).trans V));go_ret;exact⟨_,rfl,U,Y⟩
theorem bRq (v:Value) (l:List Hld) (w:World) (A:RdR w v (l.map mX)) (Z:l.length<=2000):
  Calls pG 89 #[v] w fun e w'=>∃u,e=.returned u/\OwR w' w.heap.size 113 3 u (l.map mX)/\Below w.heap.size w w':=by
 have F:=A;obtain⟨a,G,rfl,I,a0,d⟩:=A.open (bLd l) (by decide);obtain⟨n,D⟩:=ex1 ((l.map mX).length);rw[<-D] at F I d ⊢;have J:=hid D;clear A D
 cases a with
 |none=>
  have L:l=[]:=nX.1 (by have:=J.out;rw[aS] at this;rcases jE n with h|h;omega;obtain⟨_,_,h,_⟩:=d h;cases h);clear d;have M:∀W:World,(binOp bNe 35 (mM none n G) (mM none 0 0)).run pG W=.ok (.bool true) W:=fun W=>by kernel_rfl
  go_enter func89,ntmps89;go_wp2_with fail;go_ret;subst L;exact⟨_,rfl,OwR.nil _ _ _ _,aH _ _⟩
 |some O=>
  obtain⟨b,off,R⟩:=O;clear d;have M:∀W:World,(binOp bNe 35 (mM (some ⟨b,off,R⟩) n G) (mM none 0 0)).run pG W=.ok (.bool false) W:=fun W=>by kernel_rfl
  go_enter func89,ntmps89;go_wp2_with (refine bOb bOp rfl _ _ rfl w.heap.size _ rfl (bOa w _ _ _ (aD _)) _ _ rfl (F.below (bD (aH _ _) _)) (bLd l) ?_ ?_ ?_;(rw[aS];omega);simp;intro u w2 U V;(have Y:=(bD (aH w.heap.size w) (.cells #[] 113)).trans V));go_ret;exact⟨_,rfl,U,Y⟩
theorem bRr (v:Value) (l:List Rdr) (w:World) (A:RdR w v (l.map bK3)) (Z:l.length<=2000):
  Calls pG 90 #[v] w fun e w'=>∃u,e=.returned u/\OwR w' w.heap.size 116 7 u (l.map bK3)/\Below w.heap.size w w':=by
 have F:=A;obtain⟨a,G,rfl,I,a0,d⟩:=A.open (bL1 l) (by decide);obtain⟨n,D⟩:=ex1 ((l.map bK3).length);rw[<-D] at F I d ⊢;have J:=hid D;clear A D
 cases a with
 |none=>
  have L:l=[]:=nX.1 (by have:=J.out;rw[aS] at this;rcases jE n with h|h;omega;obtain⟨_,_,h,_⟩:=d h;cases h);clear d;have M:∀W:World,(binOp bNe 38 (mM none n G) (mM none 0 0)).run pG W=.ok (.bool true) W:=fun W=>by kernel_rfl
  go_enter func90,ntmps90;go_wp2_with fail;go_ret;subst L;exact⟨_,rfl,OwR.nil _ _ _ _,aH _ _⟩
 |some O=>
  obtain⟨b,off,R⟩:=O;clear d;have M:∀W:World,(binOp bNe 38 (mM (some ⟨b,off,R⟩) n G) (mM none 0 0)).run pG W=.ok (.bool false) W:=fun W=>by kernel_rfl
  go_enter func90,ntmps90;go_wp2_with (refine bOb bN9 rfl _ _ rfl w.heap.size _ rfl (bOa w _ _ _ (aD _)) _ _ rfl (F.below (bD (aH _ _) _)) (bL1 l) ?_ ?_ ?_;(rw[aS];omega);simp;intro u w2 U V;(have Y:=(bD (aH w.heap.size w) (.cells #[] 116)).trans V));go_ret;exact⟨_,rfl,U,Y⟩
abbrev bLn (W:World) (y:Nat) (v0 v1 v2 v3 v4 v5 v6:Value):World:=((((((W.setCell ⟨y,0,none⟩ v0).setCell ⟨y,1,none⟩ v1).setCell ⟨y,2,none⟩ v2).setCell ⟨y,3,none⟩ v3).setCell ⟨y,4,none⟩ v4).setCell ⟨y,5,none⟩ v5).setCell ⟨y,6,none⟩ v6
section
variable {W W0:World} {y B:Nat} (v0 v1 v2 v3 v4 v5 v6:Value)
theorem bOc {e k n:Nat} {v:Value} {A:List Value} (h:W.ownsRow B e k v n A) (d:y<B):(bLn W y v0 v1 v2 v3 v4 v5 v6).ownsRow B e k v n A:=
 vL (vL (vL (vL (vL (vL (vL h (a:=⟨y,0,none⟩) d _) (a:=⟨y,1,none⟩) d _) (a:=⟨y,2,none⟩) d _) (a:=⟨y,3,none⟩) d _) (a:=⟨y,4,none⟩) d _) (a:=⟨y,5,none⟩) d _) (a:=⟨y,6,none⟩) d _
theorem bL2 (h:Below B W0 W) (d:B<=y):Below B W0 (bLn W y v0 v1 v2 v3 v4 v5 v6):=((((((h.setCell (p:=⟨y,0,none⟩) d _).setCell (p:=⟨y,1,none⟩) d _).setCell (p:=⟨y,2,none⟩) d _).setCell (p:=⟨y,3,none⟩) d _).setCell (p:=⟨y,4,none⟩) d _).setCell (p:=⟨y,5,none⟩) d _).setCell (p:=⟨y,6,none⟩) d _
theorem bLz {e:Nat} {u0 u1 d A D F G:Value} (h:Arr W y e [u0,u1,d,A,D,F,G]):Arr (bLn W y v0 v1 v2 v3 v4 v5 v6) y e [v0,v1,v2,v3,v4,v5,v6]:=((((((h.set 0 _).set 1 _).set 2 _).set 3 _).set 4 _).set 5 _).set 6 _
theorem bM7 {b e:Nat} {l:List Value} (h:Arr W b e l) (d:y≠b):Arr (bLn W y v0 v1 v2 v3 v4 v5 v6) b e l:=((((((h.other ⟨y,0,none⟩ d _).other ⟨y,1,none⟩ d _).other ⟨y,2,none⟩ d _).other ⟨y,3,none⟩ d _).other ⟨y,4,none⟩ d _).other ⟨y,5,none⟩ d _).other ⟨y,6,none⟩ d _
end
theorem bNo:(pG.info? 40).map (·.size)=some 7:=by kernel_rfl
theorem bRs {d:Func} {Q:Ending->World->Prop} {W:World} {a:Act} {z p:Nat} {A D y2 F G I J:Value} (L:d.results=#[.cell p 40]) (M:Arr W z 40 [A,D,y2,F,G,I,J]) (O:a.tmps.getD p undef=.pointer (some ⟨z,0,none⟩)) (R:a.defers=[])
  (h:Q (.returned (.agg #[A,D,y2,F,G,I,J])) W):bodyPost pG d Q .ret a W:=
 fM (DJ L _ _ z _ _ (0,0) _ O M underlying40 rfl bNo) R h
theorem bPd (a:ByteArray) (vi vh vr:Value) (room clock dec:Int) (l:List Ent) (H:List Hld) (O:List Rdr) (w:World) (hr:RdR w vi (l.map bG)) (hh:RdR w vh (H.map mX)) (a7:RdR w vr (O.map bK3)) (h1:l.length<=2000) (h2:H.length<=2000) (h3:O.length<=2000):
  Calls pG 54 #[bLa a vi room clock vh vr dec] w fun e w'=>∃ui uh ur,e=.returned (bLa a ui room clock uh ur dec)/\OwR w' w.heap.size 103 5 ui (l.map bG)/\OwR w' w.heap.size 113 3 uh (H.map mX)/\OwR w' w.heap.size 116 7 ur (O.map bK3)/\(∀c,ur.ownBlock=some c->(∀b,ui.ownBlock=some b->b<c)/\∀b,uh.ownBlock=some b->b<c)/\Below w.heap.size w w':=by
 have b3:=fun W h=>bRp vi l W h h1
 have b5:=fun W h=>bRq vh H W h h2
 have b7:=fun W h=>bRr vr O W h h3
 have b8:=hr;have b9:=hh;have c7:=a7;obtain⟨ai,ci,c8,-⟩:=hr.open (yG l) (by decide);obtain⟨ah,ch,c9,-⟩:=hh.open (bLd H) (by decide);obtain⟨Z,cr,d0,-⟩:=a7.open (bL1 O) (by decide);obtain⟨ni,d2⟩:=ex1 ((l.map bG).length);obtain⟨nh,d3⟩:=ex1 ((H.map mX).length);obtain⟨nr,d4⟩:=ex1 ((O.map bK3).length);rw[<-d2] at c8;rw[<-d3] at c9;rw[<-d4] at d0;subst c8 c9 d0;clear d2 d3 d4 hr hh a7
 have hX:=(Arr.new w 40 [.string a,.slice ai ni ci,.int .i64 room,.int .i64 clock,.slice ah nh ch,.slice Z nr cr,.int .i64 dec]).alloc (.cells #[.string ⟨#[]⟩,.slice none 0 0,.int .i64 0,.int .i64 0,.slice none 0 0,.slice none 0 0,.int .i64 0] 40);have hY:=Arr.new (w.alloc (.cells #[.string a,.slice ai ni ci,.int .i64 room,.int .i64 clock,.slice ah nh ch,.slice Z nr cr,.int .i64 dec] 40)) 40 [.string ⟨#[]⟩,.slice none 0 0,.int .i64 0,.int .i64 0,.slice none 0 0,.slice none 0 0,.int .i64 0];rw[fP] at hY
 change Arr ((w.alloc (.cells #[.string a,.slice ai ni ci,.int .i64 room,.int .i64 clock,.slice ah nh ch,.slice Z nr cr,.int .i64 dec] 40)).alloc (.cells #[.string ⟨#[]⟩,.slice none 0 0,.int .i64 0,.int .i64 0,.slice none 0 0,.slice none 0 0,.int .i64 0] 40)) _ _ _ at hX hY;have a4:=bD (bD (aH w.heap.size w) (.cells #[.string a,.slice ai ni ci,.int .i64 room,.int .i64 clock,.slice ah nh ch,.slice Z nr cr,.int .i64 dec] 40)) (.cells #[.string ⟨#[]⟩,.slice none 0 0,.int .i64 0,.int .i64 0,.slice none 0 0,.slice none 0 0,.int .i64 0] 40);go_enter func54,ntmps54
 go_wp2_with fail;generalize (w.alloc (.cells #[.string a,.slice ai ni ci,.int .i64 room,.int .i64 clock,.slice ah nh ch,.slice Z nr cr,.int .i64 dec] 40)).alloc (.cells #[.string ⟨#[]⟩,.slice none 0 0,.int .i64 0,.int .i64 0,.slice none 0 0,.slice none 0 0,.int .i64 0] 40)=W1 at*
 obtain⟨z,hz⟩:=ex1 (w.heap.size);rw[<-hz] at hX hY a4 ⊢;have HB:=fun{v:Value} {q:lC} {W:World} (h:RdR w v q) (b:Below z w W)=>h.below (hz▸b)
 have HZ:=hid hz;clear hz;have a8:z<W1.heap.size:=hX.lt;have f0:z+1<W1.heap.size:=hY.lt;refine(b3 _ (HB b8 a4)).mono ?_;rintro e w2 ⟨ui,rfl,L,b2⟩;have a0:=hX.below b2 hX.lt;have d5:=hY.below b2 hY.lt;have d6:=a4.trans (b2.mono (nG hX.lt));obtain⟨A,D,R,-⟩:=L.rd.open (yG l) (by decide);obtain⟨F,d7⟩:∃n,n=(l.map bG).length:=⟨_,rfl⟩;rw[<-d7] at R;subst R;have c4:=a0.cell (i:=4) rfl;have d1:=a0.cell (i:=1) rfl;have f1:=a0.free 1;have l2:=a0.lt;have a1:=a0.set 1 (.slice A F D);have a5:=d5.other ⟨z,1,none⟩ (by show z≠z+1;omega) (.slice A F D)
 have a9:=d6.setCell (p:=⟨z,1,none⟩) (aD _) (.slice A F D);have L:=vL L (a:=⟨z,1,none⟩) a8 (.slice A F D);clear d7 hX hY a4 b3 b2 a0 d5 d6 b8;go_wp2_with fail;change Arr (w2.setCell ⟨z,1,none⟩ (.slice A F D)) _ _ [.string a,.slice A F D,.int .i64 room,.int .i64 clock,.slice ah nh ch,.slice Z nr cr,.int .i64 dec] at a1;clear c4 d1 f1 l2;generalize w2.setCell ⟨z,1,none⟩ (.slice A F D)=w3 at*
 refine(b5 _ (HB b9 a9)).mono ?_;rintro e w4 ⟨uh,rfl,o2,b4⟩;have d8:z<w3.heap.size:=a1.lt;have f2:z+1<w3.heap.size:=a5.lt;have a2:=a1.below b4 a1.lt;have d9:=a5.below b4 a5.lt;have e7:=a9.trans (b4.mono (nG a1.lt));have L:=OwR.below L b4 (aD _);obtain⟨G,I,R,-⟩:=o2.rd.open (bLd H) (by decide);obtain⟨J,e8⟩:∃n,n=(H.map mX).length:=⟨_,rfl⟩;rw[<-e8] at R;subst R;have c4:=a2.cell (i:=5) rfl;have d1:=a2.cell (i:=4) rfl;have f1:=a2.free 4;have l2:=a2.lt;have a3:=a2.set 4 (.slice G J I);have a6:=d9.other ⟨z,4,none⟩ (by show z≠z+1;omega) (.slice G J I)
 have b0:=e7.setCell (p:=⟨z,4,none⟩) (aD _) (.slice G J I);have L:=vL L (a:=⟨z,4,none⟩) a8 (.slice G J I);have o2:=vL o2 (a:=⟨z,4,none⟩) d8 (.slice G J I);clear e8 a1 a5 a9 b5 b4 a2 d9 e7 b9;go_wp2_with fail;change Arr (w4.setCell ⟨z,4,none⟩ (.slice G J I)) _ _ [.string a,.slice A F D,.int .i64 room,.int .i64 clock,.slice G J I,.slice Z nr cr,.int .i64 dec] at a3;clear c4 d1 f1 l2;generalize w4.setCell ⟨z,4,none⟩ (.slice G J I)=w5 at*
 refine(b7 _ (HB c7 b0)).mono ?_;rintro e w6 ⟨ur,rfl,o3,b6⟩;have f4:z<w5.heap.size:=a3.lt;have f5:z+1<w5.heap.size:=a6.lt;have s1:=fun b q=>(OwR.lt L b q).2
 have s2:=fun b q=>(OwR.lt o2 b q).2
 have M:=a3.below b6 a3.lt;have d:=a6.below b6 a6.lt;have f6:=b0.trans (b6.mono (nG a3.lt));have L:=OwR.below L b6 (aD _);have o2:=OwR.below o2 b6 (aD _);obtain⟨U,V,R,-⟩:=o3.rd.open (bL1 O) (by decide);obtain⟨Y,e9⟩:∃n,n=(O.map bK3).length:=⟨_,rfl⟩;rw[<-e9] at R;subst R;have c0:=M.cell (i:=0) rfl;have c1:=M.cell (i:=1) rfl;have c2:=M.cell (i:=2) rfl;have c3:=M.cell (i:=3) rfl;have c4:=M.cell (i:=4) rfl;have c5:=M.cell (i:=5) rfl;have c6:=M.cell (i:=6) rfl;have f3:=M.free 5;have l6:=M.lt;have g7:=d.lt;have e0:=d.cell (i:=0) rfl;have e1:=d.cell (i:=1) rfl
 have e2:=d.cell (i:=2) rfl;have e3:=d.cell (i:=3) rfl;have e4:=d.cell (i:=4) rfl;have e5:=d.cell (i:=5) rfl;have e6:=d.cell (i:=6) rfl;have g0:=d.free 0;have g1:=d.free 1;have g2:=d.free 2;have g3:=d.free 3;have g4:=d.free 4;have g5:=d.free 5;have g6:=d.free 6;clear e9 a3 a6 b0 b7 b6 c7;go_wp2_with fail;have f7:=bOc (y:=z+1) (.string a) (.slice A F D) (.int .i64 room) (.int .i64 clock) (.slice G J I) (.slice U Y V) (.int .i64 dec) (vL L (a:=⟨z,5,none⟩) a8 (.slice U Y V)) f0
 have f8:=bOc (y:=z+1) (.string a) (.slice A F D) (.int .i64 room) (.int .i64 clock) (.slice G J I) (.slice U Y V) (.int .i64 dec) (vL o2 (a:=⟨z,5,none⟩) d8 (.slice U Y V)) f2;have b1:=bOc (y:=z+1) (.string a) (.slice A F D) (.int .i64 room) (.int .i64 clock) (.slice G J I) (.slice U Y V) (.int .i64 dec) (vL o3 (a:=⟨z,5,none⟩) f4 (.slice U Y V)) f5;have f9:=bL2 (y:=z+1) (.string a) (.slice A F D) (.int .i64 room) (.int .i64 clock) (.slice G J I) (.slice U Y V) (.int .i64 dec) (f6.setCell (p:=⟨z,5,none⟩) (aD _) (.slice U Y V)) (tJ z)
 refine bRs rfl (bLz _ _ _ _ _ _ _ (d.other ⟨z,5,none⟩ (by show z≠z+1;omega) _)) rfl rfl ?_;rw[<-HZ.out];exact⟨_,_,_,rfl,OwR.base f7 (by omega),OwR.base f8 (by omega),OwR.base b1 (by omega),fun c q=>⟨fun b q'=>fB (s1 b q') (OwR.lt b1 c q).1,fun b q'=>fB (s2 b q') (OwR.lt b1 c q).1⟩,f9⟩
theorem bNp (a:ByteArray) (I J vr:Value) (room clock dec r:Int) (P:List Prt) (H:List Hld) (d:List Rdr) (w:World) (L:RdR w I ((gU 0 P).map bG)) (M:RdR w J (H.map mX)) (O:RdR w vr (d.map bK3)) (hD:bN6 P room clock H d dec):
  Calls pG 52 #[bLa a I room clock J vr dec,.int .i64 r] w fun e w'=>e=.returned (.int .i64 (if r<0\/(d.length:Int)<=r then 5 else 0))/\Below w.heap.size w w':=by
 obtain⟨V,R⟩:∃V:Int,V=if r<0\/(d.length:Int)<=r then 5 else 0:=⟨_,rfl⟩;rw[<-R];have U:=hid R;clear R;have hR:=fun W h1 A h3=>bPc a I J vr room clock dec P H d W h1 A h3 hD
 have a1:=L;have a2:=M;have a3:=O;obtain⟨Y,Z,a4,-⟩:=L.open (yG _) (by decide);obtain⟨ah,ch,a5,-⟩:=M.open (bLd H) (by decide);obtain⟨ar,cr,a6,-⟩:=O.open (bL1 d) (by decide);rw[aS] at a6;obtain⟨ni,a7⟩:=ex1 (((gU 0 P).map bG).length);obtain⟨nh,a8⟩:=ex1 ((H.map mX).length);rw[<-a7] at a4;rw[<-a8] at a5;subst a4 a5 a6;clear a7 a8 L M O hD;have G:=Arr.new w 40 [.string a,.slice Y ni Z,.int .i64 room,.int .i64 clock,.slice ah nh ch,.slice ar d.length cr,.int .i64 dec]
 change Arr (w.alloc (.cells #[.string a,.slice Y ni Z,.int .i64 room,.int .i64 clock,.slice ah nh ch,.slice ar d.length cr,.int .i64 dec] 40)) _ _ _ at G;have D:=bD (aH w.heap.size w) (.cells #[.string a,.slice Y ni Z,.int .i64 room,.int .i64 clock,.slice ah nh ch,.slice ar d.length cr,.int .i64 dec] 40);go_enter func52,ntmps52;go_wp2_with fail;refine(hR _ (a1.below D) (a2.below D) (a3.below D)).mono ?_;rintro e w2 ⟨rfl,A⟩;have a0:=aW D A;have a9:=G.below A G.lt;have c5:=a9.cell (i:=5) rfl;have l2:=a9.lt;clear hR G A D a1 a2 a3
 by_cases q:r<0
 ·have t1:decide (r<0)=true:=aG q;go_wp2_with fail;go_ret;obtain rfl:V=5:=U.out.trans (aB (.inl q));exact⟨rfl,a0⟩
 ·have t1:decide (r<0)=false:=aE q
  by_cases F:(d.length:Int)<=r
  ·have t2:decide (r>=(d.length:Int))=true:=aG F;have b0:decide ((d.length:Int)<=r)=true:=aG F;go_wp2_with fail;go_ret;obtain rfl:V=5:=U.out.trans (aB (.inr F));exact⟨rfl,a0⟩
  ·have t2:decide (r>=(d.length:Int))=false:=aE F;have b0:decide ((d.length:Int)<=r)=false:=aE F;go_wp2_with fail;go_ret;obtain rfl:V=0:=U.out.trans (aA (by omega));exact⟨rfl,a0⟩
theorem bPe (a:ByteArray) (O:Value) (room clock dec:Int) (d A:Option Addr) (F ch G I:Nat) (P:List Prt) (o m:Nat) (w:World) (R:RdR w O ((gU 0 P).map bG)) (hR:jA (gU 0 P)) (hP:P.length<=2000) (hU:(iH (P.map Prt.t)).size<=1000000000) (ho:o<=1000000000000) (hm:m<=1000000000000):
  Calls pG 55 #[bLa a O room clock (.slice d F ch) (.slice A G I) dec,.int .i64 (o:Int),.int .i64 (m:Int)] w fun e w'=>e=.returned (.int .i64 (bLj (iH (P.map Prt.t)).size o m))/\Below w.heap.size w w':=by
 have hl:=NK P 0;have a1:=R;obtain⟨Y,Z,a2,-⟩:=R.open (yG _) (by decide);have J:=fun W h=>VO O (gU 0 P) W h (by omega)
 rw[show lG (gU 0 P)=((iH (P.map Prt.t)).size:Int) by unfold lG;rw[aB hR,bNj,bMw]] at J;obtain⟨ni,a3⟩:=ex1 (((gU 0 P).map bG).length);rw[<-a3] at a2;subst a2;obtain⟨U,a4⟩:=ex1 ((iH (P.map Prt.t)).size);rw[<-a4] at J hU ⊢;obtain⟨V,L⟩:∃V:Int,V=bLj U o m:=⟨_,rfl⟩;rw[<-L];unfold bLj at L;have HV:=hid L;clear a3 R hl a4 L;obtain⟨D,M⟩:∃D:Int,D=(U:Int)-(m:Int):=⟨_,rfl⟩;have m1:IntKind.i64.wrap ((U:Int)-(m:Int))=D:=by rw[<-M,IntKind.wrap_i64];omega
 have a7:=M.symm;have HD:=hid M;clear M;have hX:=Arr.new w 40 [.string a,.slice Y ni Z,.int .i64 room,.int .i64 clock,.slice d F ch,.slice A G I,.int .i64 dec];change Arr (w.alloc (.cells #[.string a,.slice Y ni Z,.int .i64 room,.int .i64 clock,.slice d F ch,.slice A G I,.int .i64 dec] 40)) _ _ _ at hX;have a0:=bD (aH w.heap.size w) (.cells #[.string a,.slice Y ni Z,.int .i64 room,.int .i64 clock,.slice d F ch,.slice A G I,.int .i64 dec] 40);go_enter func55,ntmps55;go_wp2_with fail;refine(J _ (a1.below a0)).mono ?_;rintro e w2 ⟨rfl,h2⟩;have a5:=aW a0 h2
 clear J h2 a0 a1 hX
 by_cases q:U<o+m
 ·have t1:decide ((o:Int)>D)=true:=aG (by have:=HD.out;omega);have a6:decide (D<(o:Int))=true:=t1;go_wp2_with fail;go_ret;obtain rfl:V=8:=HV.out.trans (aB q);exact⟨rfl,a5⟩
 ·have t1:decide ((o:Int)>D)=false:=aE (by have:=HD.out;omega);have a6:decide (D<(o:Int))=false:=t1;go_wp2_with fail;go_ret;obtain rfl:V=0:=HV.out.trans (aA q);exact⟨rfl,a5⟩
abbrev atV (n r:Nat):Value:=.agg #[.pointer (some ⟨n,0,none⟩),.int .i64 (r:Int)]
theorem bLb {w:World} {v:Value} {l:lC} (h:RdR w v l) {p:Addr} (d:v.ownBlock≠some p.block) (x:Value):RdR (w.setCell p x) v l:=by
 obtain⟨a,cap,rfl,A,D,F⟩:=h;refine⟨a,cap,rfl,A,D,F.imp id fun⟨b,off,e,G,I⟩=>⟨b,off,e,by rw[aL5];exact G,fun j J=>?_⟩⟩;subst e;rw[World.cell?_setCell_far w p ⟨b,off+j,none⟩ x (fun q=>d (congrArg some q.symm))];exact I j J
def RdZ (w:World) (Z:Nat) (v:Value) (l:lC):Prop:=RdR w v l/\∀b,v.ownBlock=some b->l.flatten=[]\/b<Z
theorem RdZ.below {w w':World} {Z:Nat} {v:Value} {l:lC} (h:RdZ w Z v l) (A:Below Z w w'):RdZ w' Z v l:=by
 obtain⟨⟨a,cap,rfl,F,G,d⟩,D⟩:=h;refine⟨⟨a,cap,rfl,F,G,?_⟩,D⟩;rcases d with d|⟨b,off,rfl,I,J⟩
 ·exact .inl d
 ·rcases D b rfl with e|e
  ·exact .inl e
  ·exact .inr ⟨b,off,rfl,fB I A.size,fun j L=>(A.cell (p:=⟨b,off+j,none⟩) e).trans (J j L)⟩
theorem RdZ.of {w:World} {v:Value} {l:lC} (h:RdR w v l):RdZ w w.heap.size v l:=⟨h,fun b d=>by
 obtain⟨a,cap,rfl,F,G,A|⟨I,off,rfl,D,J⟩⟩:=h
 ·exact .inl A
 ·injection d with e
  subst e;exact .inr D⟩
theorem RdZ.up {w:World} {Z d:Nat} {v:Value} {l:lC} (h:RdZ w Z v l) (A:Z<=d):RdZ w d v l:=⟨h.1,fun b e=>(h.2 b e).imp id (fun q=>by omega)⟩
structure DkM (w:World) (Z n g cap:Nat) (T:List Value) (a:ByteArray) (vi vh:Value) (room clock:Int) (P:List Prt) (H:List Hld) (Rs:List Rdr) (dec:Int):Prop where
 arr:Arr w n 40 [.string a,vi,.int .i64 room,.int .i64 clock,vh,.slice (some ⟨g,0,none⟩) Rs.length cap,.int .i64 dec]
 rds:Arr w g 116 ((Rs.map bK3).flatten++T)
 ri:RdZ w Z vi ((gU 0 P).map bG)
 rh:RdZ w Z vh (H.map mX)
 ng:n≠g
 ni:vi.ownBlock≠some g/\vi.ownBlock≠some n
 nh:vh.ownBlock≠some g/\vh.ownBlock≠some n
 cp:Rs.length<=cap/\cap<=maxLen
 zn:n<Z
 zg:g<Z
 zw:Z<=w.heap.size
section
variable {w w':World} {Z n g cap:Nat} {T:List Value} {a:ByteArray} {vi vh:Value} {room clock:Int} {P:List Prt} {H:List Hld} {Rs:List Rdr} {dec:Int}
theorem DkM.below (h:DkM w Z n g cap T a vi vh room clock P H Rs dec) (d:Below Z w w'):DkM w' Z n g cap T a vi vh room clock P H Rs dec:=
 ⟨h.arr.below d h.zn,h.rds.below d h.zg,h.ri.below d,h.rh.below d,h.ng,h.ni,h.nh,h.cp,h.zn,h.zg,aR h.zw d.size⟩
theorem DkM.up (h:DkM w Z n g cap T a vi vh room clock P H Rs dec) {e:Nat} (d:Z<=e) (A:e<=w.heap.size):DkM w e n g cap T a vi vh room clock P H Rs dec:=
 ⟨h.arr,h.rds,h.ri.up d,h.rh.up d,h.ng,h.ni,h.nh,h.cp,fB h.zn d,fB h.zg d,A⟩
theorem DkM.drew (h:DkM w Z n g cap T a vi vh room clock P H Rs dec):DkM w.drew Z n g cap T a vi vh room clock P H Rs dec:=h.below (aH _ _).drew
theorem bPf (y:Rdr):(bK3 y).length=7:=rfl
theorem bPg:∀{l:List Rdr} {k:Nat} {x x':Rdr} {j:Nat} {u:Value},l[k]? =some x->j<7->(bK3 x).set j u=bK3 x'->((l.map bK3).flatten).set (k*7+j) u=((l.set k x').map bK3).flatten
 |[],k,_,_,_,_,h,_,_=>by simp at h
 |y::l,0,x,x',j,u,h,d,e=>by grind [bPf]
 |y::l,k+1,x,x',j,u,h,d,e=>by
  have:=bPg (l:=l) (k:=k) (x:=x) (x':=x') (j:=j) (u:=u) (by simpa using h) d e
  grind [bPf]
theorem bRt (l:List Rdr):((l.map bK3).flatten).length=l.length*7:=by rw[FE (bL1 l),aS]
theorem DkM.cell (h:DkM w Z n g cap T a vi vh room clock P H Rs dec) {r:Nat} {y:Rdr} (d:Rs[r]? =some y) {j:Nat} {u:Value} (A:(bK3 y)[j]? =some u):w.cell? ⟨g,r*7+j,none⟩=some u:=by
 refine h.rds.cell ?_;have e:=FF (bL1 Rs) r j (bK3 y) u (by rw[List.getElem?_map,d];rfl) A;rw[List.getElem?_append_left (eF.1 e).1];exact e
theorem DkM.setR (h:DkM w Z n g cap T a vi vh room clock P H Rs dec) {r:Nat} {y:Rdr} (d:Rs[r]? =some y) {j:Nat} {u:Value} {y':Rdr} (A:j<7) (e:(bK3 y).set j u=bK3 y'):DkM (w.setCell ⟨g,r*7+j,none⟩ u) Z n g cap T a vi vh room clock P H (Rs.set r y') dec:=by
 have D:=(eF.1 d).1;refine⟨?_,?_,⟨bLb h.ri.1 h.ni.1 _,h.ri.2⟩,⟨bLb h.rh.1 h.nh.1 _,h.rh.2⟩,h.ng,h.ni,h.nh,by rw[nW];exact h.cp,h.zn,h.zg,by rw[aL5];exact h.zw⟩
 ·rw[nW];exact h.arr.other _ (fun q=>h.ng q.symm) _
 ·have q:=h.rds.set (r*7+j) u;rw[List.set_append_left _ _ (by rw[bRt];omega),bPg d A e] at q;exact q
theorem DkM.setD (h:DkM w Z n g cap T a vi vh room clock P H Rs dec) (d:Int):DkM (w.setCell ⟨n,6,none⟩ (.int .i64 d)) Z n g cap T a vi vh room clock P H Rs d:=
 ⟨h.arr.set 6 _,h.rds.other _ h.ng _,⟨bLb h.ri.1 h.ni.2 _,h.ri.2⟩,⟨bLb h.rh.1 h.nh.2 _,h.rh.2⟩,h.ng,h.ni,h.nh,h.cp,h.zn,h.zg,by rw[aL5];exact h.zw⟩
end
theorem bMz {w:World} {Z n g cap:Nat} {T:List Value} {a:ByteArray} {vi vh:Value} {room clock:Int} {P:List Prt} {H:List Hld} {Rs:List Rdr} {dec:Int} (h:DkM w Z n g cap T a vi vh room clock P H Rs dec) {r:Nat} (F:r<Rs.length):
  Calls pG 127 #[atV n r] w fun e w'=>e=.returned (.pointer (some ⟨g,r*7,none⟩))/\Below w.heap.size w w':=by
 have d:=Arr.new w 128 [.pointer (some ⟨n,0,none⟩),.int .i64 (r:Int)];change Arr (w.alloc (.cells #[.pointer (some ⟨n,0,none⟩),.int .i64 (r:Int)] 128)) _ _ _ at d;have A:=bD (aH w.heap.size w) (.cells #[.pointer (some ⟨n,0,none⟩),.int .i64 (r:Int)] 128);have D:=(h.below (A.mono h.zw)).arr;have G:=D.cell (i:=5) rfl;have I:=d.cell (i:=0) rfl;have J:=d.cell (i:=1) rfl;have L:(r:Int)<(Rs.length:Int):=by omega
 clear h;go_enter func127,ntmps127;go_wp2_with fail;generalize w.alloc (.cells #[.pointer (some ⟨n,0,none⟩),.int .i64 (r:Int)] 128)=M at*
 go_quiet (fail)
 go_wp2_with fail;go_ret;exact⟨rfl,below_drewN A _⟩
theorem bRu:(pG.info? 103).map (·.size)=some 5:=by kernel_rfl
theorem bPh {w:World} {Z n g cap:Nat} {T:List Value} {a:ByteArray} {vi vh:Value} {room clock:Int} {P:List Prt} {H:List Hld} {Rs:List Rdr} {dec:Int} (h:DkM w Z n g cap T a vi vh room clock P H Rs dec) {r:Nat} {y:Rdr} (hy:Rs[r]? =some y) {k:Nat} {p:Prt} (hk:y.blk=(k:Int)) (hp:P[k]? =some p) (c1:P.length<=2000):
  Calls pG 129 #[atV n r] w fun e w'=>e=.returned (.agg #[.int .i64 p.a,.int .i64 p.r,.int .i64 (ahB P k:Int),.int .i64 (p.t.size:Int),.int .u32 p.y])/\Below w.heap.size w w':=by
 have hr:=(eF.1 hy).1;have b5:k<(gU 0 P).length:=by rw[NK];exact(eF.1 hp).1
 obtain⟨ai,ci,b6,a3,b7,hA⟩:=nS h.ri.1;obtain⟨b,off,rfl,F,hc⟩:=hA (by omega);obtain⟨x0,x1,R,U,x4⟩:=hc k _ (bMo hp);dsimp only at x0 x1 R U x4;have cb:=h.cell hy (j:=3) rfl;rw[hk] at cb;have a4:=fun W (b:Below w.heap.size w W)=>bMz (h.below (b.mono h.zw)) hr
 have V:=h.arr;subst b6;obtain⟨N,a5⟩:=ex1 ((gU 0 P).length);rw[<-a5] at V b5 a3;obtain⟨A,a6⟩:=ex1 (ahB P k);rw[<-a6] at R ⊢;obtain⟨I,a7⟩:=ex1 (p.t.size);rw[<-a7] at U ⊢;have c2:(k:Int)<(N:Int):=by omega
 have cn:=V.cell (i:=1) rfl;have ln:=V.lt;have lg:=h.rds.lt;clear a6 a7 a5 hA hc b7 a3 hp hk hy h V;have J:=(Arr.new w 128 [.pointer (some ⟨n,0,none⟩),.int .i64 (r:Int)]).alloc (.cells #[.int .i64 0,.int .i64 0,.int .i64 0,.int .i64 0,.int .u32 0] 103);have L:=Arr.new (w.alloc (.cells #[.pointer (some ⟨n,0,none⟩),.int .i64 (r:Int)] 128)) 103 [.int .i64 0,.int .i64 0,.int .i64 0,.int .i64 0,.int .u32 0];rw[fP] at L
 change Arr ((w.alloc (.cells #[.pointer (some ⟨n,0,none⟩),.int .i64 (r:Int)] 128)).alloc (.cells #[.int .i64 0,.int .i64 0,.int .i64 0,.int .i64 0,.int .u32 0] 103)) _ _ _ at J L;have Y:=bD (bD (aH w.heap.size w) (.cells #[.pointer (some ⟨n,0,none⟩),.int .i64 (r:Int)] 128)) (.cells #[.int .i64 0,.int .i64 0,.int .i64 0,.int .i64 0,.int .u32 0] 103);go_enter func129,ntmps129;go_wp2_with fail;generalize (w.alloc (.cells #[.pointer (some ⟨n,0,none⟩),.int .i64 (r:Int)] 128)).alloc (.cells #[.int .i64 0,.int .i64 0,.int .i64 0,.int .i64 0,.int .u32 0] 103)=G at*
 obtain⟨z,hz⟩:=ex1 (w.heap.size);rw[<-hz] at J L Y ln lg F a4 ⊢;have HZ:=hid hz;clear hz
 have a0:∀w',Below (z+1) G w'->(fun d:World=>d.cell? ⟨z,0,none⟩=some (.pointer (some ⟨n,0,none⟩))/\d.cell? ⟨z,1,none⟩=some (.int .i64 (r:Int))/\d.cell? ⟨n,1,none⟩=some (.slice (some ⟨b,off,none⟩) N ci)/\d.cell? ⟨g,r*7+3,none⟩=some (.int .i64 (k:Int))/\d.cell? ⟨b,off+k*5,none⟩=some (.int .i64 p.a)/\d.cell? ⟨b,off+k*5+1,none⟩=some (.int .i64 p.r)/\d.cell? ⟨b,off+k*5+2,none⟩=some (.int .i64 (A:Int))/\d.cell? ⟨b,off+k*5+3,none⟩=some (.int .i64 (I:Int))/\d.cell? ⟨b,off+k*5+4,none⟩=some (.int .u32 p.y)) w':=fun w' hw=>by
  have k:=fun(q:Addr) (hq:q.block<z)=>(hw.cell (p:=q) (by omega)).trans (Y.cell (p:=q) hq)
  exact⟨(hw.cell (p:=⟨z,0,none⟩) (vK z)).trans (J.cell (i:=0) rfl),(hw.cell (p:=⟨z,1,none⟩) (vK z)).trans (J.cell (i:=1) rfl),(k _ ln).trans cn,(k _ lg).trans cb,(k _ F).trans x0,(k _ F).trans x1,(k _ F).trans R,(k _ F).trans U,(k _ F).trans x4⟩
 have a8:=a0 _ (aH _ _).drew;have M:Arr G.drew (z+1) 103 _:=L;have b1:Below z w G.drew:=Y.drew;have a9:Below (z+1) G G.drew:=(aH _ _).drew;clear J L Y cn cb x0 x1 R U x4
 refine wp_region_held_drew (S:=(fun d:World=>d.cell? ⟨z,0,none⟩=some (.pointer (some ⟨n,0,none⟩))/\d.cell? ⟨z,1,none⟩=some (.int .i64 (r:Int))/\d.cell? ⟨n,1,none⟩=some (.slice (some ⟨b,off,none⟩) N ci)/\d.cell? ⟨g,r*7+3,none⟩=some (.int .i64 (k:Int))/\d.cell? ⟨b,off+k*5,none⟩=some (.int .i64 p.a)/\d.cell? ⟨b,off+k*5+1,none⟩=some (.int .i64 p.r)/\d.cell? ⟨b,off+k*5+2,none⟩=some (.int .i64 (A:Int))/\d.cell? ⟨b,off+k*5+3,none⟩=some (.int .i64 (I:Int))/\d.cell? ⟨b,off+k*5+4,none⟩=some (.int .u32 p.y))) (by kernel_rfl) a8 (fun b0=>?_);generalize G.drew=w2 at*
 refine bKf [0,1,2,3,4,5] ?_
 iterate 6
  refine bKg (by simp only[gA,gH,gB];rfl) (by kernel_rfl) (by exact fun _ _ _ h=>h) (by first|exact Or.inr ⟨by rfl,rfl⟩|(refine Or.inl ⟨by rfl,?_⟩;intro w' a1;(try dsimp only at a1);(try go_simp);try with_reducible rfl)) b0 ?_
  try simp only[bJ,bK,bH,bB]
 refine dJ (i:=6) (by kernel_rfl) rfl (fun K O=>?_);go_simp;refine(a4 w2 (HZ.out▸b1)).mono ?_;rintro e w3 ⟨rfl,h3⟩;have a2:=a0 w3 (a9.trans (h3.mono (nG M.lt)));have D:=M.below h3 M.lt;have b3:=b1.trans (h3.mono (by have:=M.lt;omega));have b8:=a9.trans (h3.mono (nG M.lt))
 (try go_wp2_with fail)
 refine O.out _ _ a2 (fun _=>?_)
 try simp only[bJ,bK,bH,bB]
 clear O K;refine bKf [7,8,9,10,11] ?_
 iterate 5
  refine bKg (by simp only[gA,gH,gB];rfl) (by kernel_rfl) (by exact fun _ _ _ h=>h) (by first|exact Or.inr ⟨by rfl,rfl⟩|(refine Or.inl ⟨by rfl,?_⟩;intro w' a1;(try dsimp only at a1);(try go_simp);try with_reducible rfl)) a2 ?_
  try simp only[bJ,bK,bH,bB]
 have e0:=D.cell (i:=0) rfl;have e1:=D.cell (i:=1) rfl;have e2:=D.cell (i:=2) rfl;have e3:=D.cell (i:=3) rfl;have e4:=D.cell (i:=4) rfl;have f0:=D.free 0;have f1:=D.free 1;have f2:=D.free 2;have f3:=D.free 3;have f4:=D.free 4;have b9:=((((D.set 0 (.int .i64 p.a)).set 1 (.int .i64 p.r)).set 2 (.int .i64 (A:Int))).set 3 (.int .i64 (I:Int))).set 4 (.int .u32 p.y)
 have b4:=((((b3.setCell (p:=⟨z+1,0,none⟩) (tJ z) (.int .i64 p.a)).setCell (p:=⟨z+1,1,none⟩) (tJ z) (.int .i64 p.r)).setCell (p:=⟨z+1,2,none⟩) (tJ z) (.int .i64 (A:Int))).setCell (p:=⟨z+1,3,none⟩) (tJ z) (.int .i64 (I:Int))).setCell (p:=⟨z+1,4,none⟩) (tJ z) (.int .u32 p.y)
 have c0:=((((b8.setCell (p:=⟨z+1,0,none⟩) (aD _) (.int .i64 p.a)).setCell (p:=⟨z+1,1,none⟩) (aD _) (.int .i64 p.r)).setCell (p:=⟨z+1,2,none⟩) (aD _) (.int .i64 (A:Int))).setCell (p:=⟨z+1,3,none⟩) (aD _) (.int .i64 (I:Int))).setCell (p:=⟨z+1,4,none⟩) (aD _) (.int .u32 p.y);have b2:=a0 _ c0;refine dJ (i:=12) (by kernel_rfl) rfl (fun K O=>?_);go_simp;refine O.out _ _ b2 (fun _=>?_)
 try simp only[bJ,bK,bH,bB]
 clear O K;refine wpAnyH_done (by kernel_rfl) ?_ _;clear b0 a8 a2 b2;go_wp2_with fail;refine fM (DJ rfl _ _ (z+1) _ _ (0,0) _ rfl b9 underlying103 rfl bRu) rfl ⟨rfl,?_⟩;rw[<-HZ.out];exact b4
theorem bOd:(pG.info? 47).map (·.size)=some 2:=by kernel_rfl
theorem bMd {A:Func} {Q:Ending->World->Prop} {W:World} {a:Act} {z p q:Nat} {d e u:Value} (D:A.results=#[.tmp q,.cell p 47]) (F:Arr W z 47 [d,e]) (G:a.tmps.getD p undef=.pointer (some ⟨z,0,none⟩)) (I:a.tmps.getD q undef=u) (J:a.defers=[])
  (h:Q (.returned (.tuple #[u,.agg #[d,e]])) W):bodyPost pG A Q .ret a W:=by
 refine fM (v:=.tuple #[u,.agg #[d,e]]) ?_ J h;have L:a.tmps[p]?.getD undef=.pointer (some ⟨z,0,none⟩):=by simpa using G
 have M:a.tmps[q]?.getD undef=u:=by simpa using I
 simp[results,D,L,M,asAddr,run_loadVar_row W z _ _ _ (0,0) _ F underlying47 rfl bOd,Result.andThen]
section
variable {w w':World} {Z n g cap:Nat} {T:List Value} {a:ByteArray} {vi vh:Value} {room clock:Int} {P:List Prt} {H:List Hld} {Rs:List Rdr} {dec:Int}
theorem DkM.upd (h:DkM w Z n g cap T a vi vh room clock P H Rs dec) {r:Nat} {y y':Rdr} (d:Rs[r]? =some y) (A:DkM w' Z n g cap T a vi vh room clock P H (Rs.set r y') dec) {j:Nat} {u:Value} {y2:Rdr} (D:j<7) (e:(bK3 y').set j u=bK3 y2):DkM (w'.setCell ⟨g,r*7+j,none⟩ u) Z n g cap T a vi vh room clock P H (Rs.set r y2) dec:=by
 have q:=A.setR (r:=r) (y:=y') (List.getElem?_set_self (eF.1 d).1) D e;rw[List.set_set] at q;exact q
structure bK6 (w w':World) (g n:Nat):Prop where
 size:w.heap.size<=w'.heap.size
 same:∀b,b<w.heap.size->b≠g->b≠n->w'.heap[b]? =w.heap[b]?
theorem bK6.of (g n:Nat) (h:Below w.heap.size w w'):bK6 w w' g n:=⟨h.size,fun b d _ _=>h.block b d⟩
theorem bK6.trans {d:World} (h:bK6 w w' g n) (k:bK6 w' d g n):bK6 w d g n:=⟨aR h.size k.size,fun b e A D=>(k.same b (fB e h.size) A D).trans (h.same b e A D)⟩
theorem bK6.bel {d:World} (h:bK6 w w' g n) (k:Below w'.heap.size w' d):bK6 w d g n:=h.trans (.of g n k)
theorem bK6.put (h:bK6 w w' g n) (p:Addr) (d:p.block=g\/p.block=n\/w.heap.size<=p.block) (v:Value):bK6 w (w'.setCell p v) g n:=
 ⟨by rw[aL5];exact h.size,fun b e A D=>(heap_setCell_other w' p b v (by rcases d with q|q|q<;>omega)).trans (h.same b e A D)⟩
theorem bK6.drew (h:bK6 w w' g n):bK6 w w'.drew g n:=⟨h.size,h.same⟩
theorem bK6.drewN (h:bK6 w w' g n) (k:Nat):bK6 w (w'.drewN k) g n:=⟨h.size,h.same⟩
theorem bK6.arr {b e:Nat} {l:List Value} (h:bK6 w w' g n) (k:Arr w b e l) (d:b≠g) (A:b≠n):Arr w' b e l:=(h.same b k.lt d A).trans k
def bMr (w:World) (g r:Nat) (s o m b l:Int) (d e:ByteArray):World:=((((((w.setCell ⟨g,r*7,none⟩ (.int .i64 s)).setCell ⟨g,r*7+1,none⟩ (.int .i64 o)).setCell ⟨g,r*7+2,none⟩ (.int .i64 m)).setCell ⟨g,r*7+3,none⟩ (.int .i64 b)).setCell ⟨g,r*7+4,none⟩ (.int .i64 l)).setCell ⟨g,r*7+5,none⟩ (.string d)).setCell ⟨g,r*7+6,none⟩ (.string e)
theorem DkM.putR (h:DkM w Z n g cap T a vi vh room clock P H Rs dec) {r:Nat} {y:Rdr} (d:Rs[r]? =some y) (s o m b l:Int) (e A:ByteArray):DkM (bMr w g r s o m b l e A) Z n g cap T a vi vh room clock P H (Rs.set r ⟨s,o,m,b,l,e,A⟩) dec:=by
 have D:=h.setR d (j:=0) (u:=.int .i64 s) (y':=⟨s,y.off,y.n,y.blk,y.last,y.got,y.text⟩) (by decide) rfl;have F:=h.upd d D (j:=1) (u:=.int .i64 o) (y2:=⟨s,o,y.n,y.blk,y.last,y.got,y.text⟩) (by decide) rfl;have G:=h.upd d F (j:=2) (u:=.int .i64 m) (y2:=⟨s,o,m,y.blk,y.last,y.got,y.text⟩) (by decide) rfl;have I:=h.upd d G (j:=3) (u:=.int .i64 b) (y2:=⟨s,o,m,b,y.last,y.got,y.text⟩) (by decide) rfl;have J:=h.upd d I (j:=4) (u:=.int .i64 l) (y2:=⟨s,o,m,b,l,y.got,y.text⟩) (by decide) rfl;have L:=h.upd d J (j:=5) (u:=.string e) (y2:=⟨s,o,m,b,l,e,y.text⟩) (by decide) rfl
 exact h.upd d L (j:=6) (u:=.string A) (y2:=⟨s,o,m,b,l,e,A⟩) (by decide) rfl
theorem bRv {B:Nat} {w0:World} (h:Below B w0 w) (d:B<=g) (r:Nat) (s o m b l:Int) (e A:ByteArray):Below B w0 (bMr w g r s o m b l e A):=
 ((((((h.setCell (p:=⟨g,r*7,none⟩) d _).setCell (p:=⟨g,r*7+1,none⟩) d _).setCell (p:=⟨g,r*7+2,none⟩) d _).setCell (p:=⟨g,r*7+3,none⟩) d _).setCell (p:=⟨g,r*7+4,none⟩) d _).setCell (p:=⟨g,r*7+5,none⟩) d _).setCell (p:=⟨g,r*7+6,none⟩) d _
theorem bPi {q e:Nat} {A:List Value} (h:Arr w q e A) (d:g≠q) (r:Nat) (s o m b l:Int) (D F:ByteArray):Arr (bMr w g r s o m b l D F) q e A:=
 ((((((h.other ⟨g,r*7,none⟩ d _).other ⟨g,r*7+1,none⟩ d _).other ⟨g,r*7+2,none⟩ d _).other ⟨g,r*7+3,none⟩ d _).other ⟨g,r*7+4,none⟩ d _).other ⟨g,r*7+5,none⟩ d _).other ⟨g,r*7+6,none⟩ d _
theorem bRw (h:bK6 w w' g n) (r:Nat) (s o m b l:Int) (d e:ByteArray):bK6 w (bMr w' g r s o m b l d e) g n:=
 ((((((h.put ⟨g,r*7,none⟩ (.inl rfl) _).put ⟨g,r*7+1,none⟩ (.inl rfl) _).put ⟨g,r*7+2,none⟩ (.inl rfl) _).put ⟨g,r*7+3,none⟩ (.inl rfl) _).put ⟨g,r*7+4,none⟩ (.inl rfl) _).put ⟨g,r*7+5,none⟩ (.inl rfl) _).put ⟨g,r*7+6,none⟩ (.inl rfl) _
end
theorem bRx {w:World} {Z n g cap:Nat} {T:List Value} {a:ByteArray} {vi vh:Value} {room clock:Int} {P:List Prt} {H:List Hld} {Rs:List Rdr} {dec:Int} (h:DkM w Z n g cap T a vi vh room clock P H Rs dec) {r:Nat} {y:Rdr} (A:Rs[r]? =some y) {c:Int} (hc:c=0\/c=8) {B:Nat} (hB:B<=g):
  Calls pG 131 #[atV n r,.int .i64 c] w fun e w'=>e=.returned (.tuple #[.bool true,.agg #[.string y.got,.int .i64 c]])/\DkM w' Z n g cap T a vi vh room clock P H (Rs.set r bK8) dec/\Below B w w'/\bK6 w w' g n:=by
 have hr:=(eF.1 A).1;have V:=fun W (k:DkM W Z n g cap T a vi vh room clock P H Rs dec)=>bMz k hr
 have lg:=h.rds.lt;have D:Below w.heap.size w (((w.alloc (.cells #[.pointer (some ⟨n,0,none⟩),.int .i64 (r:Int)] 128)).alloc (.cells #[.string ⟨#[]⟩,.int .i64 0] 47)).alloc (.cells #[.string ⟨#[]⟩,.int .i64 c] 47)):=bD (bD (bD (aH w.heap.size w) _) _) _;have F:=((Arr.new w 128 [.pointer (some ⟨n,0,none⟩),.int .i64 (r:Int)]).alloc (.cells #[.string ⟨#[]⟩,.int .i64 0] 47)).alloc (.cells #[.string ⟨#[]⟩,.int .i64 c] 47)
 have J:=(Arr.new (w.alloc (.cells #[.pointer (some ⟨n,0,none⟩),.int .i64 (r:Int)] 128)) 47 [.string ⟨#[]⟩,.int .i64 0]).alloc (.cells #[.string ⟨#[]⟩,.int .i64 c] 47);have L:=Arr.new ((w.alloc (.cells #[.pointer (some ⟨n,0,none⟩),.int .i64 (r:Int)] 128)).alloc (.cells #[.string ⟨#[]⟩,.int .i64 0] 47)) 47 [.string ⟨#[]⟩,.int .i64 c];rw[fP] at J;rw[fP,fP] at L;change Arr (((w.alloc (.cells #[.pointer (some ⟨n,0,none⟩),.int .i64 (r:Int)] 128)).alloc (.cells #[.string ⟨#[]⟩,.int .i64 0] 47)).alloc (.cells #[.string ⟨#[]⟩,.int .i64 c] 47)) _ _ _ at F J L
 have a3:=bK6.of g n D;have D:=D.mono h.zw;have bB:=D.mono (nG (Nat.lt_of_le_of_lt hB h.zg));have zw:=h.zw;have R:=fun W=>h.below (w':=W)
 have c3:=h.zg;generalize a4:((w.alloc (.cells #[.pointer (some ⟨n,0,none⟩),.int .i64 (r:Int)] 128)).alloc (.cells #[.string ⟨#[]⟩,.int .i64 0] 47)).alloc (.cells #[.string ⟨#[]⟩,.int .i64 c] 47)=w1 at*
 have a5:=hid a4;clear a4;rcases hc with rfl|rfl
 all_goals
  go_enter func131,ntmps131;go_wp2_with fail;rw[a5.out];obtain⟨z,Y⟩:=ex1 (w.heap.size);rw[<-Y] at F J L lg zw ⊢;have HZ:=hid Y;clear Y h a5;refine(V _ (R _ D)).mono ?_;rintro e w2 ⟨rfl,G⟩;have a6:=a3.bel G;have b2:=D.trans (G.mono (by have:=F.lt;omega));have a7:=bB.trans (G.mono (by have:=F.lt;omega));have a0:=F.below G F.lt;have a8:=J.below G J.lt;have M:=L.below G L.lt;have cg:=(R _ b2).cell A (j:=5) rfl;have o0:=M.cell (i:=0) rfl;have o1:=M.cell (i:=1) rfl;have fo:=M.free 0;have x0:=a0.cell (i:=0) rfl;have x1:=a0.cell (i:=1) rfl;have lo:=M.lt;clear F J L G bB D a3;go_wp2_with fail
  have a9:=a6.put ⟨z+1+1,0,none⟩ (.inr (.inr (by rw[<-HZ.out];show z<=z+1+1;omega))) (.string y.got);have b3:=b2.setCell (p:=⟨z+1+1,0,none⟩) (by show Z<=z+1+1;omega) (.string y.got);have b1:=a7.setCell (p:=⟨z+1+1,0,none⟩) (by show B<=z+1+1;omega) (.string y.got);have U:=a8.other ⟨z+1+1,0,none⟩ (by show z+1+1≠z+1;omega) (.string y.got);have a1:=M.set 0 (.string y.got);clear cg o0 o1 fo x0 x1 lo a0 a8 M b2 a7 a6;generalize w2.setCell ⟨z+1+1,0,none⟩ (.string y.got)=w3 at*
  refine(V _ (R _ b3)).mono ?_;rintro e w4 ⟨rfl,O⟩;have b5:=a9.bel O;have b4:=b3.trans (O.mono (by have:=U.lt;omega));have b6:=b1.trans (O.mono (by have:=U.lt;omega));have b7:=U.below O U.lt;have b8:=a1.below O a1.lt;have d:=R _ b4;have k0:w4.cell? ⟨g,r*7,none⟩=_:=d.cell A (j:=0) rfl;have k1:=d.cell A (j:=1) rfl;have k2:=d.cell A (j:=2) rfl;have k3:=d.cell A (j:=3) rfl;have k4:=d.cell A (j:=4) rfl;have k5:=d.cell A (j:=5) rfl;have k6:=d.cell A (j:=6) rfl;have q0:=d.rds.free (r*7);have q1:=d.rds.free (r*7+1);have q2:=d.rds.free (r*7+2);have q3:=d.rds.free (r*7+3);have q4:=d.rds.free (r*7+4)
  have q5:=d.rds.free (r*7+5);have q6:=d.rds.free (r*7+6);have c2:=d.rds.lt;clear U a1 O b3 b1 a9;go_wp2_with fail;have b9:=d.putR A 0 0 0 0 0 ⟨#[]⟩ ⟨#[]⟩;have c0:=bRw b5 r 0 0 0 0 0 ⟨#[]⟩ ⟨#[]⟩;have c1:=bRv b6 hB r 0 0 0 0 0 ⟨#[]⟩ ⟨#[]⟩;have I:=bPi b7 (show g≠z+1 by omega) r 0 0 0 0 0 ⟨#[]⟩ ⟨#[]⟩;have a2:=bPi b8 (show g≠z+1+1 by omega) r 0 0 0 0 0 ⟨#[]⟩ ⟨#[]⟩;clear k0 k1 k2 k3 k4 k5 k6 q0 q1 q2 q3 q4 q5 q6 c2 d b6 b4 b7 b8 V R b5;unfold bMr at b9 c1 I a2 c0
  generalize ((((((w4.setCell ⟨g,r*7,none⟩ (.int .i64 0)).setCell ⟨g,r*7+1,none⟩ (.int .i64 0)).setCell ⟨g,r*7+2,none⟩ (.int .i64 0)).setCell ⟨g,r*7+3,none⟩ (.int .i64 0)).setCell ⟨g,r*7+4,none⟩ (.int .i64 0)).setCell ⟨g,r*7+5,none⟩ (.string ⟨#[]⟩)).setCell ⟨g,r*7+6,none⟩ (.string ⟨#[]⟩)=w5 at*
  have e0:=I.cell (i:=0) rfl;have e1:=I.cell (i:=1) rfl;have f0:=I.free 0;have f1:=I.free 1;have c4:=I.lt;have o0:=a2.cell (i:=0) rfl;have o1:=a2.cell (i:=1) rfl
  go_region
  go_wp2_with fail;exact bMd rfl ((I.set 0 _).set 1 _) rfl rfl rfl ⟨rfl,(b9.below (((aH Z w5).setCell (p:=⟨z+1,0,none⟩) (by show Z<=z+1;omega) _).setCell (p:=⟨z+1,1,none⟩) (by show Z<=z+1;omega) _)).drew,((c1.setCell (p:=⟨z+1,0,none⟩) (by show B<=z+1;omega) _).setCell (p:=⟨z+1,1,none⟩) (by show B<=z+1;omega) _).drew,((c0.put ⟨z+1,0,none⟩ (.inr (.inr (by rw[<-HZ.out];show z<=z+1;omega))) _).put ⟨z+1,1,none⟩ (.inr (.inr (by rw[<-HZ.out];show z<=z+1;omega))) _).drew⟩
end Go.Proofs.YtfckbfofgeilgaaGreatDoor
