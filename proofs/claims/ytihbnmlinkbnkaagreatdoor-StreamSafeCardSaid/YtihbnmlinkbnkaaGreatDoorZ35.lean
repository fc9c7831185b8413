/-
  Texts put together (part 35): the walks and the plain laws on which the statement stands.
-/
import Derived.ProofKit
import Derived.OpenShut
import Derived.ShutString
import Derived.ChangeOld
import Derived.ChangeVars
import Derived.JoinedOf
import Derived.LaidLaws
import Derived.LaidHandle
import Derived.Stop.Joined
import Derived.Deep.Slices
import Derived.Lib.SmallJoins
import Derived.SizedLaws
import Derived.Test.YtihbnmlinkbnkaaGreatDoorZ32
set_option maxRecDepth 100000
set_option maxHeartbeats 12800000
set_option linter.unusedVariables false
set_option linter.unusedSimpArgs false
open Go.Proofs.Tryz
open Go.Proofs.Tryz renaming prog->pG
open Decidable renaming not_not->eB
open Go renaming callsD_of_wpS->OT
open Go.Act renaming put->bJ
open Go.Addr renaming add->gP
open Go.DataW renaming trod->bHw,trod_int->bH2
open Go.Exit renaming thenS->OV
open Go.Instr renaming typeAssert->tZ
open Go.RowKit.Below renaming refl->aH
open Go.World renaming cell?_setCell_other->lI
open List renaming mem_singleton->cP,range->eT,setIfInBounds_toArray->bK,set_cons_succ->bB,set_cons_zero->bH,singleton_inj->bH3
open Nat renaming le_refl->aD,lt_of_lt_of_le->fB
open Option.some renaming inj->cC,injEq->lJ
namespace Go.Proofs.YtihbnmlinkbnkaaGreatDoor
section
open Go.RowKit Go Go.Shelf
theorem MV (t:ByteArray) (l:List ByteArray):fN (t::l)=eJ t++fN l:=rfl
theorem bBs (x y:List ByteArray):fN (x++y)=fN x++fN y:=by unfold fN;simp
theorem bBt {l:List ByteArray} {i:Nat} {t:ByteArray} (h:l[i]? =some t):fN (l.take (i+1))=fN (l.take i)++eJ t:=by grind [List.take_add_one,fN,bBs,MV,eJ]
theorem bCl (p q:Addr) (w:World):
  CallsD pG 75 #[.pointer (some p),.pointer (some q)] .returning w fun e d w'=>e=.returned (.tuple #[])/\d=.returning/\w'=w:=by
 refine OT func75 rfl fun A G F=>?_
 apply wpS_seq;apply wpS_region;simp[wpOpsS,go_sem,recoverD,F,ntmps75,OV];refine wpS_of_wp ?_;go_wp2
 cases A
 simp_all [bodyPostS,results,f75]
theorem bCm (v:Value) (d:TypeId) (w:World):(tZ (.iface 120 v) d 120 true).run pG w=.ok (.tuple #[v,.bool true]) w:=by
 simp[tZ,run_underlying underlying120]
theorem aIz {w W:World} {z:Nat} {I J L M O:Value} (U:Arr W z 46 [I,J,L,M]) (V:Arr W (z+1) 29 [O]) (Z:Below z w W) (A F G H d:Value):
  Arr (((((W.setCell ⟨z,0,none⟩ A).setCell ⟨z,1,none⟩ F).setCell ⟨z,2,none⟩ G).setCell ⟨z,3,none⟩ H).setCell ⟨z+1,0,none⟩ d) z 46 [A,F,G,H]/\
  Arr (((((W.setCell ⟨z,0,none⟩ A).setCell ⟨z,1,none⟩ F).setCell ⟨z,2,none⟩ G).setCell ⟨z,3,none⟩ H).setCell ⟨z+1,0,none⟩ d) (z+1) 29 [d]/\
  Below z w (((((W.setCell ⟨z,0,none⟩ A).setCell ⟨z,1,none⟩ F).setCell ⟨z,2,none⟩ G).setCell ⟨z,3,none⟩ H).setCell ⟨z+1,0,none⟩ d):=by
 obtain⟨h1,h2⟩:=tA U Z A F G H;have a1:(z+1)≠z:=by omega
 have a0:=(((V.other ⟨z,0,none⟩ (by simp) A).other ⟨z,1,none⟩ (by simp) F).other ⟨z,2,none⟩ (by simp) G).other ⟨z,3,none⟩ (by simp) H;exact⟨h1.other ⟨z+1,0,none⟩ (by simp) d,a0.set 0 d,h2.setCell (p:=⟨z+1,0,none⟩) (Nat.le_succ _) d⟩
theorem bCn {P:Program} {F:Func} {p q:Tmp} {G H:TypeId} (h:F.results=#[.cell p G,.cell q H]) (tmps:Array Value) (w:World) (d A:Addr) (I J:Value)
  (L:tmps.getD p undef=.pointer (some d)) (M:tmps.getD q undef=.pointer (some A))
  (O:(loadVar G d).run P w=.ok I w) (U:(loadVar H A).run P w=.ok J w):
  (results F tmps).run P w=.ok (.tuple #[I,J]) w:=by
 have V:tmps[p]?.getD undef=.pointer (some d):=by simpa using L
 have Z:tmps[q]?.getD undef=.pointer (some A):=by simpa using M
 simp[results,h,V,Z,asAddr,O,U,Result.andThen]
theorem NB {W:World} {z:Nat} {d A F G u:Value} {tmps:Array Value} (H:Arr W z 46 [d,A,F,G]) (I:Arr W (z+1) 29 [u]) (_hu:u.oneCell'=true)
  (J:tmps.getD 6 undef=.pointer (some ⟨z,0,none⟩)) (L:tmps.getD 7 undef=.pointer (some ⟨z+1,0,none⟩)):
  (results f49 tmps).run pG W=.ok (.tuple #[.agg #[d,A,F,G],u]) W:=by
 have M:=I.cell (i:=0) rfl;exact bCn rfl tmps W ⟨z,0,none⟩ ⟨z+1,0,none⟩ _ _ J L (run_loadVar_row W z 46 46 _ (0,0) _ H underlying46 rfl aH2) (by simp[go_sem,M])
theorem bCo (z:Nat) (E:Int) (H:List PanicEntry) (w:World) (V Z y2 y3 x7:Value) (g6:Arr w z 46 [V,Z,y2,y3]) (I:Arr w (z+1) 29 [x7]):
  CallsD pG 75 #[.pointer (some ⟨z,0,none⟩),.pointer (some ⟨z+1,0,none⟩)] (.panicking ({v:=.iface 120 (.agg #[.int .i64 E]),recovered:=false}::H)) w fun e u' w'=>
   e=.returned (.tuple #[])/\u'=.panicking ({v:=.iface 120 (.agg #[.int .i64 E]),recovered:=true}::H)/\Arr w' z 46 [.string ⟨#[]⟩,.int .u32 0,.int .i64 0,.int .i64 0]/\Arr w' (z+1) 29 [.int .i64 E]/\Below z w w':=by
 refine OT func75 rfl fun c₀ cs hu=>?_
 apply wpS_seq;apply wpS_region;simp[wpOpsS,go_sem,recoverD,hu,ntmps75,OV];refine wpS_of_wp ?_;simp only[Array.replicate_succ,Array.replicate_zero,List.push_toArray,List.append_toArray,List.nil_append,List.cons_append,bK,bH,bB];have a8:=bCm (.agg #[.int .i64 E]);go_wp2_with fail;have a0:=g6.alloc (.cells #[.int .i64 E] 120);have a1:=I.alloc (.cells #[.int .i64 E] 120);have G:=bX w (.int .i64 E) 120;have a5:=I.lt;have a2:Below z w (w.alloc (.cells #[.int .i64 E] 120)):=(aH z w).alloc (by omega) _
 generalize w.alloc (.cells #[.int .i64 E] 120)=w1 at*
 obtain⟨A,a3⟩:∃A,A=w.heap.size:=⟨_,rfl⟩;rw[<-a3] at G a5 ⊢;clear a3 g6 I;have J:=a2.drew;have d:Arr w1.drew z 46 [V,Z,y2,y3]:=a0;have L:Arr w1.drew (z+1) 29 [x7]:=a1;have M:w1.drew.cell? ⟨A,0,none⟩=some (.int .i64 E):=G;refine wp_region_held_drew (S:=fun w'=>w'.cell? ⟨A,0,none⟩=some (.int .i64 E)) (by kernel_rfl) G (fun a9=>?_);generalize w1.drew=w2 at*
 obtain⟨k6,a6⟩:=tA d J (.string ⟨#[]⟩) (.int .u32 0) (.int .i64 0) (.int .i64 0);obtain⟨q6,q7,qb⟩:=aIz d L J (.string ⟨#[]⟩) (.int .u32 0) (.int .i64 0) (.int .i64 0) (.int .i64 E);have O:=(((L.other ⟨z,0,none⟩ (by simp) (.string ⟨#[]⟩)).other ⟨z,1,none⟩ (by simp) (.int .u32 0)).other ⟨z,2,none⟩ (by simp) (.int .i64 0)).other ⟨z,3,none⟩ (by simp) (.int .i64 0);have d0:=d.cell (i:=0) rfl;have d1:=d.cell (i:=1) rfl;have d2:=d.cell (i:=2) rfl;have d3:=d.cell (i:=3) rfl;have f0:=d.free 0;have f1:=d.free 1;have f2:=d.free 2;have f3:=d.free 3;have e7:=O.cell (i:=0) rfl;have f7:=O.free 0
 have U:((((w2.setCell ⟨z,0,none⟩ (.string ⟨#[]⟩)).setCell ⟨z,1,none⟩ (.int .u32 0)).setCell ⟨z,2,none⟩ (.int .i64 0)).setCell ⟨z,3,none⟩ (.int .i64 0)).cell? ⟨A,0,none⟩=some (.int .i64 E):=by
  rw[lI _ _ _ _ (xY (by omega)),lI _ _ _ _ (xY (by omega)),lI _ _ _ _ (xY (by omega)),lI _ _ _ _ (xY (by omega))];exact M
 have a4:(((((w2.setCell ⟨z,0,none⟩ (.string ⟨#[]⟩)).setCell ⟨z,1,none⟩ (.int .u32 0)).setCell ⟨z,2,none⟩ (.int .i64 0)).setCell ⟨z,3,none⟩ (.int .i64 0)).setCell ⟨z+1,0,none⟩ (.int .i64 E)).cell? ⟨A,0,none⟩=some (.int .i64 E):=by rw[lI _ _ _ _ (xY (by omega))];exact U
 clear a0 a1 G a2 J d L k6 a6 O
 iterate 2
  refine fV 1 0 (by simp only[List.size_toArray,List.length_cons,List.length_nil,Nat.reduceAdd,Nat.reduceSub]<;>rfl) (by simp only[List.getElem?_toArray,List.getElem?_cons_succ,List.getElem?_cons_zero];rfl) (by kernel_rfl) (by exact fun _ _ _ h=>h) (by first|exact Or.inr ⟨by rfl,rfl⟩|(refine Or.inl ⟨by rfl,?_⟩;intro w' a7;(try dsimp only at a7);(try go_simp);try with_reducible rfl)) M ?_
  try simp only[bJ,bK,bH,bB]
 refine dJ (i:=0) (by kernel_rfl) rfl (fun K F=>?_);go_simp;refine F.out _ _ ?_ (fun _=>?_)
 ·exact M
 try simp only[bJ,bK,bH,bB]
 refine dJ (i:=3) (by kernel_rfl) rfl (fun K F=>?_);go_simp;refine F.out _ _ ?_ (fun _=>?_)
 ·first|with_reducible exact U|with_reducible exact a4
 try simp only[bJ,bK,bH,bB]
 refine dJ (i:=4) (by kernel_rfl) rfl (fun K F=>?_);go_simp;refine F.out _ _ ?_ (fun _=>?_)
 ·first|with_reducible exact U|with_reducible exact a4
 try simp only[bJ,bK,bH,bB]
 refine wpAnyH_done (by kernel_rfl) ?_ _;go_wp2_with fail;refine⟨rfl,.panicking ({v:=.iface 120 (.agg #[.int .i64 E]),recovered:=true}::H),?_,.tuple #[],?_,rfl,rfl,q6,q7,qb⟩
 ·rfl
 ·exact results_none rfl _ _ _
theorem aI0 {w W:World} {s:List UInt8} {a room:Int} {z:Nat} {E:Int} {tmps:Array Value} {d A F G H:Value} (h:cO s a room=(dN,0,0,E)) (I:E≠0) (J:w.heap.size=z)
  (L:Arr W z 46 [d,A,F,G]) (M:Arr W (z+1) 29 [H]) (O:Below z w W)
  (U:tmps.getD 6 undef=.pointer (some ⟨z,0,none⟩)) (V:tmps.getD 7 undef=.pointer (some ⟨z+1,0,none⟩)):
  Leaves pG f49 tmps (fun e w'=>FZ w w' s a room e) [{target:=.fn (.func 75) #[.pointer (some ⟨z,0,none⟩),.pointer (some ⟨z+1,0,none⟩)],args:=#[]}] (.panicking (rS E)) W:=by
 refine leaves_cons (f:=75) (args:=#[.pointer (some ⟨z,0,none⟩),.pointer (some ⟨z+1,0,none⟩)]) (by simp) (by simp[go_sem]) ?_;refine(bCo z E [] W d A F G H L M).mono ?_;rintro e u' w' ⟨rfl,rfl,Z,h7,a0⟩;exact⟨_,NB Z h7 rfl U V,qI h I (J▸O.trans a0)⟩
theorem aI1 (w:World) (v:Value):∀W,W=(w.alloc (.cells #[.string ⟨#[]⟩,.int .u32 0,.int .i64 0,.int .i64 0] 46)).alloc (.cells #[v] 29)->
  (Arr W w.heap.size 46 [.string ⟨#[]⟩,.int .u32 0,.int .i64 0,.int .i64 0]/\Arr W (w.heap.size+1) 29 [v])/\Below w.heap.size w W/\W.heap.size=w.heap.size+1+1:=by
 rintro W rfl;have A:=Arr.new w 46 [.string ⟨#[]⟩,.int .u32 0,.int .i64 0,.int .i64 0];have d:=Arr.new (w.alloc (.cells #[.string ⟨#[]⟩,.int .u32 0,.int .i64 0,.int .i64 0] 46)) 29 [v];have e:∀(W:World) (o:Obj),(W.alloc o).heap.size=W.heap.size+1:=fun W o=>by simp
 rw[e] at d;refine⟨⟨A.alloc _,d⟩,?_,by simp⟩;exact((aH _ w).alloc (aD _) _).alloc (by simp) _
theorem bCp (s:ByteArray) (a room:Int) (w:World) (hE:dU w) (hs:s.size<=120000) (b4: -9223372036854775808<=a) (b5:a<=9223372036854775807) (b6: -9223372036854775808<=room) (b7:room<=9223372036854775807):
  Calls pG 49 #[.string s,.int .i64 a,.int .i64 room] w fun e w'=>FZ w w' s.data.toList a room e:=by
 have b8:∀(fn:Fn) (first cap:Array Value) (w:World),(Instr.makeFunc fn first cap).run pG w=.ok (.func fn first cap) w:=fun _ _ _ _=>rfl
 obtain⟨⟨d,F⟩,a0,a1⟩:=aI1 w (.int .i64 0) _ rfl;have hd:=UJ s.data.toList a room;have J:=fun W=>aGo room W
 by_cases b2:a<0\/room<1\/360<room
 ·rw[aB b2] at hd;have I:=hid hd;clear hd;obtain⟨⟨q6,q7⟩,qb,-⟩:=aI1 w (.int .i64 1) _ rfl;clear d F a0 a1
  by_cases h1:a<0
  ·have u1:decide (a<0)=true:=aG h1
   go_enter_defers func49,ntmps49
   go_wp2_with fail;exact⟨_,NB q6 q7 rfl rfl rfl,qI I.out (by decide) qb⟩
  have u1:decide (a<0)=false:=aE h1;have a2:(decide (1<=room)&&decide (room<=360))=false:=by
   rw[Bool.and_eq_false_iff,decide_eq_false_iff_not,decide_eq_false_iff_not];omega
  rw[a2] at J
  go_enter_defers func49,ntmps49
  go_wp2_with fail;refine(J _).mono ?_;rintro e w' ⟨rfl,rfl⟩;go_wp2_with fail;exact⟨_,NB q6 q7 rfl rfl rfl,qI I.out (by decide) qb⟩
 obtain⟨A,rfl⟩:∃A:Nat,a=(A:Int):=⟨a.toNat,by omega⟩;obtain⟨R,rfl⟩:∃R:Nat,room=(R:Int):=⟨room.toNat,by omega⟩;have u1:decide ((A:Int)<0)=false:=aE (by omega);have a2:(decide (1<=(R:Int))&&decide ((R:Int)<=360))=true:=by
  rw[Bool.and_eq_true,decide_eq_true_eq,decide_eq_true_eq];omega
 rw[a2] at J;clear hd a2
 go_enter_defers func49,ntmps49
 go_wp2_with fail;refine(J _).mono ?_;rintro e w' ⟨rfl,rfl⟩;generalize (w.alloc (.cells #[.string ⟨#[]⟩,.int .u32 0,.int .i64 0,.int .i64 0] 46)).alloc (.cells #[.int .i64 0] 29)=w0 at*
 obtain⟨z,hz⟩:∃z,w.heap.size=z:=⟨_,rfl⟩;rw[hz] at d F a0 a1 ⊢;have HZ:=hid hz;clear hz J;go_wp2_with fail;have a3:BRd (w0.alloc (.cells #[.string s,.int .i64 (A:Int),.slice none 0 0,.slice none 0 0,.int .i64 0] 125)) w0.heap.size s A (.slice none 0 0) (.slice none 0 0) (.int .i64 0):=Arr.new w0 125 [.string s,.int .i64 (A:Int),.slice none 0 0,.slice none 0 0,.int .i64 0];have d:=d.alloc (.cells #[.string s,.int .i64 (A:Int),.slice none 0 0,.slice none 0 0,.int .i64 0] 125);have F:=F.alloc (.cells #[.string s,.int .i64 (A:Int),.slice none 0 0,.slice none 0 0,.int .i64 0] 125)
 have a4:=a0.alloc (o:=.cells #[.string s,.int .i64 (A:Int),.slice none 0 0,.slice none 0 0,.int .i64 0] 125) (by omega);rw[a1] at a3;generalize w0.alloc (.cells #[.string s,.int .i64 (A:Int),.slice none 0 0,.slice none 0 0,.int .i64 0] 125)=w1 at*
 have a9:z+1+1<w1.heap.size:=Arr.lt a3;clear a0 a1;refine(bCk (z+1+1) s A R w1 a3 hs (by omega) (by omega) (by omega) (fun W hW=>hE.below (by rw[HZ.out];exact a4.grown hW (by omega) (fun k L=>by obtain rfl:=cC L;omega)))).mono ?_;rintro e w2 (⟨E,b3,hF,rfl,H⟩|⟨O,V,p,vt,vc,co,rfl,a7,H,G,b9,hV⟩)
 ·have d:=d.grown H (by simp only[ne_eq,lJ];omega);have F:=F.grown H (by simp only[ne_eq,lJ];omega);have a5:=a4.grown H (by omega) (fun k L=>by obtain rfl:=cC L;omega);have I:=hid hF;clear hF;go_wp2_with fail;exact aI0 I.out b3 HZ.out d F a5 rfl rfl
 have d:=d.grown H (by simp only[ne_eq,lJ];omega);have F:=F.grown H (by simp only[ne_eq,lJ];omega);have a5:=a4.grown H (by omega) (fun k L=>by obtain rfl:=cC L;omega);have c0:=fB a9 H.size;have a6:=fun W=>zQ (mkS O) W (by rw[cS];omega)
 rw[dP] at a6;obtain⟨Z,hZ⟩:∃Z,Z=(cH O).toNat:=⟨_,rfl⟩;rw[<-hZ] at a6 G;have HD:=hid G;clear a4 a9 H a3 G hZ;go_wp2_with fail;refine(a6 _).mono ?_;rintro e w3 ⟨rfl,M⟩;have b0:=Arr.below a7 M (Arr.lt a7);have d:=d.below M d.lt;have F:=F.below M F.lt;have a8:=a5.trans (M.mono (by omega));clear a6 a7 a5 M
 by_cases U:Z=V
 rotate_left
 ·have v1:((Z:Int)==(V:Int))=false:=by rw[cB];omega
  have v2:(Z==V)=false:=by rw[cB];exact U
  have G:=HD.out;rw[aB U] at G;have I:=hid G;clear G;go_wp2_with fail;refine(tW false 7 _ (by decide)).mono ?_;rintro e w4 (⟨h0,rfl,rfl⟩|⟨h0,rfl,rfl⟩)
  ·exact absurd h0 (by decide)
  go_wp2_with fail;exact aI0 I.out (by decide) HZ.out d F a8 rfl rfl
 have v1:((Z:Int)==(V:Int))=true:=by rw[beq_iff_eq];omega
 have v2:(Z==V)=true:=by rw[beq_iff_eq];exact U
 have G:=HD.out;rw[aA (fun k=>k U)] at G;have I:=hid G;clear G U;go_wp2_with fail;refine(tW true 7 _ (by decide)).mono ?_;rintro e w4 (⟨h0,rfl,rfl⟩|⟨h0,rfl,rfl⟩)
 rotate_left
 ·exact absurd h0 (by decide)
 obtain⟨q6,q7,qb⟩:=aIz d F a8 (.string (mkS O)) (.int .u32 (V:Int)) (.int .i64 (A:Int)) (.int .i64 (p:Int)) (.int .i64 0);have k7:=(((F.other ⟨z,0,none⟩ (by simp) (.string (mkS O))).other ⟨z,1,none⟩ (by simp) (.int .u32 (V:Int))).other ⟨z,2,none⟩ (by simp) (.int .i64 (A:Int))).other ⟨z,3,none⟩ (by simp) (.int .i64 (p:Int));have d0:=d.cell (i:=0) rfl;have d1:=d.cell (i:=1) rfl;have d2:=d.cell (i:=2) rfl;have d3:=d.cell (i:=3) rfl;have f0:=d.free 0;have f1:=d.free 1;have f2:=d.free 2;have f3:=d.free 3;have e7:=k7.cell (i:=0) rfl;have f7:=k7.free 0;have b1:=Arr.cell b0 (i:=1) rfl
 clear d F a8 k7 b0;go_wp2_with fail;refine leaves_cons (f:=75) (args:=#[.pointer (some ⟨z,0,none⟩),.pointer (some ⟨z+1,0,none⟩)]) (by simp) (by simp[go_sem]) ?_;refine(bCl ⟨z,0,none⟩ ⟨z+1,0,none⟩ _).mono ?_;rintro e u' c1 ⟨rfl,rfl,rfl⟩;exact⟨_,NB q6 q7 rfl rfl rfl,by rw[I.out,aH1],by rw[HZ.out];exact qb⟩
theorem aI2 {s:List UInt8} {r:Int}:∀(f:Nat) (a:Int) (acc:List Prt),(eE s r f a acc).2.2=0->96*((eE s r f a acc).1.length:Int)+a+80<=96*(acc.length:Int)+(eE s r f a acc).2.1
 |0,_,_,h=>absurd h (by simp[eE])
 |f+1,a,acc,h=>by
  have d:=LO (s:=s) (r:=r) (f+1) a acc h;unfold eE at h d ⊢
  by_cases G:aP s.length a 48≠0
  ·grind
  rw[aA G] at h d ⊢
  by_cases H:aK s a 48=0x177245385090
  ·grind
  rw[aA H] at h d ⊢
  by_cases I:aK s a 48≠0x314159265359
  ·grind
  rw[aA I] at h d ⊢
  by_cases A:(cO s a r).2.2.2≠0
  ·grind
  rw[aA A] at h d ⊢;have J:=CD (eB.1 A);have F:=aI2 f _ _ h;rw[List.length_append,List.length_singleton] at F;push_cast at F;omega
theorem bCz {s:List UInt8} {a:Int} (_h0:0<=a) (h:(cU s a).2.2=0):96*((cU s a).1.length:Int)+a<=(cU s a).2.1:=by
 unfold cU at h ⊢
 by_cases q:(fX s (a/8).toNat).2≠0
 ·grind
 rw[aA q] at h ⊢;have:=aI2 _ _ _ h
 grind
theorem bC0 {s:List UInt8} {a:Int} (d:0<=a) (h:a<=8*(s.length:Int)):96*((cU s a).1.length:Int)+a<=8*(s.length:Int)+32:=by
 unfold cU;split
 ·grind
 ·next q=>
  by_cases k:a+32<=8*(s.length:Int)
  ·have:=aD8 (s:=s) (r:=(fX s (a/8).toNat).1) (8*s.length+1) (a+32) [] (by omega) k
   grind
  grind [eE,fX,aP,cU]
theorem aI3 {s:List UInt8}:∀(f:Nat) (a:Int) (acc:List Prt),0<=a->a<=8*(s.length:Int)->96*((gT s f a acc).1.length:Int)+a<=96*(acc.length:Int)+8*(s.length:Int)+32
 |0,a,acc,_,h=>by show 96*(acc.length:Int)+a<=_;omega
 |f+1,a,acc,d,h=>by
  unfold gT;have F:=bC0 (s:=s) d h;split
  ·grind
  split
  ·grind
  ·next q=>
   have A:=EZ (eB.1 q);have G:=bCz (s:=s) (a:=a) d (eB.1 q);have H:=aI3 (s:=s) f (cU s a).2.1 (acc++(cU s a).1) (by omega) A.2
   grind
theorem aI4 (s:ByteArray) {T:List (Prt×Int)} (h:T=jY s.data.toList):T.length<=8*s.size+2:=by
 have d:s.data.toList.length=s.size:=by simp
 have:((cI s.data.toList).1.length:Int)*96<=8*(s.size:Int)+32:=by
  unfold cI;split
  ·simp;omega
  ·have:=aI3 (s:=s.data.toList) (8*s.data.toList.length+1) 0 [] (by decide) (by omega)
   grind
 grind [jY,okP]
end
section
open Go.ChangeShapes Go.WideShapes Go.ChangeAt Go.RowKit Go.Joins
theorem aSj {n:Int} (h:(Lit.int .i64 n).wf=true): -9223372036854775808<=n/\n<=9223372036854775807:=by
 simp[Lit.wf,IntKind.min,IntKind.max,IntKind.signed,IntKind.bits] at h;omega
theorem bGr:ownKnob pG.godebug=none:=by kernel_rfl
theorem bGs:laidOutB pG=true:=by kernel_rfl
theorem aSk:pG.globalNamed "errors.errorType"=some 0:=by kernel_rfl
theorem aSl:(pG.cutTypes.find? (·.1== "internal/reflectlite.rtype")).map (·.2)=some 328:=by kernel_rfl
theorem aSm:pG.types.size=403:=by kernel_rfl
theorem aSn:((eT 403).filter fun t=>pG.rowNamed t [101,114,114,111,114])=[107]:=by kernel_rfl
abbrev QZ:List (String×DataW Unit):=[("errors.errorType",Rows.laid_errors_errorType)]
theorem bGt {W:World} (h:laidMetH pG QZ W):dU W:=by
 have F:laidMet pG [] W/\handlesMet pG QZ W:=h;obtain⟨G,u,I,J,L,M,O,d⟩:=F.2 _ (cP.2 rfl);have U:G=[101,114,114,111,114]:=(cC J).symm;subst U;obtain rfl:=cC (aSl.symm.trans L);have A:I∈(eT 403).filter fun t=>pG.rowNamed t [101,114,114,111,114]:=List.mem_filter.2 ⟨List.mem_range.2 (by rw[<-aSm];exact M),O⟩
 rw[aSn] at A;obtain rfl:=cP.1 A;have V:typeHandle pG 107=.pointer (some ⟨2,107,none⟩):=by kernel_rfl
 rw[V] at d;have:=World.var?_cell aSk d 0;unfold dU
 simpa using this
noncomputable def aSo (os:Os):World:=
 let w0:=World.holding pG os ⟨#[],#[],[]⟩
 {w0 with heap:=w0.heap.modify 0 fun
   |.cells _ t d=>.cells #[.iface 328 (.agg #[.pointer (some ⟨2,107,none⟩)])] t d
   |o=>o}
theorem bGu (os:Os) (args:Array Value):laidMetH pG QZ ((aSo os).forCall (fun _ _=>0) ⟨#[],args,[]⟩).memory:=
 laidMetH_of_parts (laidMet_nil _ _) (by kernel_rfl)
theorem aBp {n:Int} (h:(Lit.int .i64 n).wf=true): -9223372036854775808<=n/\n<=9223372036854775807:=aSj h
theorem aBq {α:Type}:∀{l:List α},l.length=2->∃x y,l=[x,y]
 |[x,y],_=>⟨x,y,rfl⟩
section
variable {H:Type} {enc:TypeId×Value->H} {w:World} {base:Nat} {spare:Nat->Bool} {held:Bool}
theorem bGv {a3:Nat} {v:Value} {x:DataW H×List MemPlace} (h:bHw enc pG w base spare held a3 23 [v]=some x):∃l,RdP w v l/\WfP l:=by
 have a4:pG.cellsOf 74=2:=by kernel_rfl
 have c3:pG.cellsOf 3=1:=by kernel_rfl
 rcases Go.Deep.open_slice underlying23 h with⟨J,_⟩|⟨a,A,cap,m,n,D,Pl,J,_,hl,hm,a5,_,hi⟩
 ·obtain rfl:v=.slice none 0 0:=by simpa using J
  exact⟨[],⟨none,0,rfl,aD _,by simp[maxLen],fun h=>absurd h (by simp)⟩,by intro p d;simp at d⟩
 ·obtain rfl:v=.slice (some a) A cap:=by simpa using J
  have a6:A<=m:=by rw[a5];split<;>omega
  have U:∀i,i<A->∃p:Int×Int,(w.cell? (a.add (i*2))=some (.int .i64 p.1)/\w.cell? (a.add (i*2+1))=some (.int .i64 p.2))/\((-9223372036854775808<=p.1/\p.1<=9223372036854775807)/\(-9223372036854775808<=p.2/\p.2<=9223372036854775807)):=fun i I=>by
   obtain⟨b8,V,Z⟩:=hi i (fB I a6);rw[a4] at V;obtain⟨xs,k,_,_,_,a7,L⟩:=DataW.trod_array underlying74 Z;obtain⟨_,a8,a2⟩:=World.cells?_some V;obtain⟨u0,u1,rfl⟩:=aBq a8;obtain⟨y0,y1,rfl⟩:=aBq a7;have F:=L 0 (by decide);have M:=L 1 (by decide);rw[c3] at F M;obtain⟨n0,q0,_,b0⟩:=bH2 underlying3 (show bHw enc pG w base spare held k 3 [u0]=some y0 from F);obtain⟨n1,q1,_,b1⟩:=bH2 underlying3 (show bHw enc pG w base spare held k 3 [u1]=some y1 from M);have a9:u0=.int .i64 n0:=bH3.1 q0
   have b2:u1=.int .i64 n1:=bH3.1 q1;clear F M L hi Z h;subst a9 b2;have a0:=a2 0 (by decide);have a1:=a2 1 (by decide);refine⟨(n0,n1),⟨?_,?_⟩,aBp b0,aBp b1⟩
   ·have F:(a.add (i*2)).add 0=a.add (i*2):=by rw[Go.Deep.add_add,Nat.add_zero]
    rw[<-F,a0];rfl
   ·simpa [<-Go.Deep.add_add] using a1
  have b3:∃f:Nat->Int×Int,∀i,i<A->(w.cell? (a.add (i*2))=some (.int .i64 (f i).1)/\w.cell? (a.add (i*2+1))=some (.int .i64 (f i).2))/\((-9223372036854775808<=(f i).1/\(f i).1<=9223372036854775807)/\(-9223372036854775808<=(f i).2/\(f i).2<=9223372036854775807)):=
   ⟨fun i=>if h:i<A then(U i h).choose else(0,0),fun i I=>by simp only[I,dif_pos];exact(U i I).choose_spec⟩
  obtain⟨f,O⟩:=b3;refine⟨(eT A).map f,⟨some a,cap,by simp,by simpa using hl,hm,fun h0=>?_⟩,fun p d=>?_⟩
  ·have b4:0<A:=by simpa using h0
   have c0:=(O 0 b4).1.1;obtain⟨b,off,b5⟩:=a;have b6:b5=none:=by simpa [gP] using World.cell?_spot c0
   subst b6;refine⟨b,off,rfl,World.block_lt_of_cell? w _ c0,fun j p d=>?_⟩;obtain⟨G,rfl⟩:j<A/\f j=p:=by
    rw[List.getElem?_map] at d
    by_cases G:j<A
    ·rw[List.getElem?_range G] at d;exact⟨G,by simpa using d⟩
    ·rw[List.getElem?_eq_none (by simpa using G)] at d;simp at d
   have e:∀q,(⟨b,off,none⟩:Addr).add q=⟨b,off+q,none⟩:=fun q=>by unfold gP;split<;>simp_all
   have:=(O j G).1;rw[e,e] at this;exact⟨this.1,by rw[Nat.add_assoc];exact this.2⟩
  ·rw[List.mem_map] at d;obtain⟨i,b7,rfl⟩:=d;exact(O i (by simpa using b7)).2
end
end
end Go.Proofs.YtihbnmlinkbnkaaGreatDoor
