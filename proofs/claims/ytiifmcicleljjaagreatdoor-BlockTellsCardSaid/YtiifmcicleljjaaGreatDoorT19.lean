/- The walks and the plain laws, part 19. -/
import Derived.Test.YtiifmcicleljjaaGreatDoorT17
import Derived.Test.YtiifmcicleljjaaGreatDoorT18
set_option maxRecDepth 100000
set_option maxHeartbeats 12800000
set_option linter.unusedVariables false
open ByteArray renaming size_extract->aTq
open Go renaming callsD_of_wpS->FY,wpAnyH_ready->fL
open Go.Act renaming put->aJ
open Go.AllReadyH renaming cons->fA,nil->fM
open Go.Exit renaming thenS->GA
open Go.Instr renaming typeAssert->BA
open Go.RowKit.Below renaming refl->aB
open Go.World renaming cell?_setCell_other->iQ
open List renaming getElem?_cons_succ->aS,getElem?_cons_zero->aP,getElem?_toArray->aR,setIfInBounds_toArray->aK,set_cons_succ->aG,set_cons_zero->aH
open Option.some renaming inj->bW,injEq->iP
namespace Go.Proofs.YtiifmcicleljjaaGreatDoor
open Go.RowKit Go Go.Shelf
theorem aQ5 (p q:Addr) (w:World):
  CallsD Tryz.prog 50 #[.pointer (some p),.pointer (some q)] .returning w fun e d w'=>e=.returned (.tuple #[])/\d=.returning/\w'=w:=by
 refine FY Tryz.func50 rfl fun z cs A=>?_
 apply wpS_seq;apply wpS_region;simp[wpOpsS,go_sem,recoverD,A,Tryz.ntmps50,GA];refine wpS_of_wp ?_;go_wp2
 cases z
 simp_all [bodyPostS,results,Tryz.f50]
theorem aQ6 (v:Value) (d:TypeId) (w:World):(BA (.iface 81 v) d 81 true).run Tryz.prog w=.ok (.tuple #[v,.bool true]) w:=by
 simp[BA,run_underlying Tryz.underlying81]
theorem aAw {w W:World} {z:Nat} {H I J L M:Value} (O:Arr W z 36 [H,I,J,L]) (T:Arr W (z+1) 30 [M]) (U:Below z w W) (A E F G d:Value):
  Arr (((((W.setCell ⟨z,0,none⟩ A).setCell ⟨z,1,none⟩ E).setCell ⟨z,2,none⟩ F).setCell ⟨z,3,none⟩ G).setCell ⟨z+1,0,none⟩ d) z 36 [A,E,F,G]/\
  Arr (((((W.setCell ⟨z,0,none⟩ A).setCell ⟨z,1,none⟩ E).setCell ⟨z,2,none⟩ F).setCell ⟨z,3,none⟩ G).setCell ⟨z+1,0,none⟩ d) (z+1) 30 [d]/\
  Below z w (((((W.setCell ⟨z,0,none⟩ A).setCell ⟨z,1,none⟩ E).setCell ⟨z,2,none⟩ F).setCell ⟨z,3,none⟩ G).setCell ⟨z+1,0,none⟩ d):=by
 obtain⟨V,Y⟩:=oZ O U A E F G;have a0:(z+1)≠z:=by omega
 have Z:=(((T.other ⟨z,0,none⟩ (by simp) A).other ⟨z,1,none⟩ (by simp) E).other ⟨z,2,none⟩ (by simp) F).other ⟨z,3,none⟩ (by simp) G;exact⟨V.other ⟨z+1,0,none⟩ (by simp) d,Z.set 0 d,Y.setCell (p:=⟨z+1,0,none⟩) (Nat.le_succ _) d⟩
theorem aQ7 {P:Program} {A:Func} {p q:Tmp} {E F:TypeId} (h:A.results=#[.cell p E,.cell q F]) (tmps:Array Value) (w:World) (d z:Addr) (G H:Value)
  (I:tmps.getD p undef=.pointer (some d)) (J:tmps.getD q undef=.pointer (some z))
  (L:(loadVar E d).run P w=.ok G w) (M:(loadVar F z).run P w=.ok H w):
  (results A tmps).run P w=.ok (.tuple #[G,H]) w:=by
 have O:tmps[p]?.getD undef=.pointer (some d):=by simpa using I
 have T:tmps[q]?.getD undef=.pointer (some z):=by simpa using J
 simp[results,h,O,T,asAddr,L,M,Result.andThen]
theorem FB {W:World} {z:Nat} {d A E F u:Value} {tmps:Array Value} (G:Arr W z 36 [d,A,E,F]) (H:Arr W (z+1) 30 [u]) (_hu:u.oneCell'=true)
  (I:tmps.getD 6 undef=.pointer (some ⟨z,0,none⟩)) (J:tmps.getD 7 undef=.pointer (some ⟨z+1,0,none⟩)):
  (results Tryz.f15 tmps).run Tryz.prog W=.ok (.tuple #[.agg #[d,A,E,F],u]) W:=by
 have L:=H.cell (i:=0) rfl;exact aQ7 rfl tmps W ⟨z,0,none⟩ ⟨z+1,0,none⟩ _ _ I J (run_loadVar_row W z 36 36 _ (0,0) _ G Tryz.underlying36 rfl YN) (by simp[go_sem,L])
theorem aQ8 (z:Nat) (E:Int) (J:List PanicEntry) (w:World) (Y Z y2 y3 x7:Value) (g6:Arr w z 36 [Y,Z,y2,y3]) (L:Arr w (z+1) 30 [x7]):
  CallsD Tryz.prog 50 #[.pointer (some ⟨z,0,none⟩),.pointer (some ⟨z+1,0,none⟩)] (.panicking ({v:=.iface 81 (.agg #[.int .i64 E]),recovered:=false}::J)) w fun e u' w'=>
   e=.returned (.tuple #[])/\u'=.panicking ({v:=.iface 81 (.agg #[.int .i64 E]),recovered:=true}::J)/\Arr w' z 36 [.string ⟨#[]⟩,.int .u32 0,.int .i64 0,.int .i64 0]/\Arr w' (z+1) 30 [.int .i64 E]/\Below z w w':=by
 refine FY Tryz.func50 rfl fun c₀ cs hu=>?_
 apply wpS_seq;apply wpS_region;simp[wpOpsS,go_sem,recoverD,hu,Tryz.ntmps50,GA];refine wpS_of_wp ?_;simp only[Array.replicate_succ,Array.replicate_zero,List.push_toArray,List.append_toArray,List.nil_append,List.cons_append,aK,aH,aG];have a7:=aQ6 (.agg #[.int .i64 E]);go_wp2_with fail;have a0:=g6.alloc (.cells #[.int .i64 E] 81);have a1:=L.alloc (.cells #[.int .i64 E] 81);have G:=bS w (.int .i64 E) 81;have a5:=L.lt;have a2:Below z w (w.alloc (.cells #[.int .i64 E] 81)):=(aB z w).alloc (by omega) _
 generalize w.alloc (.cells #[.int .i64 E] 81)=H at*
 obtain⟨A,a3⟩:∃A,A=w.heap.size:=⟨_,rfl⟩;rw[<-a3] at G a5 ⊢;clear a3 g6 L;have M:=a2.drew;have d:Arr H.drew z 36 [Y,Z,y2,y3]:=a0;have O:Arr H.drew (z+1) 30 [x7]:=a1;have I:H.drew.cell? ⟨A,0,none⟩=some (.int .i64 E):=G;refine wp_region_held_drew (S:=fun w'=>w'.cell? ⟨A,0,none⟩=some (.int .i64 E)) (by kernel_rfl) G (fun a8=>?_);generalize H.drew=w2 at*
 obtain⟨k6,a6⟩:=oZ d M (.string ⟨#[]⟩) (.int .u32 0) (.int .i64 0) (.int .i64 0);obtain⟨q6,q7,qb⟩:=aAw d O M (.string ⟨#[]⟩) (.int .u32 0) (.int .i64 0) (.int .i64 0) (.int .i64 E);have T:=(((O.other ⟨z,0,none⟩ (by simp) (.string ⟨#[]⟩)).other ⟨z,1,none⟩ (by simp) (.int .u32 0)).other ⟨z,2,none⟩ (by simp) (.int .i64 0)).other ⟨z,3,none⟩ (by simp) (.int .i64 0);have d0:=d.cell (i:=0) rfl;have d1:=d.cell (i:=1) rfl;have d2:=d.cell (i:=2) rfl;have d3:=d.cell (i:=3) rfl;have f0:=d.free 0;have f1:=d.free 1;have f2:=d.free 2;have f3:=d.free 3;have e7:=T.cell (i:=0) rfl;have f7:=T.free 0
 have U:((((w2.setCell ⟨z,0,none⟩ (.string ⟨#[]⟩)).setCell ⟨z,1,none⟩ (.int .u32 0)).setCell ⟨z,2,none⟩ (.int .i64 0)).setCell ⟨z,3,none⟩ (.int .i64 0)).cell? ⟨A,0,none⟩=some (.int .i64 E):=by
  rw[iQ _ _ _ _ (tH (by omega)),iQ _ _ _ _ (tH (by omega)),iQ _ _ _ _ (tH (by omega)),iQ _ _ _ _ (tH (by omega))];exact I
 have a4:(((((w2.setCell ⟨z,0,none⟩ (.string ⟨#[]⟩)).setCell ⟨z,1,none⟩ (.int .u32 0)).setCell ⟨z,2,none⟩ (.int .i64 0)).setCell ⟨z,3,none⟩ (.int .i64 0)).setCell ⟨z+1,0,none⟩ (.int .i64 E)).cell? ⟨A,0,none⟩=some (.int .i64 E):=by rw[iQ _ _ _ _ (tH (by omega))];exact U
 clear a0 a1 G a2 M d O k6 a6 T;refine wpAnyH_take (i:=1) (oi:=?oi1) (v:=?v1) ?hi1 (by kernel_rfl) (by kernel_rfl) (by kernel_rfl) ?hq1 ?hy1 I ?_
 case hi1=>(simp only[aR,aS,aP];rfl)
 case hq1=>exact fun _ _ _ h=>h
 case hy1=>(refine Or.inl ⟨by rfl,?_⟩;intro w' V;(try dsimp only at V);(try go_simp);try with_reducible rfl)
 try simp only[aJ,aK,aH,aG]
 refine wpAnyH_take (i:=2) (oi:=?oi2) (v:=?v2) ?hi2 (by kernel_rfl) (by kernel_rfl) (by kernel_rfl) ?hq2 ?hy2 I ?_
 case hi2=>(simp only[aR,aS,aP];rfl)
 case hq2=>exact fun _ _ _ h=>h
 case hy2=>(refine Or.inl ⟨by rfl,?_⟩;intro w' V;(try dsimp only at V);(try go_simp);try with_reducible rfl)
 try simp only[aJ,aK,aH,aG]
 refine fL (rs:=[0]) (by kernel_rfl) (by simp) ?_;refine fA rfl (fun K F=>?_) fM;go_simp;refine F.out _ _ ?_ (fun _=>?_)
 ·exact I
 try simp only[aJ,aK,aH,aG]
 refine fL (rs:=[3]) (by kernel_rfl) (by simp) ?_;refine fA rfl (fun K F=>?_) fM;go_simp;refine F.out _ _ ?_ (fun _=>?_)
 ·first|with_reducible exact U|with_reducible exact a4
 try simp only[aJ,aK,aH,aG]
 refine fL (rs:=[4]) (by kernel_rfl) (by simp) ?_;refine fA rfl (fun K F=>?_) fM;go_simp;refine F.out _ _ ?_ (fun _=>?_)
 ·first|with_reducible exact U|with_reducible exact a4
 try simp only[aJ,aK,aH,aG]
 refine wpAnyH_done (by kernel_rfl) ?_ _;go_wp2_with fail;refine⟨rfl,.panicking ({v:=.iface 81 (.agg #[.int .i64 E]),recovered:=true}::J),?_,.tuple #[],?_,rfl,rfl,q6,q7,qb⟩
 ·rfl
 ·exact results_none rfl _ _ _
theorem aAx {w W:World} {s:List UInt8} {a room:Int} {z:Nat} {E:Int} {tmps:Array Value} {d A F G H:Value} (h:cL s a room=(cW,0,0,E)) (I:E≠0) (J:w.heap.size=z)
  (L:Arr W z 36 [d,A,F,G]) (M:Arr W (z+1) 30 [H]) (O:Below z w W)
  (T:tmps.getD 6 undef=.pointer (some ⟨z,0,none⟩)) (U:tmps.getD 7 undef=.pointer (some ⟨z+1,0,none⟩)):
  Leaves Tryz.prog Tryz.f15 tmps (fun e w'=>EV w w' s a room e) [{target:=.fn (.func 50) #[.pointer (some ⟨z,0,none⟩),.pointer (some ⟨z+1,0,none⟩)],args:=#[]}] (.panicking (oC E)) W:=by
 refine leaves_cons (f:=50) (args:=#[.pointer (some ⟨z,0,none⟩),.pointer (some ⟨z+1,0,none⟩)]) (by simp) (by simp[go_sem]) ?_;refine(aQ8 z E [] W d A F G H L M).mono ?_;rintro e u' w' ⟨rfl,rfl,V,Y,Z⟩;exact⟨_,FB V Y rfl T U,mQ h I (J▸O.trans Z)⟩
theorem aAy (w:World) (v:Value):∀W,W=(w.alloc (.cells #[.string ⟨#[]⟩,.int .u32 0,.int .i64 0,.int .i64 0] 36)).alloc (.cells #[v] 30)->
  (Arr W w.heap.size 36 [.string ⟨#[]⟩,.int .u32 0,.int .i64 0,.int .i64 0]/\Arr W (w.heap.size+1) 30 [v])/\Below w.heap.size w W/\W.heap.size=w.heap.size+1+1:=by
 rintro W rfl;have z:=Arr.new w 36 [.string ⟨#[]⟩,.int .u32 0,.int .i64 0,.int .i64 0];have d:=Arr.new (w.alloc (.cells #[.string ⟨#[]⟩,.int .u32 0,.int .i64 0,.int .i64 0] 36)) 30 [v];have e:∀(W:World) (o:Obj),(W.alloc o).heap.size=W.heap.size+1:=fun W o=>by simp
 rw[e] at d;refine⟨⟨z.alloc _,d⟩,?_,by simp⟩;exact((aB _ w).alloc (Nat.le_refl _) _).alloc (by simp) _
theorem MW (s:ByteArray) (a room:Int) (w:World) (hE:iF w) (hs:s.size<=12000) (b3: -9223372036854775808<=a) (b4:a<=9223372036854775807) (b5: -9223372036854775808<=room) (b6:room<=9223372036854775807):
  Calls Tryz.prog 15 #[.string s,.int .i64 a,.int .i64 room] w fun e w'=>EV w w' s.data.toList a room e:=by
 have b7:∀(fn:Fn) (first cap:Array Value) (w:World),(Instr.makeFunc fn first cap).run Tryz.prog w=.ok (.func fn first cap) w:=fun _ _ _ _=>rfl
 obtain⟨⟨d,F⟩,Y,a0⟩:=aAy w (.int .i64 0) _ rfl;have hd:=wU s.data.toList a room;have J:=fun W=>ZU room W
 by_cases b0:a<0\/room<1\/360<room
 ·rw[if_pos b0] at hd;have I:=hid hd;clear hd;obtain⟨⟨q6,q7⟩,qb,-⟩:=aAy w (.int .i64 1) _ rfl;clear d F Y a0
  by_cases h1:a<0
  ·have u1:decide (a<0)=true:=decide_eq_true h1
   go_enter_defers Tryz.func15,Tryz.ntmps15
   go_wp2_with fail;exact⟨_,FB q6 q7 rfl rfl rfl,mQ I.out (by decide) qb⟩
  have u1:decide (a<0)=false:=decide_eq_false h1;have a1:(decide (1<=room)&&decide (room<=360))=false:=by
   rw[Bool.and_eq_false_iff,decide_eq_false_iff_not,decide_eq_false_iff_not];omega
  rw[a1] at J
  go_enter_defers Tryz.func15,Tryz.ntmps15
  go_wp2_with fail;refine(J _).mono ?_;rintro e w' ⟨rfl,rfl⟩;go_wp2_with fail;exact⟨_,FB q6 q7 rfl rfl rfl,mQ I.out (by decide) qb⟩
 obtain⟨A,rfl⟩:∃A:Nat,a=(A:Int):=⟨a.toNat,by omega⟩;obtain⟨R,rfl⟩:∃R:Nat,room=(R:Int):=⟨room.toNat,by omega⟩;have u1:decide ((A:Int)<0)=false:=decide_eq_false (by omega);have a1:(decide (1<=(R:Int))&&decide ((R:Int)<=360))=true:=by
  rw[Bool.and_eq_true,decide_eq_true_eq,decide_eq_true_eq];omega
 rw[a1] at J;clear hd a1
 go_enter_defers Tryz.func15,Tryz.ntmps15
 go_wp2_with fail;refine(J _).mono ?_;rintro e w' ⟨rfl,rfl⟩;generalize (w.alloc (.cells #[.string ⟨#[]⟩,.int .u32 0,.int .i64 0,.int .i64 0] 36)).alloc (.cells #[.int .i64 0] 30)=w0 at*
 obtain⟨z,hz⟩:∃z,w.heap.size=z:=⟨_,rfl⟩;rw[hz] at d F Y a0 ⊢;have HZ:=hid hz;clear hz J;go_wp2_with fail;have a2:BRd (w0.alloc (.cells #[.string s,.int .i64 (A:Int),.slice none 0 0,.slice none 0 0,.int .i64 0] 85)) w0.heap.size s A (.slice none 0 0) (.slice none 0 0) (.int .i64 0):=Arr.new w0 85 [.string s,.int .i64 (A:Int),.slice none 0 0,.slice none 0 0,.int .i64 0];have d:=d.alloc (.cells #[.string s,.int .i64 (A:Int),.slice none 0 0,.slice none 0 0,.int .i64 0] 85);have F:=F.alloc (.cells #[.string s,.int .i64 (A:Int),.slice none 0 0,.slice none 0 0,.int .i64 0] 85)
 have a3:=Y.alloc (o:=.cells #[.string s,.int .i64 (A:Int),.slice none 0 0,.slice none 0 0,.int .i64 0] 85) (by omega);rw[a0] at a2;generalize w0.alloc (.cells #[.string s,.int .i64 (A:Int),.slice none 0 0,.slice none 0 0,.int .i64 0] 85)=w1 at*
 have a8:z+1+1<w1.heap.size:=Arr.lt a2;clear Y a0;refine(aQx (z+1+1) s A R w1 a2 hs (by omega) (by omega) (by omega) (fun W hW=>hE.below (by rw[HZ.out];exact a3.grown hW (by omega) (fun k L=>by obtain rfl:=bW L;omega)))).mono ?_;rintro e w2 (⟨E,b2,hF,rfl,H⟩|⟨O,V,p,vt,vc,co,rfl,a6,H,G,b8,hV⟩)
 ·have d:=d.grown H (by simp only[ne_eq,iP];omega);have F:=F.grown H (by simp only[ne_eq,iP];omega);have a4:=a3.grown H (by omega) (fun k L=>by obtain rfl:=bW L;omega);have I:=hid hF;clear hF;go_wp2_with fail;exact aAx I.out b2 HZ.out d F a4 rfl rfl
 have d:=d.grown H (by simp only[ne_eq,iP];omega);have F:=F.grown H (by simp only[ne_eq,iP];omega);have a4:=a3.grown H (by omega) (fun k L=>by obtain rfl:=bW L;omega);have b9:=Nat.lt_of_lt_of_le a8 H.size;have a5:=fun W=>FA (mkS O) W (by rw[cP];omega)
 rw[fW] at a5;obtain⟨Z,hZ⟩:∃Z,Z=(fG O).toNat:=⟨_,rfl⟩;rw[<-hZ] at a5 G;have HD:=hid G;clear a3 a8 H a2 G hZ;go_wp2_with fail;refine(a5 _).mono ?_;rintro e w3 ⟨rfl,M⟩;have a9:=Arr.below a6 M (Arr.lt a6);have d:=d.below M d.lt;have F:=F.below M F.lt;have a7:=a4.trans (M.mono (by omega));clear a5 a6 a4 M
 by_cases T:Z=V
 rotate_left
 ·have v1:((Z:Int)==(V:Int))=false:=by rw[beq_eq_false_iff_ne];omega
  have v2:(Z==V)=false:=by rw[beq_eq_false_iff_ne];exact T
  have G:=HD.out;rw[if_pos T] at G;have I:=hid G;clear G;go_wp2_with fail;refine(pU false 7 _ (by decide)).mono ?_;rintro e w4 (⟨U,rfl,rfl⟩|⟨U,rfl,rfl⟩)
  ·exact absurd U (by decide)
  go_wp2_with fail;exact aAx I.out (by decide) HZ.out d F a7 rfl rfl
 have v1:((Z:Int)==(V:Int))=true:=by rw[beq_iff_eq];omega
 have v2:(Z==V)=true:=by rw[beq_iff_eq];exact T
 have G:=HD.out;rw[if_neg (fun k=>k T)] at G;have I:=hid G;clear G T;go_wp2_with fail;refine(pU true 7 _ (by decide)).mono ?_;rintro e w4 (⟨U,rfl,rfl⟩|⟨U,rfl,rfl⟩)
 rotate_left
 ·exact absurd U (by decide)
 obtain⟨q6,q7,qb⟩:=aAw d F a7 (.string (mkS O)) (.int .u32 (V:Int)) (.int .i64 (A:Int)) (.int .i64 (p:Int)) (.int .i64 0);have k7:=(((F.other ⟨z,0,none⟩ (by simp) (.string (mkS O))).other ⟨z,1,none⟩ (by simp) (.int .u32 (V:Int))).other ⟨z,2,none⟩ (by simp) (.int .i64 (A:Int))).other ⟨z,3,none⟩ (by simp) (.int .i64 (p:Int));have d0:=d.cell (i:=0) rfl;have d1:=d.cell (i:=1) rfl;have d2:=d.cell (i:=2) rfl;have d3:=d.cell (i:=3) rfl;have f0:=d.free 0;have f1:=d.free 1;have f2:=d.free 2;have f3:=d.free 3;have e7:=k7.cell (i:=0) rfl;have f7:=k7.free 0;have b1:=Arr.cell a9 (i:=1) rfl
 clear d F a7 k7 a9;go_wp2_with fail;refine leaves_cons (f:=50) (args:=#[.pointer (some ⟨z,0,none⟩),.pointer (some ⟨z+1,0,none⟩)]) (by simp) (by simp[go_sem]) ?_;refine(aQ5 ⟨z,0,none⟩ ⟨z+1,0,none⟩ _).mono ?_;rintro e u' c0 ⟨rfl,rfl,rfl⟩;exact⟨_,FB q6 q7 rfl rfl rfl,by rw[I.out,MG],by rw[HZ.out];exact qb⟩
theorem FF (s:ByteArray) (room:Int) (w:World) (z:s.size<=100000) (h:eZ s room=0):
  Calls Tryz.prog 12 #[.string s,.int .i64 room] w fun e w'=>e=.returned (.tuple #[.agg #[.string (mkS (aD (cB s))),.int .i64 ((cB s).length:Int)],.int .i64 0])/\Below w.heap.size w w'/\fS (mkS (bC s.data.toList)):=by
 refine(AA s room w z).mono ?_;rintro e w' ⟨d,A,E⟩;rw[EM h,h] at d;exact⟨d,A,E h⟩
theorem xH (s:ByteArray) (room E:Int) (w:World) (z:s.size<=100000) (h:eZ s room=E) (A:E≠0):
  Calls Tryz.prog 12 #[.string s,.int .i64 room] w fun e w'=>e=.returned (.tuple #[.agg #[.string ⟨#[]⟩,.int .i64 0],.int .i64 E])/\Below w.heap.size w w':=by
 refine(AA s room w z).mono ?_;rintro e w' ⟨d,F,G⟩;rw[YY (by rw[h];exact A),h,YR] at d;exact⟨d,F⟩
theorem aBm (s:ByteArray) (a room:Int) (w:World) {x:ByteArray} {y z:Int} (A:iF w) (E:s.size<=12000) (F: -9223372036854775808<=a) (G:a<=9223372036854775807) (H: -9223372036854775808<=room) (I:room<=9223372036854775807) (h:cL s.data.toList a room=(x,y,z,0)):
  Calls Tryz.prog 15 #[.string s,.int .i64 a,.int .i64 room] w fun e w'=>e=.returned (.tuple #[.agg #[.string x,.int .u32 y,.int .i64 a,.int .i64 z],.int .i64 0])/\Below w.heap.size w w':=by
 refine(MW s a room w A E F G H I).mono ?_;rintro e w' ⟨d,J⟩;rw[h,MG] at d;exact⟨d,J⟩
theorem FG (s:ByteArray) (a room:Int) (w:World) {E:Int} (F:iF w) (G:s.size<=12000) (H: -9223372036854775808<=a) (I:a<=9223372036854775807) (J: -9223372036854775808<=room) (L:room<=9223372036854775807) (h:(cL s.data.toList a room).2.2.2=E) (M:E≠0):
  Calls Tryz.prog 15 #[.string s,.int .i64 a,.int .i64 room] w fun e w'=>(∃(x:ByteArray) (y z:Int),e=.returned (.tuple #[.agg #[.string x,.int .u32 y,.int .i64 0,.int .i64 z],.int .i64 E]))/\Below w.heap.size w w':=by
 refine(MW s a room w F G H I J L).mono ?_;rintro e w' ⟨d,O⟩;obtain⟨x,y,z,A,T⟩:∃x y z A,cL s.data.toList a room=(x,y,z,A):=⟨_,_,_,_,rfl⟩;rw[T] at h d;obtain rfl:A=E:=h;rw[YM _ _ _ _ _ M] at d;exact⟨⟨x,y,z,d⟩,O⟩
theorem aBn (s:ByteArray) (k:Nat):(s.extract 0 k).data.toList=s.data.toList.take k:=by simp
theorem aBo {d z:World} {E F G H I J:Addr} {v1 v2 v3 v4 v5 v6:Value} {B:Nat} {w0:World}
  (h:d.cell? E=some v1/\d.cell? F=some v2/\d.cell? G=some v3/\d.cell? H=some v4/\d.cell? I=some v5/\d.cell? J=some v6/\Below B w0 d/\B<=d.heap.size) (A:Below d.heap.size d z):
  z.cell? E=some v1/\z.cell? F=some v2/\z.cell? G=some v3/\z.cell? H=some v4/\z.cell? I=some v5/\z.cell? J=some v6/\Below B w0 z/\B<=z.heap.size:=by
 obtain⟨O,T,U,V,Y,Z,h8,L⟩:=h;have k:∀{p:Addr} {v:Value},d.cell? p=some v->z.cell? p=some v:=fun{p} {v} M=>(A.cell (World.block_lt_of_cell? d p M)).trans M
 exact⟨k O,k T,k U,k V,k Y,k Z,h8.trans (A.mono L),Nat.le_trans L A.size⟩
abbrev dQ:ByteArray:=⟨#[98,97,110,97,110,97]⟩
theorem AB:(bC dQ.data.toList).length=6:=by decide+kernel
theorem aSu:(fZ (bK (bC dQ.data.toList))).length=32:=by decide+kernel
theorem aSv:(bK (bC dQ.data.toList)).length=3:=by decide+kernel
theorem aSw:eZ dQ 40=0:=wY (by decide) (by decide) (by decide) (by rw[AB];decide)
theorem aSx:eZ dQ 5=4:=by
 unfold eZ;rw[if_neg (by decide),AB];decide
theorem aSy:eZ ⟨#[]⟩ 40=1:=by
 unfold eZ;rw[if_pos (by decide)]
def aBp:ByteArray:=⟨#[97,97,97,97,97,97,97,97,97,97,97,97,97,97,97,97,97,97]⟩
theorem aSz:(cL aBp.data.toList 0 40).2.2.2=3:=by
 rw[wU,if_neg (by decide),if_neg (by decide+kernel),if_pos (by decide+kernel)]
theorem aS0 (s:List UInt8):(cL s 0 361).2.2.2=1:=by
 rw[wU,if_pos (by decide)]
theorem aS1 (z:fS (mkS (bC dQ.data.toList))):166<(cB dQ).length/\(cB dQ).length<=28000/\
  cL (aD (cB dQ)) 0 40=(dQ,((fG dQ.data.toList).toNat:Int),((cB dQ).length:Int),0)/\(cL ((aD (cB dQ)).take 20) 0 40).2.2.2=2/\aE (aD (cB dQ)) 0 48=54156738319193:=by
 have A:=zR (t:=dQ) (by decide) (by rw[AB];decide) z;rw[aSu,aSv] at A;have d:=EI (s:=aD (cB dQ)) (a:=0) (room:=40) (by decide) z (by rw[AB];decide) (by decide) (zP _);rw[Nat.zero_add] at d;have E:=YL (room:=40) (by decide) z (by rw[AB];decide) (by decide) (k:=20) (by omega);have d:cL (aD (cB dQ)) 0 40=(dQ,((fG dQ.data.toList).toNat:Int),((cB dQ).length:Int),0):=d;have F:=(YK (s:=aD (cB dQ)) (at':=0) (room:=40) (by rw[d])).2.2.2.2.2.2.2.2;exact⟨by omega,A.1,d,E,F⟩
theorem FH (w:World) (U:iF w):Calls Tryz.prog 9 #[] w fun e w'=>e=.returned (.bool true)/\Below w.heap.size w w':=by
 go_enter Tryz.func9,Tryz.ntmps9;go_wp2_with fail;refine(FF dQ 40 w (by decide) aSw).mono ?_;rintro e V ⟨rfl,c5,hO⟩;obtain⟨f1,f2,I,J,L⟩:=aS1 hO;have b0:(mkS (aD (cB dQ))).size=((cB dQ).length+7)/8:=by rw[cP,gY]
 have J:(cL ((mkS (aD (cB dQ))).extract 0 20).data.toList 0 40).2.2.2=2:=by rw[aBn,fW];exact J
 have I:cL (mkS (aD (cB dQ))).data.toList 0 40=(dQ,((fG dQ.data.toList).toNat:Int),((cB dQ).length:Int),0):=I;have L:aE (mkS (aD (cB dQ))).data.toList ((0:Nat):Int) 48=54156738319193:=L;obtain⟨d,Y⟩:∃d,d=mkS (aD (cB dQ)):=⟨_,rfl⟩;obtain⟨N,hN⟩:∃N,N=(cB dQ).length:=⟨_,rfl⟩;obtain⟨Z,hZ⟩:∃Z,Z=(fG dQ.data.toList).toNat:=⟨_,rfl⟩;have HZ:=hid hZ;rw[<-Y,<-hN,<-hZ] at I;rw[<-Y] at J L b0;rw[<-hN] at f1 f2 b0;rw[<-Y,<-hN];clear Y hN hZ hO;have s1:20<=d.size:=by omega
 have s2:d.size<=12000:=by omega
 have s3:(20:Int)<=(d.size:Int):=by omega
 have s4:decide ((d.size:Int)<20)=false:=decide_eq_false (by omega);have s5:decide (d.size<20)=false:=decide_eq_false (by omega);have s6:(d.extract 0 20).size<=12000:=by rw[aTq];omega
 have c6:decide (0+48<=8*d.size/\aE d.data.toList ((0:Nat):Int) 48=54156738319193)=true:=decide_eq_true ⟨by omega,L⟩;have c7:=hid c6;have F3:=hid I;have F4:=hid J;clear c6 f1 f2 I J L b0;have F:=Arr.new V 29 [.string d,.int .i64 (N:Int)];change Arr (V.alloc (.cells #[.string d,.int .i64 (N:Int)] 29)) _ _ _ at F;have b1:=bD c5 (.cells #[.string d,.int .i64 (N:Int)] 29);have M:=F.cell (i:=0) rfl;go_wp2_with fail;generalize V.alloc (.cells #[.string d,.int .i64 (N:Int)] 29)=w2 at*
 obtain⟨G,c8⟩:∃G,G=V.heap.size:=⟨_,rfl⟩;rw[<-c8] at F M ⊢;have f9:=F.lt;clear c8 c5;refine(aBm d 0 40 w2 (U.below b1) s2 (by decide) (by decide) (by decide) (by decide) F3.out).mono ?_;rintro e w3 ⟨rfl,b2⟩;have c9:=F.below b2 f9;have d1:=bV b1 b2;have O:=Arr.new w3 36 [.string dQ,.int .u32 (Z:Int),.int .i64 0,.int .i64 (N:Int)];change Arr (w3.alloc (.cells #[.string dQ,.int .u32 (Z:Int),.int .i64 0,.int .i64 (N:Int)] 36)) _ _ _ at O;have a0:=c9.alloc (.cells #[.string dQ,.int .u32 (Z:Int),.int .i64 0,.int .i64 (N:Int)] 36)
 have b3:=bD d1 (.cells #[.string dQ,.int .u32 (Z:Int),.int .i64 0,.int .i64 (N:Int)] 36);have M:=a0.cell (i:=0) rfl;clear F c9 b1 b2 d1;go_wp2_with fail;generalize w3.alloc (.cells #[.string dQ,.int .u32 (Z:Int),.int .i64 0,.int .i64 (N:Int)] 36)=w4 at*
 obtain⟨z,d2⟩:∃z,z=w3.heap.size:=⟨_,rfl⟩;rw[<-d2] at O ⊢;clear d2;refine(FG (d.extract 0 20) 0 40 w4 (U.below b3) s6 (by decide) (by decide) (by decide) (by decide) F4.out (by decide)).mono ?_;rintro e w5 ⟨⟨x5,y5,z5,rfl⟩,a1⟩;have d3:=a0.below a1 a0.lt;have d4:=O.below a1 O.lt;have d5:=bV b3 a1;clear a0 O b3 a1 M;go_wp2_with fail;have b4:=d3.alloc (.cells #[.string x5,.int .u32 y5,.int .i64 0,.int .i64 z5] 36);have b5:=d4.alloc (.cells #[.string x5,.int .u32 y5,.int .i64 0,.int .i64 z5] 36);have b6:=bD d5 (.cells #[.string x5,.int .u32 y5,.int .i64 0,.int .i64 z5] 36)
 generalize w5.alloc (.cells #[.string x5,.int .u32 y5,.int .i64 0,.int .i64 z5] 36)=w6 at*
 clear d3 d4 d5;refine(FG aBp 0 40 w6 (U.below b6) (by decide) (by decide) (by decide) (by decide) (by decide) aSz (by decide)).mono ?_;rintro e w7 ⟨⟨x7,y7,z7,rfl⟩,a2⟩;have d6:=b4.below a2 b4.lt;have d7:=b5.below a2 b5.lt;have d8:=bV b6 a2;clear b4 b5 b6 a2;go_wp2_with fail;have b7:=d6.alloc (.cells #[.string x7,.int .u32 y7,.int .i64 0,.int .i64 z7] 36);have b8:=d7.alloc (.cells #[.string x7,.int .u32 y7,.int .i64 0,.int .i64 z7] 36);have d9:=bD d8 (.cells #[.string x7,.int .u32 y7,.int .i64 0,.int .i64 z7] 36)
 generalize w7.alloc (.cells #[.string x7,.int .u32 y7,.int .i64 0,.int .i64 z7] 36)=w8 at*
 clear d6 d7 d8;refine(xH ⟨#[]⟩ 40 1 w8 (by decide) aSy (by decide)).mono ?_;rintro e w9 ⟨rfl,a3⟩;have e0:=b7.below a3 b7.lt;have e1:=b8.below a3 b8.lt;have e2:=bV d9 a3;clear b7 b8 d9 a3;go_wp2_with fail;have b9:=e0.alloc (.cells #[.string ⟨#[]⟩,.int .i64 0] 29);have c0:=e1.alloc (.cells #[.string ⟨#[]⟩,.int .i64 0] 29);have e3:=bD e2 (.cells #[.string ⟨#[]⟩,.int .i64 0] 29);generalize w9.alloc (.cells #[.string ⟨#[]⟩,.int .i64 0] 29)=g0 at*
 clear e0 e1 e2;refine(xH dQ 5 4 g0 (by decide) aSx (by decide)).mono ?_;rintro e g1 ⟨rfl,a4⟩;have e4:=b9.below a4 b9.lt;have e5:=c0.below a4 c0.lt;have e6:=bV e3 a4;have a5:=e4.alloc (.cells #[.string ⟨#[]⟩,.int .i64 0] 29);have c1:=e5.alloc (.cells #[.string ⟨#[]⟩,.int .i64 0] 29);have c2:=bD e6 (.cells #[.string ⟨#[]⟩,.int .i64 0] 29);have M:=a5.cell (i:=0) rfl;clear b9 c0 e3 a4 e4 e5 e6;go_wp2_with fail;generalize g1.alloc (.cells #[.string ⟨#[]⟩,.int .i64 0] 29)=g2 at*
 refine(FG d 0 361 g2 (U.below c2) s2 (by decide) (by decide) (by decide) (by decide) (aS0 _) (by decide)).mono ?_;rintro e g3 ⟨⟨a6,a7,a8,rfl⟩,a9⟩;have e7:=a5.below a9 a5.lt;have e8:=c1.below a9 c1.lt;have e9:=bV c2 a9;clear a5 c1 c2 a9 M;go_wp2_with fail;have c3:=e7.alloc (.cells #[.string a6,.int .u32 a7,.int .i64 0,.int .i64 a8] 36);have T:=e8.alloc (.cells #[.string a6,.int .u32 a7,.int .i64 0,.int .i64 a8] 36);have c4:=bD e9 (.cells #[.string a6,.int .u32 a7,.int .i64 0,.int .i64 a8] 36);generalize g3.alloc (.cells #[.string a6,.int .u32 a7,.int .i64 0,.int .i64 a8] 36)=H at*
 clear e7 e8 e9;obtain⟨E,f0⟩:∃E,E=H.heap.size:=⟨_,rfl⟩;have g8:=aBo (B:=E) (w0:=H) ⟨c3.cell (i:=0) rfl,c3.cell (i:=1) rfl,T.cell (i:=0) rfl,T.cell (i:=1) rfl,T.cell (i:=2) rfl,T.cell (i:=3) rfl,aB _ _,by omega⟩ (aB H.heap.size H).drew;have f6:=fun W=>FA dQ W (by decide)
 rw[<-HZ.out] at f6;have f7:=fun W=>aSt d 0 48 54156738319193 W (by omega) (by decide) (by decide) (by decide) (by decide)
 rw[c7.out] at f7;have g4:=hid f0;have g9:(dQ.toList==(ByteArray.mk #[98,97,110,97,110,97]).toList)=true:=beq_self_eq_true _;have i0:((ByteArray.mk #[98,97,110,97,110,97]).toList==dQ.toList)=true:=beq_self_eq_true _;clear c3 T f0 c7 F3 F4
 go_region_held3 (fun w'=>w'.cell? ⟨G,0,none⟩=some (.string d)/\w'.cell? ⟨G,1,none⟩=some (.int .i64 (N:Int))/\w'.cell? ⟨z,0,none⟩=some (.string dQ)/\w'.cell? ⟨z,1,none⟩=some (.int .u32 (Z:Int))/\w'.cell? ⟨z,2,none⟩=some (.int .i64 0)/\w'.cell? ⟨z,3,none⟩=some (.int .i64 (N:Int))/\Below E H w'/\E<=w'.heap.size)
  (first
   |with_reducible assumption
   |with_reducible exact aBo (by assumption) (by assumption))
  (first
   |(go_at_call 20;refine(f6 _).mono ?_;rintro e i1 ⟨rfl,g5⟩)
   |(go_at_call 25;refine(f7 _).mono ?_;rintro e A ⟨rfl,g6⟩))
 have f8:=(show A.cell? ⟨G,0,none⟩=some (.string d)/\A.cell? ⟨G,1,none⟩=some (.int .i64 (N:Int))/\A.cell? ⟨z,0,none⟩=some (.string dQ)/\A.cell? ⟨z,1,none⟩=some (.int .u32 (Z:Int))/\A.cell? ⟨z,2,none⟩=some (.int .i64 0)/\A.cell? ⟨z,3,none⟩=some (.int .i64 (N:Int))/\Below E H A/\E<=A.heap.size by assumption);have g7:Below w.heap.size w A:=c4.trans (Below.mono f8.2.2.2.2.2.2.1 (by rw[g4.out];exact c4.size));clear f8 g5 g6 c4;go_wp2_with fail;go_ret;exact⟨rfl,g7⟩
end Go.Proofs.YtiifmcicleljjaaGreatDoor
