/-
  Texts put together (part 23): the walks and the plain laws on which the statement stands.
-/
import Derived.Test.YtpgmbhpbgkljdaaGreatDoorZ22
set_option maxRecDepth 100000
set_option maxHeartbeats 12800000
open Go renaming callsD_of_wpS->FY,wpAnyH_ready->fL
open Go.Act renaming put->aJ
open Go.AllReadyH renaming cons->fA,nil->fM
open Go.Exit renaming thenS->GA
open Go.Instr renaming typeAssert->BA
open Go.RowKit.Below renaming refl->aB
open Go.World renaming cell?_setCell_other->iQ
open List renaming getElem?_cons_succ->aS,getElem?_cons_zero->aP,getElem?_toArray->aR,setIfInBounds_toArray->aK,set_cons_succ->aG,set_cons_zero->aH
open Option.some renaming inj->bW,injEq->iP
namespace Go.Proofs.YtpgmbhpbgkljdaaGreatDoor
open Go.RowKit Go Go.Shelf
theorem aQ5 (p q:Addr) (w:World):
  CallsD Tryz.prog 157 #[.pointer (some p),.pointer (some q)] .returning w fun e u' w'=>e=.returned (.tuple #[])/\u'=.returning/\w'=w:=by
 refine FY Tryz.func157 rfl fun c₀ cs hu=>?_
 apply wpS_seq;apply wpS_region;simp[wpOpsS,go_sem,recoverD,hu,Tryz.ntmps157,GA];refine wpS_of_wp ?_;go_wp2
 cases c₀
 simp_all [bodyPostS,results,Tryz.f157]
theorem aQ6 (v:Value) (xT:TypeId) (w:World):(BA (.iface 241 v) xT 241 true).run Tryz.prog w=.ok (.tuple #[v,.bool true]) w:=by
 simp[BA,run_underlying Tryz.underlying241]
theorem aAw {w W:World} {z:Nat} {x0 x1 x2 x3 x7:Value} (hA:Arr W z 36 [x0,x1,x2,x3]) (hB:Arr W (z+1) 26 [x7]) (hb:Below z w W) (y0 y1 y2 y3 y7:Value):
  Arr (((((W.setCell ⟨z,0,none⟩ y0).setCell ⟨z,1,none⟩ y1).setCell ⟨z,2,none⟩ y2).setCell ⟨z,3,none⟩ y3).setCell ⟨z+1,0,none⟩ y7) z 36 [y0,y1,y2,y3]/\
  Arr (((((W.setCell ⟨z,0,none⟩ y0).setCell ⟨z,1,none⟩ y1).setCell ⟨z,2,none⟩ y2).setCell ⟨z,3,none⟩ y3).setCell ⟨z+1,0,none⟩ y7) (z+1) 26 [y7]/\
  Below z w (((((W.setCell ⟨z,0,none⟩ y0).setCell ⟨z,1,none⟩ y1).setCell ⟨z,2,none⟩ y2).setCell ⟨z,3,none⟩ y3).setCell ⟨z+1,0,none⟩ y7):=by
 obtain⟨h1,h2⟩:=oZ hA hb y0 y1 y2 y3;have hne:(z+1)≠z:=by omega
 have hB4:=(((hB.other ⟨z,0,none⟩ (by simp) y0).other ⟨z,1,none⟩ (by simp) y1).other ⟨z,2,none⟩ (by simp) y2).other ⟨z,3,none⟩ (by simp) y3;exact⟨h1.other ⟨z+1,0,none⟩ (by simp) y7,hB4.set 0 y7,h2.setCell (p:=⟨z+1,0,none⟩) (Nat.le_succ _) y7⟩
theorem aQ7 {P:Program} {fn:Func} {p q:Tmp} {tx ty:TypeId} (h:fn.results=#[.cell p tx,.cell q ty]) (tmps:Array Value) (w:World) (ax ay:Addr) (vx vy:Value)
  (hp:tmps.getD p undef=.pointer (some ax)) (hq:tmps.getD q undef=.pointer (some ay))
  (hx:(loadVar tx ax).run P w=.ok vx w) (hy:(loadVar ty ay).run P w=.ok vy w):
  (results fn tmps).run P w=.ok (.tuple #[vx,vy]) w:=by
 have hp':tmps[p]?.getD undef=.pointer (some ax):=by simpa using hp
 have hq':tmps[q]?.getD undef=.pointer (some ay):=by simpa using hq
 simp[results,h,hp',hq',asAddr,hx,hy,Result.andThen]
theorem FB {W:World} {z:Nat} {y0 y1 y2 y3 u:Value} {tmps:Array Value} (hA:Arr W z 36 [y0,y1,y2,y3]) (hB:Arr W (z+1) 26 [u]) (_hu:u.oneCell'=true)
  (t6:tmps.getD 6 undef=.pointer (some ⟨z,0,none⟩)) (t7:tmps.getD 7 undef=.pointer (some ⟨z+1,0,none⟩)):
  (results Tryz.f141 tmps).run Tryz.prog W=.ok (.tuple #[.agg #[y0,y1,y2,y3],u]) W:=by
 have c7:=hB.cell (i:=0) rfl;exact aQ7 rfl tmps W ⟨z,0,none⟩ ⟨z+1,0,none⟩ _ _ t6 t7 (run_loadVar_row W z 36 36 _ (0,0) _ hA Tryz.underlying36 rfl YN) (by simp[go_sem,c7])
theorem aQ8 (z:Nat) (E:Int) (older:List PanicEntry) (w:World) (y0 y1 y2 y3 x7:Value) (g6:Arr w z 36 [y0,y1,y2,y3]) (g7:Arr w (z+1) 26 [x7]):
  CallsD Tryz.prog 157 #[.pointer (some ⟨z,0,none⟩),.pointer (some ⟨z+1,0,none⟩)] (.panicking ({v:=.iface 241 (.agg #[.int .i64 E]),recovered:=false}::older)) w fun e u' w'=>
   e=.returned (.tuple #[])/\u'=.panicking ({v:=.iface 241 (.agg #[.int .i64 E]),recovered:=true}::older)/\Arr w' z 36 [.string ⟨#[]⟩,.int .u32 0,.int .i64 0,.int .i64 0]/\Arr w' (z+1) 26 [.int .i64 E]/\Below z w w':=by
 refine FY Tryz.func157 rfl fun c₀ cs hu=>?_
 apply wpS_seq;apply wpS_region;simp[wpOpsS,go_sem,recoverD,hu,Tryz.ntmps157,GA];refine wpS_of_wp ?_;simp only[Array.replicate_succ,Array.replicate_zero,List.push_toArray,List.append_toArray,List.nil_append,List.cons_append,aK,aH,aG];have hta:=aQ6 (.agg #[.int .i64 E]);go_wp2_with fail;have g6':=g6.alloc (.cells #[.int .i64 E] 241);have g7':=g7.alloc (.cells #[.int .i64 E] 241);have hc0:=bS w (.int .i64 E) 241;have hzl:=g7.lt;have hBz:Below z w (w.alloc (.cells #[.int .i64 E] 241)):=(aB z w).alloc (by omega) _
 generalize w.alloc (.cells #[.int .i64 E] 241)=w1 at*
 obtain⟨sb,hsb⟩:∃sb,sb=w.heap.size:=⟨_,rfl⟩;rw[<-hsb] at hc0 hzl ⊢;clear hsb g6 g7;have hBd:=hBz.drew;have h6:Arr w1.drew z 36 [y0,y1,y2,y3]:=g6';have h7:Arr w1.drew (z+1) 26 [x7]:=g7';have hS0:w1.drew.cell? ⟨sb,0,none⟩=some (.int .i64 E):=hc0;refine wp_region_held_drew (S:=fun w'=>w'.cell? ⟨sb,0,none⟩=some (.int .i64 E)) (by kernel_rfl) hc0 (fun hHeld=>?_);generalize w1.drew=w2 at*
 obtain⟨k6,k6b⟩:=oZ h6 hBd (.string ⟨#[]⟩) (.int .u32 0) (.int .i64 0) (.int .i64 0);obtain⟨q6,q7,qb⟩:=aAw h6 h7 hBd (.string ⟨#[]⟩) (.int .u32 0) (.int .i64 0) (.int .i64 0) (.int .i64 E);have k7:=(((h7.other ⟨z,0,none⟩ (by simp) (.string ⟨#[]⟩)).other ⟨z,1,none⟩ (by simp) (.int .u32 0)).other ⟨z,2,none⟩ (by simp) (.int .i64 0)).other ⟨z,3,none⟩ (by simp) (.int .i64 0);have d0:=h6.cell (i:=0) rfl;have d1:=h6.cell (i:=1) rfl;have d2:=h6.cell (i:=2) rfl;have d3:=h6.cell (i:=3) rfl;have f0:=h6.free 0;have f1:=h6.free 1;have f2:=h6.free 2;have f3:=h6.free 3;have e7:=k7.cell (i:=0) rfl
 have f7:=k7.free 0;have hS1:((((w2.setCell ⟨z,0,none⟩ (.string ⟨#[]⟩)).setCell ⟨z,1,none⟩ (.int .u32 0)).setCell ⟨z,2,none⟩ (.int .i64 0)).setCell ⟨z,3,none⟩ (.int .i64 0)).cell? ⟨sb,0,none⟩=some (.int .i64 E):=by
  rw[iQ _ _ _ _ (tH (by omega)),iQ _ _ _ _ (tH (by omega)),iQ _ _ _ _ (tH (by omega)),iQ _ _ _ _ (tH (by omega))];exact hS0
 have hS2:(((((w2.setCell ⟨z,0,none⟩ (.string ⟨#[]⟩)).setCell ⟨z,1,none⟩ (.int .u32 0)).setCell ⟨z,2,none⟩ (.int .i64 0)).setCell ⟨z,3,none⟩ (.int .i64 0)).setCell ⟨z+1,0,none⟩ (.int .i64 E)).cell? ⟨sb,0,none⟩=some (.int .i64 E):=by rw[iQ _ _ _ _ (tH (by omega))];exact hS1
 clear g6' g7' hc0 hBz hBd h6 h7 k6 k6b k7;refine wpAnyH_take (i:=1) (oi:=?oi1) (v:=?v1) ?hi1 (by kernel_rfl) (by kernel_rfl) (by kernel_rfl) ?hq1 ?hy1 hS0 ?_
 case hi1=>(simp only[aR,aS,aP];rfl)
 case hq1=>exact fun _ _ _ h=>h
 case hy1=>(refine Or.inl ⟨by rfl,?_⟩;intro w' hSw;(try dsimp only at hSw);(try go_simp);try with_reducible rfl)
 try simp only[aJ,aK,aH,aG]
 refine wpAnyH_take (i:=2) (oi:=?oi2) (v:=?v2) ?hi2 (by kernel_rfl) (by kernel_rfl) (by kernel_rfl) ?hq2 ?hy2 hS0 ?_
 case hi2=>(simp only[aR,aS,aP];rfl)
 case hq2=>exact fun _ _ _ h=>h
 case hy2=>(refine Or.inl ⟨by rfl,?_⟩;intro w' hSw;(try dsimp only at hSw);(try go_simp);try with_reducible rfl)
 try simp only[aJ,aK,aH,aG]
 refine fL (rs:=[0]) (by kernel_rfl) (by simp) ?_;refine fA rfl (fun K hK=>?_) fM;go_simp;refine hK.out _ _ ?_ (fun _=>?_)
 ·exact hS0
 try simp only[aJ,aK,aH,aG]
 refine fL (rs:=[3]) (by kernel_rfl) (by simp) ?_;refine fA rfl (fun K hK=>?_) fM;go_simp;refine hK.out _ _ ?_ (fun _=>?_)
 ·first|with_reducible exact hS1|with_reducible exact hS2
 try simp only[aJ,aK,aH,aG]
 refine fL (rs:=[4]) (by kernel_rfl) (by simp) ?_;refine fA rfl (fun K hK=>?_) fM;go_simp;refine hK.out _ _ ?_ (fun _=>?_)
 ·first|with_reducible exact hS1|with_reducible exact hS2
 try simp only[aJ,aK,aH,aG]
 refine wpAnyH_done (by kernel_rfl) ?_ _;go_wp2_with fail;refine⟨rfl,.panicking ({v:=.iface 241 (.agg #[.int .i64 E]),recovered:=true}::older),?_,.tuple #[],?_,rfl,rfl,q6,q7,qb⟩
 ·rfl
 ·exact results_none rfl _ _ _
theorem aAx {w W:World} {s:List UInt8} {a room:Int} {z:Nat} {E:Int} {tmps:Array Value} {y0 y1 y2 y3 x7:Value} (h:cL s a room=(cW,0,0,E)) (hE:E≠0) (hz:w.heap.size=z)
  (g6:Arr W z 36 [y0,y1,y2,y3]) (g7:Arr W (z+1) 26 [x7]) (hb:Below z w W)
  (t6:tmps.getD 6 undef=.pointer (some ⟨z,0,none⟩)) (t7:tmps.getD 7 undef=.pointer (some ⟨z+1,0,none⟩)):
  Leaves Tryz.prog Tryz.f141 tmps (fun e w'=>EV w w' s a room e) [{target:=.fn (.func 157) #[.pointer (some ⟨z,0,none⟩),.pointer (some ⟨z+1,0,none⟩)],args:=#[]}] (.panicking (oC E)) W:=by
 refine leaves_cons (f:=157) (args:=#[.pointer (some ⟨z,0,none⟩),.pointer (some ⟨z+1,0,none⟩)]) (by simp) (by simp[go_sem]) ?_;refine(aQ8 z E [] W y0 y1 y2 y3 x7 g6 g7).mono ?_;rintro e u' w' ⟨rfl,rfl,h6,h7,hb'⟩;exact⟨_,FB h6 h7 rfl t6 t7,mQ h hE (hz▸hb.trans hb')⟩
theorem aAy (w:World) (v:Value):∀W,W=(w.alloc (.cells #[.string ⟨#[]⟩,.int .u32 0,.int .i64 0,.int .i64 0] 36)).alloc (.cells #[v] 26)->
  (Arr W w.heap.size 36 [.string ⟨#[]⟩,.int .u32 0,.int .i64 0,.int .i64 0]/\Arr W (w.heap.size+1) 26 [v])/\Below w.heap.size w W/\W.heap.size=w.heap.size+1+1:=by
 rintro W rfl;have a1:=Arr.new w 36 [.string ⟨#[]⟩,.int .u32 0,.int .i64 0,.int .i64 0];have a2:=Arr.new (w.alloc (.cells #[.string ⟨#[]⟩,.int .u32 0,.int .i64 0,.int .i64 0] 36)) 26 [v];have e:∀(W:World) (o:Obj),(W.alloc o).heap.size=W.heap.size+1:=fun W o=>by simp
 rw[e] at a2;refine⟨⟨a1.alloc _,a2⟩,?_,by simp⟩;exact((aB _ w).alloc (Nat.le_refl _) _).alloc (by simp) _
theorem MW (s:ByteArray) (a room:Int) (w:World) (hE:iF w) (hs:s.size<=120000) (ha1: -9223372036854775808<=a) (ha2:a<=9223372036854775807) (hr1: -9223372036854775808<=room) (hr2:room<=9223372036854775807):
  Calls Tryz.prog 141 #[.string s,.int .i64 a,.int .i64 room] w fun e w'=>EV w w' s.data.toList a room e:=by
 have hmf:∀(fn:Fn) (first cap:Array Value) (w:World),(Instr.makeFunc fn first cap).run Tryz.prog w=.ok (.func fn first cap) w:=fun _ _ _ _=>rfl
 obtain⟨⟨g6,g7⟩,hB0,hz0⟩:=aAy w (.int .i64 0) _ rfl;have hd:=wU s.data.toList a room;have hfit:=fun W=>ZU room W
 by_cases hbad:a<0\/room<1\/360<room
 ·rw[if_pos hbad] at hd;have HF:=hid hd;clear hd;obtain⟨⟨q6,q7⟩,qb,-⟩:=aAy w (.int .i64 1) _ rfl;clear g6 g7 hB0 hz0
  by_cases h1:a<0
  ·have u1:decide (a<0)=true:=decide_eq_true h1
   go_enter_defers Tryz.func141,Tryz.ntmps141
   go_wp2_with fail;exact⟨_,FB q6 q7 rfl rfl rfl,mQ HF.out (by decide) qb⟩
  have u1:decide (a<0)=false:=decide_eq_false h1;have hff:(decide (1<=room)&&decide (room<=360))=false:=by
   rw[Bool.and_eq_false_iff,decide_eq_false_iff_not,decide_eq_false_iff_not];omega
  rw[hff] at hfit
  go_enter_defers Tryz.func141,Tryz.ntmps141
  go_wp2_with fail;refine(hfit _).mono ?_;rintro e w' ⟨rfl,rfl⟩;go_wp2_with fail;exact⟨_,FB q6 q7 rfl rfl rfl,mQ HF.out (by decide) qb⟩
 obtain⟨A,rfl⟩:∃A:Nat,a=(A:Int):=⟨a.toNat,by omega⟩;obtain⟨R,rfl⟩:∃R:Nat,room=(R:Int):=⟨room.toNat,by omega⟩;have u1:decide ((A:Int)<0)=false:=decide_eq_false (by omega);have hff:(decide (1<=(R:Int))&&decide ((R:Int)<=360))=true:=by
  rw[Bool.and_eq_true,decide_eq_true_eq,decide_eq_true_eq];omega
 rw[hff] at hfit;clear hd hff
 go_enter_defers Tryz.func141,Tryz.ntmps141
 go_wp2_with fail;refine(hfit _).mono ?_;rintro e w' ⟨rfl,rfl⟩;generalize (w.alloc (.cells #[.string ⟨#[]⟩,.int .u32 0,.int .i64 0,.int .i64 0] 36)).alloc (.cells #[.int .i64 0] 26)=w0 at*
 obtain⟨z,hz⟩:∃z,w.heap.size=z:=⟨_,rfl⟩;rw[hz] at g6 g7 hB0 hz0 ⊢;have HZ:=hid hz;clear hz hfit;go_wp2_with fail;have hA0:BRd (w0.alloc (.cells #[.string s,.int .i64 (A:Int),.slice none 0 0,.slice none 0 0,.int .i64 0] 245)) w0.heap.size s A (.slice none 0 0) (.slice none 0 0) (.int .i64 0):=Arr.new w0 245 [.string s,.int .i64 (A:Int),.slice none 0 0,.slice none 0 0,.int .i64 0];have g6:=g6.alloc (.cells #[.string s,.int .i64 (A:Int),.slice none 0 0,.slice none 0 0,.int .i64 0] 245);have g7:=g7.alloc (.cells #[.string s,.int .i64 (A:Int),.slice none 0 0,.slice none 0 0,.int .i64 0] 245)
 have hB1:=hB0.alloc (o:=.cells #[.string s,.int .i64 (A:Int),.slice none 0 0,.slice none 0 0,.int .i64 0] 245) (by omega);rw[hz0] at hA0;generalize w0.alloc (.cells #[.string s,.int .i64 (A:Int),.slice none 0 0,.slice none 0 0,.int .i64 0] 245)=w1 at*
 have hz1:z+1+1<w1.heap.size:=Arr.lt hA0;clear hB0 hz0;refine(aQx (z+1+1) s A R w1 hA0 hs (by omega) (by omega) (by omega) (fun W hW=>hE.below (by rw[HZ.out];exact hB1.grown hW (by omega) (fun k hk=>by obtain rfl:=bW hk;omega)))).mono ?_;rintro e w2 (⟨E,hE0,hF,rfl,hg2⟩|⟨O,V,p,vt,vc,co,rfl,hA2,hg2,hD,hOl,hV⟩)
 ·have g6:=g6.grown hg2 (by simp only[ne_eq,iP];omega);have g7:=g7.grown hg2 (by simp only[ne_eq,iP];omega);have hB2:=hB1.grown hg2 (by omega) (fun k hk=>by obtain rfl:=bW hk;omega);have HF:=hid hF;clear hF;go_wp2_with fail;exact aAx HF.out hE0 HZ.out g6 g7 hB2 rfl rfl
 have g6:=g6.grown hg2 (by simp only[ne_eq,iP];omega);have g7:=g7.grown hg2 (by simp only[ne_eq,iP];omega);have hB2:=hB1.grown hg2 (by omega) (fun k hk=>by obtain rfl:=bW hk;omega);have hz2:=Nat.lt_of_lt_of_le hz1 hg2.size;have hsum:=fun W=>FA (mkS O) W (by rw[cP];omega)
 rw[fW] at hsum;obtain⟨Z,hZ⟩:∃Z,Z=(fG O).toNat:=⟨_,rfl⟩;rw[<-hZ] at hsum hD;have HD:=hid hD;clear hB1 hz1 hg2 hA0 hD hZ;go_wp2_with fail;refine(hsum _).mono ?_;rintro e w3 ⟨rfl,hb3⟩;have hA3:=Arr.below hA2 hb3 (Arr.lt hA2);have g6:=g6.below hb3 g6.lt;have g7:=g7.below hb3 g7.lt;have hB3:=hB2.trans (hb3.mono (by omega));clear hsum hA2 hB2 hb3
 by_cases hZV:Z=V
 rotate_left
 ·have v1:((Z:Int)==(V:Int))=false:=by rw[beq_eq_false_iff_ne];omega
  have v2:(Z==V)=false:=by rw[beq_eq_false_iff_ne];exact hZV
  have hD:=HD.out;rw[if_pos hZV] at hD;have HF:=hid hD;clear hD;go_wp2_with fail;refine(pU false 7 _ (by decide)).mono ?_;rintro e w4 (⟨h0,rfl,rfl⟩|⟨h0,rfl,rfl⟩)
  ·exact absurd h0 (by decide)
  go_wp2_with fail;exact aAx HF.out (by decide) HZ.out g6 g7 hB3 rfl rfl
 have v1:((Z:Int)==(V:Int))=true:=by rw[beq_iff_eq];omega
 have v2:(Z==V)=true:=by rw[beq_iff_eq];exact hZV
 have hD:=HD.out;rw[if_neg (fun k=>k hZV)] at hD;have HF:=hid hD;clear hD hZV;go_wp2_with fail;refine(pU true 7 _ (by decide)).mono ?_;rintro e w4 (⟨h0,rfl,rfl⟩|⟨h0,rfl,rfl⟩)
 rotate_left
 ·exact absurd h0 (by decide)
 obtain⟨q6,q7,qb⟩:=aAw g6 g7 hB3 (.string (mkS O)) (.int .u32 (V:Int)) (.int .i64 (A:Int)) (.int .i64 (p:Int)) (.int .i64 0);have k7:=(((g7.other ⟨z,0,none⟩ (by simp) (.string (mkS O))).other ⟨z,1,none⟩ (by simp) (.int .u32 (V:Int))).other ⟨z,2,none⟩ (by simp) (.int .i64 (A:Int))).other ⟨z,3,none⟩ (by simp) (.int .i64 (p:Int));have d0:=g6.cell (i:=0) rfl;have d1:=g6.cell (i:=1) rfl;have d2:=g6.cell (i:=2) rfl;have d3:=g6.cell (i:=3) rfl;have f0:=g6.free 0;have f1:=g6.free 1;have f2:=g6.free 2;have f3:=g6.free 3;have e7:=k7.cell (i:=0) rfl;have f7:=k7.free 0
 have b1:=Arr.cell hA3 (i:=1) rfl;clear g6 g7 hB3 k7 hA3;go_wp2_with fail;refine leaves_cons (f:=157) (args:=#[.pointer (some ⟨z,0,none⟩),.pointer (some ⟨z+1,0,none⟩)]) (by simp) (by simp[go_sem]) ?_;refine(aQ5 ⟨z,0,none⟩ ⟨z+1,0,none⟩ _).mono ?_;rintro e u' w'' ⟨rfl,rfl,rfl⟩;exact⟨_,FB q6 q7 rfl rfl rfl,by rw[HF.out,MG],by rw[HZ.out];exact qb⟩
end Go.Proofs.YtpgmbhpbgkljdaaGreatDoor
