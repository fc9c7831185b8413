/-
  The walk of an index of which one thing is another one (chapter 19's Turned), itself.
-/
import Derived.Test.YtmcogmmncfihhaaGreatDoorP20iZ
import Derived.Test.YtmcogmmncfihhaaGreatDoorP20dZ
import Derived.Test.YtmcogmmncfihhaaGreatDoorZ23
set_option linter.unusedVariables false
set_option linter.unusedSimpArgs false
namespace Go.Proofs.YtmcogmmncfihhaaGreatDoor
open Go.RowKit Go Go.Shelf

/-- What Turned answers. -/
def Trn (w w' : World) (n : Nat) (e : Ending) : Prop := ∃ u m, e = .returned u ∧ RdR w' u (m.map LF) ∧ m.length ≤ n + 1 ∧ WfE m ∧ Below w.heap.size w w'

theorem flat_take20 : ∀ (l : List Ent) (k : Nat), ((l.take k).map LF).flatten = ((l.map LF).flatten).take (k * 5)
  | [], k => by simp
  | y :: l, 0 => by simp
  | y :: l, k + 1 => by
    have e : (LF y).length = 5 := rfl
    rw [List.take_succ_cons, List.map_cons, List.map_cons, List.flatten_cons, List.flatten_cons, flat_take20 l k, List.take_append, e, List.take_of_length_le (l := LF y) (by rw [e]; omega), show (k + 1) * 5 - 5 = k * 5 by omega]
theorem flat_drop20 : ∀ (l : List Ent) (k : Nat), ((l.drop k).map LF).flatten = ((l.map LF).flatten).drop (k * 5)
  | [], k => by simp
  | y :: l, 0 => by simp
  | y :: l, k + 1 => by
    have e : (LF y).length = 5 := rfl
    rw [List.drop_succ_cons, List.map_cons, List.flatten_cons, flat_drop20 l k, List.drop_append, e, List.drop_of_length_le (l := LF y) (by rw [e]; omega), List.nil_append, show (k + 1) * 5 - 5 = k * 5 by omega]
theorem ownE_cells {w : World} {B g cap : Nat} {l : List Ent} (h : OwR w B 51 5 (.slice (some ⟨g, 0, none⟩) l.length cap) (l.map LF)) (j : Nat) (hj : j < l.length * 5) : w.cell? ⟨g, j, none⟩ = ((l.map LF).flatten)[j]? := by
  unfold OwR at h
  rw [List.length_map] at h
  exact World.ownsRow.cellAt h j hj
theorem flatE_length (l : List Ent) : ((l.map LF).flatten).length = l.length * 5 := by
  have := aVf (aVn l)
  rw [List.length_map] at this
  exact this
theorem rd_take20 {w : World} {B g cap : Nat} {l : List Ent} (h : OwR w B 51 5 (.slice (some ⟨g, 0, none⟩) l.length cap) (l.map LF)) (k : Nat) (hk : k ≤ l.length) (hl : l.length ≤ 1000) : RdR w (.slice (some ⟨g, 0, none⟩) k k) ((l.take k).map LF) := by
  have hlt := (OwR.lt h g rfl).2
  refine ⟨_, k, by rw [List.length_map, List.length_take, Nat.min_eq_left hk], by rw [List.length_map, List.length_take]; omega, by unfold maxLen; omega, .inr ⟨g, 0, rfl, hlt, fun j hj => ?_⟩⟩
  rw [flat_take20] at hj ⊢
  rw [List.length_take, flatE_length] at hj
  rw [Nat.zero_add, ownE_cells h j (by omega), List.getD_eq_getElem?_getD, List.getElem?_take, if_pos (by omega), List.getElem?_eq_getElem (by rw [flatE_length]; omega)]
  rfl
theorem rd_drop20 {w : World} {B g cap : Nat} {l : List Ent} (h : OwR w B 51 5 (.slice (some ⟨g, 0, none⟩) l.length cap) (l.map LF)) (k : Nat) (hk : k ≤ l.length) (hc : l.length ≤ cap) (hm : cap ≤ 9223372036854775807) : RdR w (.slice (some ⟨g, k * 5, none⟩) (l.length - k) (cap - k)) ((l.drop k).map LF) := by
  have hlt := (OwR.lt h g rfl).2
  refine ⟨_, cap - k, by rw [List.length_map, List.length_drop], by rw [List.length_map, List.length_drop]; omega, by unfold maxLen; omega, .inr ⟨g, k * 5, rfl, hlt, fun j hj => ?_⟩⟩
  rw [flat_drop20] at hj ⊢
  rw [List.length_drop, flatE_length] at hj
  rw [ownE_cells h (k * 5 + j) (by omega), List.getD_eq_getElem?_getD, List.getElem?_drop, List.getElem?_eq_getElem (by rw [flatE_length]; omega)]
  rfl
theorem cut3_20 (g n cap k : Nat) (hk : k ≤ n) (hn : n ≤ cap) (W : World) : (Instr.sliceAt 26 (.slice (some ⟨g, 0, none⟩) n cap) none (some (.int .i64 (k : Int))) (some (.int .i64 (k : Int)))).run Tryz.prog W = .ok (.slice (some ⟨g, 0, none⟩) k k) W := by
  have k1 : k ≤ cap := by omega
  by_cases h0 : k = 0
  · subst h0
    simp [go_sem]
  · simp [go_sem, k1, h0]
theorem cutK_20 (g n cap k : Nat) (hk : k ≤ n) (hn : n ≤ cap) (h0 : cap ≠ k) (hk0 : k ≠ 0) (W : World) : (Instr.sliceAt 26 (.slice (some ⟨g, 0, none⟩) n cap) (some (.int .i64 (k : Int))) none none).run Tryz.prog W = .ok (.slice (some ⟨g, k * 5, none⟩) (n - k) (cap - k)) W := by
  simp [go_sem, hk, h0, hk0]
theorem cutE_20 (g n : Nat) (W : World) : (Instr.sliceAt 26 (.slice (some ⟨g, 0, none⟩) n n) (some (.int .i64 (n : Int))) none none).run Tryz.prog W = .ok (.slice (some ⟨g, 0, none⟩) 0 0) W := by
  simp [go_sem]
theorem appRun20 {ops : Array Oper} {rest : List Oper} {o : Oper} {a : Act} {Q : Exit → Act → World → Prop} {w : World} (hgd : o.guard = none) (s x : Operand)
    (ho : o.op = .call { callee := .builtin .append, args := #[s, x], argTypes := #[26, 26] }) (v sv v' : Value) (w' : World) (hs : a.eval s = v) (hx : a.eval x = sv)
    (hr : (Builtin.append_ #[26, 26] o.type #[v, sv]).run Tryz.prog w = .ok v' w') (h : wpList Tryz.prog ops Q rest (a.put o.dst v') w') : wpList Tryz.prog ops Q (o :: rest) a w := by
  refine wpList_plain hgd fun K hK => ?_
  unfold Oper.wp execOp
  simp only [ho, resolve, invoke, builtin, Sem.run_bind, Sem.run_pure, Result.andThen_ok, List.map_toArray, List.map_cons, List.map_nil, hs, hx, hr]
  exact hK _ _ h

set_option maxRecDepth 100000 in
set_option maxHeartbeats 6400000 in
theorem turned19_any (v : Value) (l : List Ent) (which x : Int) (w : World) (hr : RdR w v (l.map LF)) (hl : l.length ≤ 1000) (hw : WfE l) (hw1 : -9223372036854775808 ≤ which) (hw2 : which ≤ 9223372036854775807) (hx1 : -9223372036854775808 ≤ x) (hx2 : x ≤ 9223372036854775807) :
    Calls Tryz.prog 18 #[v, .int .i64 which, .int .i64 x] w fun e w' => Trn w w' l.length e := by
  unfold Trn
  by_cases h0 : l.length = 0
  · obtain rfl : l = [] := List.eq_nil_of_length_eq_zero h0
    obtain ⟨a, ca, rfl, -⟩ := aWp hr
    have hap := fun ty W => appNil20 none 0 0 (Nat.le_refl _) a ca ty W
    go_enter Tryz.func18, Tryz.ntmps18
    go_wp2_with (at_builtin; refine appRun20 rfl _ _ rfl _ _ _ _ rfl rfl (hap _ _) ?_)
    go_ret
    exact ⟨_, [], rfl, RdR.nil _, Nat.zero_le _, fun y hy => (nomatch hy), Below.refl _ _⟩
  obtain ⟨C, hC⟩ : ∃ C, C = which.tdiv 8 := ⟨_, rfl⟩
  have hCt := bAb which 8 (by decide) hw1 hw2
  rw [show ((8 : Nat) : Int) = 8 from rfl, ← hC] at hCt
  have hCb : -9223372036854775808 ≤ C ∧ C ≤ 9223372036854775807 := ⟨hCt.1, hCt.2.1⟩
  have mC := hCt.2.2
  clear hCt
  have hC' := hC.symm
  clear hC
  obtain ⟨g1, g2⟩ := vU C (l.length : Int) (by omega)
  have pkk := fun W => aVl C (l.length : Int) W hCb.1 hCb.2 (by omega) (by omega)
  obtain ⟨k, hk⟩ : ∃ k : Nat, gA C (l.length : Int) = (k : Int) := ⟨_, (Int.toNat_of_nonneg g1).symm⟩
  rw [hk] at pkk g2
  have hkl : k < l.length := by omega
  obtain ⟨g3, g4⟩ := vU which 8 (by decide)
  have pkj := fun W => aVl which 8 W hw1 hw2 (by decide) (by decide)
  obtain ⟨j, hj⟩ : ∃ j : Nat, gA which 8 = (j : Int) := ⟨_, (Int.toNat_of_nonneg g3).symm⟩
  rw [hj] at pkj g4
  obtain ⟨g5, g6⟩ := vU x 1000 (by decide)
  have pkx := fun W => aVl x 1000 W hx1 hx2 (by decide) (by decide)
  obtain ⟨X, hX⟩ : ∃ X : Nat, gA x 1000 = (X : Int) := ⟨_, (Int.toNat_of_nonneg g5).symm⟩
  rw [hX] at pkx g6
  have mX : IntKind.u32.wrap (X : Int) = (X : Int) := by rw [IntKind.wrap_u32]; omega
  have hXb : (0 : Int) ≤ (X : Int) ∧ (X : Int) < 4294967296 := by omega
  have mX' : (X : Int) % 4294967296 = (X : Int) := by omega
  obtain ⟨y, hy⟩ : ∃ y, l[k]? = some y := ⟨_, List.getElem?_eq_getElem hkl⟩
  have hwy := hw y (List.mem_of_getElem? hy)
  have hlp : 0 < l.length := by omega
  have t0 : ((l.length : Int) == 0) = false := beq_eq_false_iff_ne.2 (by omega)
  have t0' : (l.length == 0) = false := beq_eq_false_iff_ne.2 h0
  have HW := hid hw
  have HY := hid hy
  clear hk hj hX g1 g3 g5 hw hy h0
  obtain ⟨a, ca, rfl, -⟩ := aWp hr
  go_enter Tryz.func18, Tryz.ntmps18
  go_wp2_with (at_builtin; refine appAll20 rfl _ _ rfl rfl _ rfl l hr hlp hl ?_; intro g cap w1 ho h1)
  refine (pkk _).mono ?_
  rintro e w' ⟨rfl, rfl⟩
  clear pkk mC hC'
  go_wp2_with fail
  refine (pkj _).mono ?_
  rintro e w' ⟨rfl, rfl⟩
  clear pkj
  have hcell := fun i u (hi : (LF y)[i]? = some u) => by
    have q := ho
    unfold OwR at q
    rw [List.length_map] at q
    have hi5 : i < 5 := (List.getElem?_eq_some_iff.1 hi).1
    have hfl := aVg (aVn l) k i (LF y) u (by rw [List.getElem?_map, HY.out]; rfl) hi
    have := World.ownsRow.cellAt q (k * 5 + i) (by omega)
    rw [hfl] at this
    exact this
  have hfro := fun i => by
    have q := ho
    unfold OwR at q
    rw [List.length_map] at q
    exact World.ownsRow.frozenAt q i
  have hg0 : w.heap.size ≤ g := (ho.lt g rfl).1
  have c0 := hcell 0 _ rfl
  have c1 := hcell 1 _ rfl
  have c2 := hcell 2 _ rfl
  have c3 := hcell 3 _ rfl
  have c4 := hcell 4 _ rfl
  have f0 := hfro (k * 5)
  have f1 := hfro (k * 5 + 1)
  have f2 := hfro (k * 5 + 2)
  have f3 := hfro (k * 5 + 3)
  have f4 := hfro (k * 5 + 4)
  rw [Nat.add_zero] at c0
  have hcap : l.length ≤ cap ∧ cap ≤ 9223372036854775807 := by
    obtain ⟨a', c', e', p1, p2, -⟩ := aWp (OwR.rd ho)
    unfold maxLen at p2
    injection e' with _ _ e3
    omega
  clear hcell hr
  have hj8 : j = 0 ∨ j = 1 ∨ j = 2 ∨ j = 3 ∨ j = 4 ∨ j = 5 ∨ j = 6 ∨ j = 7 := by omega
  clear g4
  rcases hj8 with rfl | rfl | rfl | rfl | rfl | rfl | rfl | rfl
  · go_wp2_with fail
    go_ret
    exact ⟨_, _, rfl, (ownE_set (j := 0) (x' := ⟨x, y.r, y.f, y.n, y.y⟩) ho HY.out (by decide) rfl).rd, by rw [List.length_set]; omega, wfE_set HW.out (fun z hz => by rw [List.mem_singleton.1 hz]; exact ⟨⟨hx1, hx2⟩, hwy.2⟩), h1.setCell (p := ⟨g, _, none⟩) hg0 _⟩
  · go_wp2_with fail
    go_ret
    exact ⟨_, _, rfl, (ownE_set (j := 1) (x' := ⟨y.a, x, y.f, y.n, y.y⟩) ho HY.out (by decide) rfl).rd, by rw [List.length_set]; omega, wfE_set HW.out (fun z hz => by rw [List.mem_singleton.1 hz]; exact ⟨hwy.1, ⟨hx1, hx2⟩, hwy.2.2⟩), h1.setCell (p := ⟨g, _, none⟩) hg0 _⟩
  · go_wp2_with fail
    go_ret
    exact ⟨_, _, rfl, (ownE_set (j := 2) (x' := ⟨y.a, y.r, x, y.n, y.y⟩) ho HY.out (by decide) rfl).rd, by rw [List.length_set]; omega, wfE_set HW.out (fun z hz => by rw [List.mem_singleton.1 hz]; exact ⟨hwy.1, hwy.2.1, ⟨hx1, hx2⟩, hwy.2.2.2⟩), h1.setCell (p := ⟨g, _, none⟩) hg0 _⟩
  · go_wp2_with fail
    go_ret
    exact ⟨_, _, rfl, (ownE_set (j := 3) (x' := ⟨y.a, y.r, y.f, x, y.y⟩) ho HY.out (by decide) rfl).rd, by rw [List.length_set]; omega, wfE_set HW.out (fun z hz => by rw [List.mem_singleton.1 hz]; exact ⟨hwy.1, hwy.2.1, hwy.2.2.1, ⟨hx1, hx2⟩, hwy.2.2.2.2⟩), h1.setCell (p := ⟨g, _, none⟩) hg0 _⟩
  · go_wp2_with fail
    refine (pkx _).mono ?_
    rintro e w' ⟨rfl, rfl⟩
    go_wp2_with fail
    go_ret
    exact ⟨_, _, rfl, (ownE_set (j := 4) (x' := ⟨y.a, y.r, y.f, y.n, (X : Int)⟩) ho HY.out (by decide) rfl).rd, by rw [List.length_set]; omega, wfE_set HW.out (fun z hz => by rw [List.mem_singleton.1 hz]; exact ⟨hwy.1, hwy.2.1, hwy.2.2.1, hwy.2.2.2.1, hXb⟩), h1.setCell (p := ⟨g, _, none⟩) hg0 _⟩
  · have hb3 := fun W => cut3_20 g l.length cap k (by omega) hcap.1 W
    obtain ⟨K, hK⟩ : ∃ K, K = k + 1 := ⟨_, rfl⟩
    have hKi : (k : Int) + 1 = (K : Int) := by omega
    have hKw := aU4 K (by omega)
    have hrt := rd_take20 ho k (by omega) hl
    have hwt : WfE (l.take k) := fun z hz => HW.out z (List.mem_of_mem_take hz)
    have hS0 : Below w.heap.size w w1.drew := h1.drew
    by_cases hKl : K = l.length
    · obtain ⟨v2, hv2, a2, c2', hv2e⟩ : ∃ v2, (∀ W, (Instr.sliceAt 26 (.slice (some ⟨g, 0, none⟩) l.length cap) (some (.int .i64 (K : Int))) none none).run Tryz.prog W = .ok v2 W) ∧ ∃ a2 c2', v2 = .slice a2 0 c2' := by
        by_cases hce : cap = l.length
        · exact ⟨_, fun W => by rw [hKl, hce]; exact cutE_20 g l.length W, _, _, rfl⟩
        · exact ⟨_, fun W => cutK_20 g l.length cap K (by omega) hcap.1 (by omega) (by omega) W, _, _, by rw [hKl, Nat.sub_self]⟩
      subst hv2e
      have hr5 := appNil20 (some ⟨g, 0, none⟩) k k (Nat.le_refl _) a2 c2' 26 w1.drew
      have hS2 : Below w.heap.size w w1.drew := h1.drew
      clear c0 c1 c2 c3 c4 f0 f1 f2 f3 f4 hK hKl
      go_wp2_with fail
      refine wp_region_held_drew (S := fun wx => Below w.heap.size w wx) (by kernel_rfl) hS0 (fun hHeld => ?_)
      refine wpAnyH_take (i := 0) (oi := ?oia0) (v := ?va0) ?hia0 (by kernel_rfl) (by kernel_rfl) (by kernel_rfl) ?hqa0 ?hya0 hHeld ?_
      case hia0 => (simp only [List.getElem?_toArray, List.getElem?_cons_zero]; rfl)
      case hqa0 => exact fun _ _ _ h => h
      case hya0 => (refine Or.inl ⟨by rfl, ?_⟩; intro w' hSw; (try dsimp only at hSw); (try go_simp); try with_reducible rfl)
      try simp only [Act.put, List.setIfInBounds_toArray, List.set_cons_zero, List.set_cons_succ]
      refine wpAnyH_take (i := 1) (oi := ?oia1) (v := ?va1) ?hia1 (by kernel_rfl) (by kernel_rfl) (by kernel_rfl) ?hqa1 ?hya1 hHeld ?_
      case hia1 => (simp only [List.getElem?_toArray, List.getElem?_cons_succ, List.getElem?_cons_zero]; rfl)
      case hqa1 => exact fun _ _ _ h => h
      case hya1 => (refine Or.inl ⟨by rfl, ?_⟩; intro w' hSw; (try dsimp only at hSw); (try go_simp); try with_reducible rfl)
      try simp only [Act.put, List.setIfInBounds_toArray, List.set_cons_zero, List.set_cons_succ]
      refine wpAnyH_take (i := 2) (oi := ?oia2) (v := ?va2) ?hia2 (by kernel_rfl) (by kernel_rfl) (by kernel_rfl) ?hqa2 ?hya2 hHeld ?_
      case hia2 => (simp only [List.getElem?_toArray, List.getElem?_cons_succ, List.getElem?_cons_zero]; rfl)
      case hqa2 => exact fun _ _ _ h => h
      case hya2 => (refine Or.inl ⟨by rfl, ?_⟩; intro w' hSw; (try dsimp only at hSw); (try go_simp); try with_reducible rfl)
      try simp only [Act.put, List.setIfInBounds_toArray, List.set_cons_zero, List.set_cons_succ]
      refine wpAnyH_take (i := 3) (oi := ?oia3) (v := ?va3) ?hia3 (by kernel_rfl) (by kernel_rfl) (by kernel_rfl) ?hqa3 ?hya3 hHeld ?_
      case hia3 => (simp only [List.getElem?_toArray, List.getElem?_cons_succ, List.getElem?_cons_zero]; rfl)
      case hqa3 => exact fun _ _ _ h => h
      case hya3 => (refine Or.inl ⟨by rfl, ?_⟩; intro w' hSw; (try dsimp only at hSw); (try go_simp); try with_reducible rfl)
      try simp only [Act.put, List.setIfInBounds_toArray, List.set_cons_zero, List.set_cons_succ]
      refine wpAnyH_take (i := 4) (oi := ?oia4) (v := ?va4) ?hia4 (by kernel_rfl) (by kernel_rfl) (by kernel_rfl) ?hqa4 ?hya4 hHeld ?_
      case hia4 => (simp only [List.getElem?_toArray, List.getElem?_cons_succ, List.getElem?_cons_zero]; rfl)
      case hqa4 => exact fun _ _ _ h => h
      case hya4 => (refine Or.inl ⟨by rfl, ?_⟩; intro w' hSw; (try dsimp only at hSw); (try go_simp); try with_reducible rfl)
      try simp only [Act.put, List.setIfInBounds_toArray, List.set_cons_zero, List.set_cons_succ]
      refine wpAnyH_take (i := 5) (oi := ?oia5) (v := ?va5) ?hia5 (by kernel_rfl) (by kernel_rfl) (by kernel_rfl) ?hqa5 ?hya5 hHeld ?_
      case hia5 => (simp only [List.getElem?_toArray, List.getElem?_cons_succ, List.getElem?_cons_zero]; rfl)
      case hqa5 => exact fun _ _ _ h => h
      case hya5 => (refine Or.inl ⟨by rfl, ?_⟩; intro w' hSw; (try dsimp only at hSw); (try go_simp); try with_reducible rfl)
      try simp only [Act.put, List.setIfInBounds_toArray, List.set_cons_zero, List.set_cons_succ]
      refine wpAnyH_take (i := 6) (oi := ?oia6) (v := ?va6) ?hia6 (by kernel_rfl) (by kernel_rfl) (by kernel_rfl) ?hqa6 ?hya6 hHeld ?_
      case hia6 => (simp only [List.getElem?_toArray, List.getElem?_cons_succ, List.getElem?_cons_zero]; rfl)
      case hqa6 => exact fun _ _ _ h => h
      case hya6 => (refine Or.inl ⟨by rfl, ?_⟩; intro w' hSw; (try dsimp only at hSw); (try go_simp); try with_reducible rfl)
      try simp only [Act.put, List.setIfInBounds_toArray, List.set_cons_zero, List.set_cons_succ]
      refine wpAnyH_take (i := 7) (oi := ?oia7) (v := ?va7) ?hia7 (by kernel_rfl) (by kernel_rfl) (by kernel_rfl) ?hqa7 ?hya7 hHeld ?_
      case hia7 => (simp only [List.getElem?_toArray, List.getElem?_cons_succ, List.getElem?_cons_zero]; rfl)
      case hqa7 => exact fun _ _ _ h => h
      case hya7 => (refine Or.inl ⟨by rfl, ?_⟩; intro w' hSw; (try dsimp only at hSw); (try go_simp); try with_reducible rfl)
      try simp only [Act.put, List.setIfInBounds_toArray, List.set_cons_zero, List.set_cons_succ]
      refine wpAnyH_ready (rs := [8]) (by kernel_rfl) (by simp) ?_
      refine AllReadyH.cons rfl (fun K hK => ?_) AllReadyH.nil
      refine xC rfl (.tmp 64) (.tmp 68) 26 rfl (.slice (some ⟨g, 0, none⟩) k k) (.slice a2 0 c2') (.slice (some ⟨g, 0, none⟩) k k) w1.drew (by simp [Act.eval]) (by simp [Act.eval]) hr5 ?_
      refine hK.out _ _ hS2 (fun _ => ?_)
      try simp only [Act.put, List.setIfInBounds_toArray, List.set_cons_zero, List.set_cons_succ]
      clear hK K
      refine wpAnyH_ready (rs := [9]) (by kernel_rfl) (by simp) ?_
      refine AllReadyH.cons rfl (fun K hK => ?_) AllReadyH.nil
      go_simp
      refine hK.out _ _ hS2 (fun _ => ?_)
      try simp only [Act.put, List.setIfInBounds_toArray, List.set_cons_zero, List.set_cons_succ]
      clear hK K
      refine wpAnyH_done (by kernel_rfl) ?_ _
      go_wp2_with fail
      go_ret
      exact ⟨_, l.take k, rfl, hrt, by rw [List.length_take]; omega, hwt, h1.drew⟩
    · have hv2 := fun W => cutK_20 g l.length cap K (by omega) hcap.1 (by omega) (by omega) W
      have hrd := rd_drop20 ho K (by omega) hcap.1 hcap.2
      obtain ⟨v2, hv2e⟩ : ∃ v2, v2 = Value.slice (some ⟨g, K * 5, none⟩) (l.length - K) (cap - K) := ⟨_, rfl⟩
      rw [← hv2e] at hv2 hrd
      clear hv2e
      obtain ⟨v', W3, hr5, q1, q2⟩ := appFull20 g k (((l.take k).map LF).flatten) (by rw [flatE_length, List.length_take]; omega) w1.drew (fun j u hj => by
        rw [flat_take20] at hj
        have hj2 := (List.getElem?_eq_some_iff.1 hj).1
        rw [List.length_take, flatE_length] at hj2
        rw [List.getElem?_take, if_pos (by omega)] at hj
        exact (ownE_cells ho j (by omega)).trans hj) v2 ((l.drop K).map LF) hrd (aVn _) (by rw [List.length_map, List.length_drop]; omega) (by rw [List.length_map, List.length_drop]; omega) 26
      have q3 : OwR W3 w1.heap.size 51 5 v' ((l.take k ++ l.drop K).map LF) := by
        unfold OwR
        rw [List.map_append, List.flatten_append, List.length_append, List.length_map, List.length_take, Nat.min_eq_left (by omega)]
        exact q1
      have hS2 : Below w.heap.size w W3 := h1.drew.grown q2 (show w.heap.size ≤ w1.drew.heap.size from h1.size) (fun k hk => nomatch hk)
      have hwd : WfE (l.take k ++ l.drop K) := fun z hz => (List.mem_append.1 hz).elim (fun h => hwt z h) (fun h => HW.out z (List.mem_of_mem_drop h))
      clear c0 c1 c2 c3 c4 f0 f1 f2 f3 f4 q1 q2 hrt hrd hwt hK
      go_wp2_with fail
      refine wp_region_held_drew (S := fun wx => Below w.heap.size w wx) (by kernel_rfl) hS0 (fun hHeld => ?_)
      refine wpAnyH_take (i := 0) (oi := ?oib0) (v := ?vb0) ?hib0 (by kernel_rfl) (by kernel_rfl) (by kernel_rfl) ?hqb0 ?hyb0 hHeld ?_
      case hib0 => (simp only [List.getElem?_toArray, List.getElem?_cons_zero]; rfl)
      case hqb0 => exact fun _ _ _ h => h
      case hyb0 => (refine Or.inl ⟨by rfl, ?_⟩; intro w' hSw; (try dsimp only at hSw); (try go_simp); try with_reducible rfl)
      try simp only [Act.put, List.setIfInBounds_toArray, List.set_cons_zero, List.set_cons_succ]
      refine wpAnyH_take (i := 1) (oi := ?oib1) (v := ?vb1) ?hib1 (by kernel_rfl) (by kernel_rfl) (by kernel_rfl) ?hqb1 ?hyb1 hHeld ?_
      case hib1 => (simp only [List.getElem?_toArray, List.getElem?_cons_succ, List.getElem?_cons_zero]; rfl)
      case hqb1 => exact fun _ _ _ h => h
      case hyb1 => (refine Or.inl ⟨by rfl, ?_⟩; intro w' hSw; (try dsimp only at hSw); (try go_simp); try with_reducible rfl)
      try simp only [Act.put, List.setIfInBounds_toArray, List.set_cons_zero, List.set_cons_succ]
      refine wpAnyH_take (i := 2) (oi := ?oib2) (v := ?vb2) ?hib2 (by kernel_rfl) (by kernel_rfl) (by kernel_rfl) ?hqb2 ?hyb2 hHeld ?_
      case hib2 => (simp only [List.getElem?_toArray, List.getElem?_cons_succ, List.getElem?_cons_zero]; rfl)
      case hqb2 => exact fun _ _ _ h => h
      case hyb2 => (refine Or.inl ⟨by rfl, ?_⟩; intro w' hSw; (try dsimp only at hSw); (try go_simp); try with_reducible rfl)
      try simp only [Act.put, List.setIfInBounds_toArray, List.set_cons_zero, List.set_cons_succ]
      refine wpAnyH_take (i := 3) (oi := ?oib3) (v := ?vb3) ?hib3 (by kernel_rfl) (by kernel_rfl) (by kernel_rfl) ?hqb3 ?hyb3 hHeld ?_
      case hib3 => (simp only [List.getElem?_toArray, List.getElem?_cons_succ, List.getElem?_cons_zero]; rfl)
      case hqb3 => exact fun _ _ _ h => h
      case hyb3 => (refine Or.inl ⟨by rfl, ?_⟩; intro w' hSw; (try dsimp only at hSw); (try go_simp); try with_reducible rfl)
      try simp only [Act.put, List.setIfInBounds_toArray, List.set_cons_zero, List.set_cons_succ]
      refine wpAnyH_take (i := 4) (oi := ?oib4) (v := ?vb4) ?hib4 (by kernel_rfl) (by kernel_rfl) (by kernel_rfl) ?hqb4 ?hyb4 hHeld ?_
      case hib4 => (simp only [List.getElem?_toArray, List.getElem?_cons_succ, List.getElem?_cons_zero]; rfl)
      case hqb4 => exact fun _ _ _ h => h
      case hyb4 => (refine Or.inl ⟨by rfl, ?_⟩; intro w' hSw; (try dsimp only at hSw); (try go_simp); try with_reducible rfl)
      try simp only [Act.put, List.setIfInBounds_toArray, List.set_cons_zero, List.set_cons_succ]
      refine wpAnyH_take (i := 5) (oi := ?oib5) (v := ?vb5) ?hib5 (by kernel_rfl) (by kernel_rfl) (by kernel_rfl) ?hqb5 ?hyb5 hHeld ?_
      case hib5 => (simp only [List.getElem?_toArray, List.getElem?_cons_succ, List.getElem?_cons_zero]; rfl)
      case hqb5 => exact fun _ _ _ h => h
      case hyb5 => (refine Or.inl ⟨by rfl, ?_⟩; intro w' hSw; (try dsimp only at hSw); (try go_simp); try with_reducible rfl)
      try simp only [Act.put, List.setIfInBounds_toArray, List.set_cons_zero, List.set_cons_succ]
      refine wpAnyH_take (i := 6) (oi := ?oib6) (v := ?vb6) ?hib6 (by kernel_rfl) (by kernel_rfl) (by kernel_rfl) ?hqb6 ?hyb6 hHeld ?_
      case hib6 => (simp only [List.getElem?_toArray, List.getElem?_cons_succ, List.getElem?_cons_zero]; rfl)
      case hqb6 => exact fun _ _ _ h => h
      case hyb6 => (refine Or.inl ⟨by rfl, ?_⟩; intro w' hSw; (try dsimp only at hSw); (try go_simp); try with_reducible rfl)
      try simp only [Act.put, List.setIfInBounds_toArray, List.set_cons_zero, List.set_cons_succ]
      refine wpAnyH_take (i := 7) (oi := ?oib7) (v := ?vb7) ?hib7 (by kernel_rfl) (by kernel_rfl) (by kernel_rfl) ?hqb7 ?hyb7 hHeld ?_
      case hib7 => (simp only [List.getElem?_toArray, List.getElem?_cons_succ, List.getElem?_cons_zero]; rfl)
      case hqb7 => exact fun _ _ _ h => h
      case hyb7 => (refine Or.inl ⟨by rfl, ?_⟩; intro w' hSw; (try dsimp only at hSw); (try go_simp); try with_reducible rfl)
      try simp only [Act.put, List.setIfInBounds_toArray, List.set_cons_zero, List.set_cons_succ]
      refine wpAnyH_ready (rs := [8]) (by kernel_rfl) (by simp) ?_
      refine AllReadyH.cons rfl (fun K hK => ?_) AllReadyH.nil
      refine xC rfl (.tmp 64) (.tmp 68) 26 rfl (.slice (some ⟨g, 0, none⟩) k k) v2 v' W3 (by simp [Act.eval]) (by simp [Act.eval]) hr5 ?_
      refine hK.out _ _ hS2 (fun _ => ?_)
      try simp only [Act.put, List.setIfInBounds_toArray, List.set_cons_zero, List.set_cons_succ]
      clear hK K
      refine wpAnyH_ready (rs := [9]) (by kernel_rfl) (by simp) ?_
      refine AllReadyH.cons rfl (fun K hK => ?_) AllReadyH.nil
      go_simp
      refine hK.out _ _ hS2 (fun _ => ?_)
      try simp only [Act.put, List.setIfInBounds_toArray, List.set_cons_zero, List.set_cons_succ]
      clear hK K
      refine wpAnyH_done (by kernel_rfl) ?_ _
      go_wp2_with fail
      go_ret
      exact ⟨_, l.take k ++ l.drop K, rfl, q3.rd, by rw [List.length_append, List.length_take, List.length_drop]; omega, hwd, hS2⟩
  · go_wp2_with (at_builtin; refine appE20 rfl _ _ rfl w.heap.size _ _ rfl (OwR.alloc ho _) y w1.heap.size rfl (Arr.new w1 _ (LF y)) ?_ ?_ ?_; (rw [List.length_map]; omega); (exact Nat.le_trans h1.size (by simp)); intro v' w3 q1 q2)
    go_ret
    refine ⟨_, l ++ [y], rfl, by rw [List.map_append]; exact OwR.rd q1, by rw [List.length_append]; exact Nat.le_refl _, fun z hz => ?_, (bD h1 _).trans q2⟩
    rcases List.mem_append.1 hz with hz | hz
    · exact HW.out z hz
    · rw [List.mem_singleton.1 hz]
      exact hwy
  · go_wp2_with fail
    go_ret
    exact ⟨_, _, rfl, ho.rd, by omega, HW.out, h1⟩

end Go.Proofs.YtmcogmmncfihhaaGreatDoor
