/-
  The walks of streams (chapter 17): an archive's parts, all of them; its blocks, what it says, their rooms.
-/
import Derived.Test.YtpgmbhpbgkljdaaGreatDoorP17fZ
import Derived.Test.YtpgmbhpbgkljdaaGreatDoorM17gZ
import Derived.Test.YtpgmbhpbgkljdaaGreatDoorZ6
set_option linter.unusedVariables false
set_option linter.unusedSimpArgs false
namespace Go.Proofs.YtpgmbhpbgkljdaaGreatDoor
open Go.RowKit Go Go.Shelf

attribute [local go_sem] Oper.semAt_some

/-- A part's cells, and a block's. -/
def blkC (p : Prt) : List Value := [.string p.t, .int .u32 p.y, .int .i64 p.a, .int .i64 p.z]
def prtC (p : Prt) : List Value := [.string p.t, .int .u32 p.y, .int .i64 p.a, .int .i64 p.z, .int .i64 p.r]
theorem prtC_wide (l : List Prt) : Wide 5 (l.map prtC) := fun q hq => by
  obtain ⟨p, _, rfl⟩ := List.mem_map.1 hq
  exact ⟨rfl, fun u hu => by unfold prtC at hu; simp only [List.mem_cons, List.not_mem_nil, or_false] at hu; rcases hu with rfl | rfl | rfl | rfl | rfl <;> rfl⟩
theorem blkC_wide (l : List Prt) : Wide 4 (l.map blkC) := fun q hq => by
  obtain ⟨p, _, rfl⟩ := List.mem_map.1 hq
  exact ⟨rfl, fun u hu => by unfold blkC at hu; simp only [List.mem_cons, List.not_mem_nil, or_false] at hu; rcases hu with rfl | rfl | rfl | rfl <;> rfl⟩
theorem elPrt : ElR Tryz.prog 83 90 5 48 (.agg #[.string ⟨#[]⟩, .int .u32 0, .int .i64 0, .int .i64 0, .int .i64 0]) := ElR.mk' (by kernel_rfl) Tryz.underlying83 rfl (by decide) (by decide)
theorem elBlk : ElR Tryz.prog 31 36 4 40 (.agg #[.string ⟨#[]⟩, .int .u32 0, .int .i64 0, .int .i64 0]) := ElR.mk' (by kernel_rfl) Tryz.underlying31 rfl (by decide) (by decide)
/-- What is told of an archive. -/
def resP (s : List UInt8) : List Prt := if (arcD s).2 = 0 then (arcD s).1 else []
/-- Two results in cells of one cell each. -/
theorem res_cells2 {P : Program} {fn : Func} {p q : Tmp} {tx ty : TypeId} (h : fn.results = #[.cell p tx, .cell q ty]) (tmps : Array Value) (w : World) (ax ay : Addr) (vx vy : Value)
    (hp : tmps.getD p undef = .pointer (some ax)) (hq : tmps.getD q undef = .pointer (some ay))
    (hx : (loadVar tx ax).run P w = .ok vx w) (hy : (loadVar ty ay).run P w = .ok vy w) :
    (results fn tmps).run P w = .ok (.tuple #[vx, vy]) w := by
  have hp' : tmps[p]?.getD undef = .pointer (some ax) := by simpa using hp
  have hq' : tmps[q]?.getD undef = .pointer (some ay) := by simpa using hq
  simp [results, h, hp', hq', asAddr, hx, hy, Result.andThen]

/-- Append of one element of several cells, in a fence. -/
theorem appR1_in {F : Fence} {n : Nat} {P : Program} {t e k bytes : Nat} {z : Value} (E : ElR P t e k bytes z) {ops : Array Oper} {rest : List Oper} {o : Oper} {a : Act} {Q : Exit → Act → World → Prop} {w : World} (hgd : o.guard = none) (s x : Operand)
    (ho : o.op = .call { callee := .builtin .append, args := #[s, x], argTypes := #[t, t] }) (base : Nat) (v : Value) (l : RowCells) (hs : a.eval s = v) (hown : OwR w base e k v l)
    (g : Nat) (q : List Value) (hx : a.eval x = .slice (some ⟨g, 0, none⟩) 1 1) (hc : Arr w g e q) (hq : q.length = k) (h1 : ∀ u ∈ q, u.oneCell' = true) (hroom : (l.length + 1) * bytes ≤ 140737488355328) (hbase : base ≤ w.heap.size)
    (h : ∀ v' w', OwR w' base e k v' (l ++ [q]) → Below base w w' → w.grownBy w' v.ownBlock → wpListIn F n P ops Q rest (a.put o.dst v') w') : wpListIn F n P ops Q (o :: rest) a w := by
  obtain ⟨i, hi, hz, h2, h3⟩ := E.info
  have hpos := E.pos
  have hn : l.length + 1 ≤ 140737488355328 := Nat.le_trans (Nat.le_mul_of_pos_right _ hpos) hroom
  refine wpListIn_append_own w hgd s x t ho base e i z k bytes E.under hi hz h2 h3 E.cells E.some' v l.length l.flatten hs hown ⟨g, 0, none⟩ 1 1 q hx (by rw [hq, Nat.one_mul]) (fun j u hj => ?_) h1 (by simp only [maxLen]; omega) hroom hbase (fun v' w' q1 q2 _ => h v' w' ?_ (rC hown q2 hbase) q2)
  · rw [show (⟨g, 0, none⟩ : Addr).add j = ⟨g, j, none⟩ by unfold Addr.add; split <;> simp_all]
    exact hc.cell hj
  · unfold OwR
    rw [List.flatten_append, List.length_append, List.flatten_cons, List.flatten_nil, List.append_nil]
    exact q1
theorem rest_app {w w' : World} {B e size n : Nat} {v : Value} {xs : List Value} (ho : w.ownsRow B e size v n xs) (hg : w.grownBy w' v.ownBlock) (k : Nat) (o : Obj) (hk : w.heap[k]? = some o) (hc : o.isCells = false) : w'.heap[k]? = some o := by
  refine (hg.block k (Array.getElem?_eq_some_iff.1 hk).1 (fun q => ?_)).trans hk
  rcases ho.2 with ⟨rfl, _⟩ | ⟨g, cap, cur, rfl, _, hgc, _⟩
  · cases q
  · obtain rfl := Option.some.inj q
    rw [hk] at hgc
    injection hgc with hgc
    rw [hgc] at hc
    exact Bool.noConfusion hc
theorem rest_set {w : World} {z e i : Nat} {l : List Value} (ha : Arr w z e l) (v : Value) (k : Nat) (o : Obj) (hk : w.heap[k]? = some o) (hc : o.isCells = false) : (w.setCell ⟨z, i, none⟩ v).heap[k]? = some o := by
  rw [heap_setCell_other w ⟨z, i, none⟩ k v (fun q => ?_)]
  · exact hk
  · have q : k = z := q
    have h2 : w.heap[z]? = some (.cells l.toArray e (0, 0)) := ha
    rw [q, h2] at hk
    injection hk with hk
    rw [← hk] at hc
    exact Bool.noConfusion hc
/-- What is no cells is kept. -/
theorem keepsRest {B : Nat} {W W' : World} (hs : W.heap.size ≤ W'.heap.size) (h : ∀ (k : Nat) (o : Obj), W.heap[k]? = some o → o.isCells = false → W'.heap[k]? = some o) : KeepsFrom B W W' := ⟨hs, fun k o _ ho hc => h k o ho hc⟩

theorem own_not_deferred {w : World} {B e size n D : Nat} {v : Value} {xs : List Value} {o : Obj} (ho : w.ownsRow B e size v n xs) (hD : w.heap[D]? = some o) (hc : o.isCells = false := by rfl) : v.ownBlock = none ∨ v.ownBlock ≠ some D := by
  rcases ho.2 with ⟨rfl, _⟩ | ⟨g, cap, cur, rfl, _, hgc, _⟩
  · exact .inl rfl
  · refine .inr fun q => ?_
    obtain rfl := Option.some.inj q
    rw [hD] at hgc
    injection hgc with hgc
    rw [hgc] at hc
    exact Bool.noConfusion hc

set_option maxHeartbeats 1000000 in
theorem parts_in (n : Nat) (all : ByteArray) (w : World) :
    CallsIn Fence.wide n Tryz.prog 82 #[.string all] w fun e w' => e = .returned (.func (.func 119) #[] #[.pointer (some ⟨w.heap.size, 0, none⟩)]) ∧ w' = w.alloc (.cells #[.string all] 9) := by
  refine callsIn_of_wp Tryz.func82 rfl trivial ?_ rfl
  simp only [Tryz.ntmps82, List.size_toArray, List.length_cons, List.length_nil, Nat.reduceAdd, Nat.reduceSub, Array.replicate_succ, Array.replicate_zero, List.push_toArray, List.append_toArray, List.nil_append, List.cons_append]
  gi_wp2
  go_ret
  exact ⟨rfl, rfl⟩

set_option maxRecDepth 100000 in
set_option maxHeartbeats 3200000 in
theorem all_in (n : Nat) (hn : 6 ≤ n) (s : ByteArray) (w : World) (hE : iF w) (hs : s.size ≤ 120000) :
    CallsIn Fence.wide n Tryz.prog 46 #[.string s] w fun e w' => ∃ v, e = .returned (.tuple #[v, .int .i64 (arcD s.data.toList).2]) ∧ RdR w' v ((resP s.data.toList).map prtC) ∧ Below w.heap.size w w' := by
  have h1 : 1 ≤ n := by omega
  refine callsIn_of_wp_marks Tryz.func46 rfl trivial ?_ rfl
  simp only [Tryz.ntmps46, List.size_toArray, List.length_cons, List.length_nil, Nat.reduceAdd, Nat.reduceSub, Array.replicate_succ, Array.replicate_zero, List.push_toArray, List.append_toArray, List.nil_append, List.cons_append]
  gi_wp2_with fail
  refine ⟨trivial, (parts_in (n - 1) s _).mono ?_⟩
  rintro e w' ⟨rfl, rfl⟩
  gi_wp2_with fail
  have hA2 := (((Arr.new w 83 [.slice none 0 0]).alloc (.cells #[.int .i64 0] 26)).alloc (.cells #[.string s] 9))
  have hA3 := ((Arr.new (w.alloc (.cells #[.slice none 0 0] 83)) 26 [.int .i64 0]).alloc (.cells #[.string s] 9))
  have hA4 := Arr.new ((w.alloc (.cells #[.slice none 0 0] 83)).alloc (.cells #[.int .i64 0] 26)) 9 [.string s]
  have hb1 : Below w.heap.size w (((w.alloc (.cells #[.slice none 0 0] 83)).alloc (.cells #[.int .i64 0] 26)).alloc (.cells #[.string s] 9)) := (((Below.refl _ w).alloc (Nat.le_refl _) _).alloc (by simp) _).alloc (by simp; omega) _
  have hs1 : (((w.alloc (.cells #[.slice none 0 0] 83)).alloc (.cells #[.int .i64 0] 26)).alloc (.cells #[.string s] 9)).heap.size = w.heap.size + 1 + 1 + 1 := by simp
  simp only [World.size_alloc] at hA3 hA4
  change Arr (((w.alloc (.cells #[.slice none 0 0] 83)).alloc (.cells #[.int .i64 0] 26)).alloc (.cells #[.string s] 9)) _ _ _ at hA2
  change Arr (((w.alloc (.cells #[.slice none 0 0] 83)).alloc (.cells #[.int .i64 0] 26)).alloc (.cells #[.string s] 9)) _ _ _ at hA3
  change Arr (((w.alloc (.cells #[.slice none 0 0] 83)).alloc (.cells #[.int .i64 0] 26)).alloc (.cells #[.string s] 9)) _ _ _ at hA4
  generalize ((w.alloc (.cells #[.slice none 0 0] 83)).alloc (.cells #[.int .i64 0] 26)).alloc (.cells #[.string s] 9) = w1 at *
  obtain ⟨z, hz⟩ : ∃ z, z = w.heap.size := ⟨_, rfl⟩
  rw [← hz] at hA2 hA3 hA4 hb1 hs1 ⊢
  have HZ := hid hz
  clear hz
  obtain ⟨E, hEE⟩ : ∃ E, E = (arcD s.data.toList).2 := ⟨_, rfl⟩
  obtain ⟨T, hT⟩ : ∃ T, T = arcT s.data.toList := ⟨_, rfl⟩
  have hbad : ∀ (pre r : List PrtE) (x : PrtE), T = pre ++ x :: r → x.2 ≠ 0 → x.2 = E ∧ E ≠ 0 := fun pre r x h hx => by
    have := arcT_bad (by rw [← hT]; exact h) hx
    rw [this.1]
    exact ⟨hEE.symm, by rw [hEE]; exact this.2⟩
  have hcnt : T.length ≤ 8 * s.size + 2 := arcT_count s hT
  have HEE := hid hEE
  have HT := hid hT
  have hseq := parts_seq (n - 1) (by omega) (z + 1 + 1) s w1 hA4 hs
  rw [← hT] at hseq
  clear hEE hT
  have hzw : z + 1 + 1 + 1 ≤ w1.heap.size := by omega
  refine wpIn_range_ty (w0 := w1) (Ri := TyKept TyCons none) (Kp := TyKept TyIter none) (Ok := iF) (Pre := fun pre x => ∃ r, T = pre ++ x :: r) (encs := encPE) h1 (gf := 119) (lb := #[.pointer (some ⟨z + 1 + 1, 0, none⟩)]) rfl (enters_of Tryz.func119 (by kernel_rfl) rfl)
    hseq (Below.refl _ _) (fun _ => rfl) (fun h k => h.trans k) (fun _ _ h => .of_kept h) (fun _ _ h => .of_kept h)
    (fun pre W => (∀ x ∈ pre, x.2 = 0) ∧ (∃ v, Arr W z 83 [v] ∧ OwR W (z + 1 + 1 + 1) 90 5 v (pre.map (fun x => prtC x.1))) ∧ Arr W (z + 1) 26 [.int .i64 0] ∧ Below z w W ∧ z + 1 + 1 + 1 ≤ W.heap.size)
    (fun c _ W => c = .ret ∧ Arr W z 83 [.slice none 0 0] ∧ Arr W (z + 1) 26 [.int .i64 E] ∧ E ≠ 0 ∧ Below z w W ∧ z + 1 + 1 + 1 ≤ W.heap.size)
    (fun pre A B ⟨k1, ⟨v, k2, k3⟩, k4, k5, k6⟩ hAB hk => ⟨k1, ⟨v, k2.below hAB (by omega), TyKept.own hk k3 (by unfold TyCons; decide)⟩, k4.below hAB (by omega), k5.trans (hAB.mono (by omega)), Nat.le_trans k6 hAB.size⟩)
    (fun c pre A B ⟨k1, k2, k3, k4, k5, k6⟩ hAB hk => ⟨k1, k2.below hAB (by omega), k3.below hAB (by omega), k4, k5.trans (hAB.mono (by omega)), Nat.le_trans k6 hAB.size⟩)
    ⟨fun x hx => by simp at hx, ⟨_, hA2, OwR.nil _ _ _ _⟩, hA3, hb1, hzw⟩ (fun pre A k => hE.below (by rw [← HZ.out]; exact k.2.2.2.1))
    (fun x a' W => ∃ zb, z + 1 + 1 + 1 ≤ zb ∧ Arr W zb 90 (prtC x.1) ∧ a' = { tmps := #[.string s, undef, .pointer (some ⟨z, 0, none⟩), .pointer (some ⟨z + 1, 0, none⟩), .pointer (some ⟨zb, 0, none⟩), .int .i64 x.2, .string s, .func (.func 119) #[] #[.pointer (some ⟨z + 1 + 1, 0, none⟩)], .agg #[.string x.1.t, .int .u32 x.1.y, .int .i64 x.1.a, .int .i64 x.1.z, .int .i64 x.1.r], .int .i64 x.2, undef, undef, undef, undef, undef, undef, undef, undef], defers := [] })
    (fun x a' A A' ⟨zb, k1, k2, k3⟩ hk => ⟨zb, k1, hk.arr k2 (by simp), k3⟩) ?assign ?body ?done ?stop
  case assign =>
    rintro l0 pre ⟨p, E0⟩ W K hI hB hpre hK
    unfold encPE
    have hzW := hI.2.2.2.2
    gi_wp2
    exact hK _ _ (bD (Below.refl _ _) _) ⟨W.heap.size, hzW, Arr.new W _ [_, _, _, _, _], rfl⟩
  case body =>
    rintro l0 pre ⟨p, E0⟩ a' W ⟨k1, ⟨v, k2, k3⟩, k4, k5, k6⟩ hB ⟨r, hr⟩ ⟨zb, hzb, hS, rfl⟩
    dsimp only at hS hr ⊢
    have hzW := k2.lt
    by_cases hE0 : E0 = 0
    rotate_left
    · have t1 : (E0 != 0) = true := by rw [bne_iff_ne]; exact hE0
      obtain ⟨rfl, hEn⟩ := hbad pre r (p, E0) hr hE0
      have c0 := k2.cell (i := 0) rfl
      have f0 := k2.free 0
      have k4' := k4.other ⟨z, 0, none⟩ (by show z ≠ z + 1; omega) (.slice none 0 0)
      have c1 := k4'.cell (i := 0) rfl
      have f1 := k4'.free 0
      clear hbad hE0
      gi_wp2_with fail
      refine ⟨keepsRest (by simp) (fun k o ho hc => ?_), rfl, (k2.set 0 _).other _ (by show z + 1 ≠ z; omega) _, k4'.set 0 _, (k5.setCell (p := ⟨z, 0, none⟩) (Nat.le_refl _) _).setCell (p := ⟨z + 1, 0, none⟩) (by show z ≤ z + 1; omega) _, by simpa using k6⟩
      exact rest_set k4' _ k o (rest_set k2 _ k o ho hc) hc
    subst hE0
    have hlen : pre.length + 1 ≤ 960100 := by
      have h := congrArg List.length hr
      rw [List.length_append, List.length_cons] at h
      omega
    obtain ⟨va, vc, hv, -⟩ := (OwR.rd k3).open (by intro q hq; obtain ⟨x, -, rfl⟩ := List.mem_map.1 hq; exact prtC_wide [x.1] _ (by simp)) (by decide : 1 ≤ 5)
    obtain ⟨vn, hvn⟩ : ∃ vn, vn = (pre.map (fun x : PrtE => prtC x.1)).length := ⟨_, rfl⟩
    rw [← hvn] at hv
    subst hv
    have c0 := k2.cell (i := 0) rfl
    have q0 := hS.cell (i := 0) rfl
    have q1 := hS.cell (i := 1) rfl
    have q2 := hS.cell (i := 2) rfl
    have q3 := hS.cell (i := 3) rfl
    have q4 := hS.cell (i := 4) rfl
    clear hvn hbad hr
    gi_wp2_with (gi_at_builtin; refine appR1_in elPrt rfl _ _ rfl (z + 1 + 1 + 1) _ _ rfl (OwR.alloc k3 _) _ (prtC p) rfl (Arr.new W 90 (prtC p)) rfl (fun u hu => (prtC_wide [p] _ (by simp)).2 u hu) ?_ ?_ ?_; (simp only [List.length_map]; omega); (simp; omega); intro v3 W3 p1 p2 p3; (obtain ⟨a3, c3, hv3, -⟩ := (OwR.rd p1).open (by intro q hq; rcases List.mem_append.1 hq with hq | hq; (obtain ⟨x, -, rfl⟩ := List.mem_map.1 hq; exact prtC_wide [x.1] _ (by simp)); (exact prtC_wide [p] _ (by simpa using hq))) (by decide : 1 ≤ 5)); (obtain ⟨n3, hn3⟩ : ∃ n3, n3 = (pre.map (fun x : PrtE => prtC x.1) ++ [prtC p]).length := ⟨_, rfl⟩); rw [← hn3] at hv3; subst hv3; (have HN3 := hid hn3); clear hn3; (have k23 := Arr.below (Arr.alloc k2 (.cells (prtC p).toArray 90)) p2 (by omega)); (have k43 := Arr.below (Arr.alloc k4 (.cells (prtC p).toArray 90)) p2 (by omega)); (have g0 := k23.cell (i := 0) rfl); (have e0 := k23.free 0))
    change (W.alloc (.cells (prtC p).toArray 90)).grownBy W3 (Value.slice va vn vc).ownBlock at p3
    change Below (z + 1 + 1 + 1) (W.alloc (.cells (prtC p).toArray 90)) W3 at p2
    have hsA : (W.alloc (.cells (prtC p).toArray 90)).heap.size = W.heap.size + 1 := by simp
    have hs3 := p2.size
    refine ⟨keepsRest (by simp; omega) (fun k o ho hc => rest_set k23 _ k o (rest_app (OwR.alloc k3 (.cells (prtC p).toArray 90)) p3 k o ((Below.heap_alloc W _ k (Array.getElem?_eq_some_iff.1 ho).1).trans ho) hc) hc),
      (TyKept.of_below (bD (Below.refl _ _) (.cells (prtC p).toArray 90))).trans ((TyKept.app (OwR.alloc k3 _) p3 (by unfold TyIter; decide)).trans (TyKept.box k23 (by unfold TyIter; decide) _)), ?_⟩
    refine ⟨fun x hx => ?_, ⟨_, k23.set 0 _, ?_⟩, k43.other _ (by show z ≠ z + 1; omega) _, (k5.trans ((((Below.refl _ W).alloc (Nat.le_refl _) _).mono (by omega)).trans (p2.mono (by omega)))).setCell (p := ⟨z, 0, none⟩) (Nat.le_refl _) _, by simp; omega⟩
    · rcases List.mem_append.1 hx with hx | hx
      · exact k1 x hx
      · obtain rfl := List.mem_singleton.1 hx; rfl
    · rw [List.map_append]
      exact ownsRow_setCell_below p1 (a := ⟨z, 0, none⟩) (by show z < z + 1 + 1 + 1; omega) _
  case done =>
    rintro D xs W hD hfin ⟨k1, ⟨v, k2, k3⟩, k4, k5, k6⟩ hK
    obtain ⟨va, vc, hv, -⟩ := (OwR.rd k3).open (by intro q hq; obtain ⟨x, -, rfl⟩ := List.mem_map.1 hq; exact prtC_wide [x.1] _ (by simp)) (by decide : 1 ≤ 5)
    obtain ⟨vn, hvn⟩ : ∃ vn, vn = (xs.map (fun x : PrtE => prtC x.1)).length := ⟨_, rfl⟩
    rw [← hvn] at hv
    subst hv
    have hok := arcT_ok (s := s.data.toList) (fun x hx => k1 x (by rw [hfin, HT.out]; exact hx))
    have HOK := hid (show E = 0 ∧ xs.map (fun x : PrtE => prtC x.1) = (resP s.data.toList).map prtC by
      refine ⟨by rw [HEE.out]; exact hok.1, ?_⟩
      rw [hfin, HT.out, hok.2]
      unfold resP okP
      rw [if_pos hok.1, List.map_map]
      rfl)
    have c0 := k2.cell (i := 0) rfl
    have f0 := k2.free 0
    have k2' := k2.set 0 (.slice va vn vc)
    have k4' := k4.other ⟨z, 0, none⟩ (by show z ≠ z + 1; omega) (.slice va vn vc)
    have c1 := k4'.cell (i := 0) rfl
    have f1 := k4'.free 0
    have hK' : ((W.setCell ⟨z, 0, none⟩ (.slice va vn vc)).setCell ⟨z + 1, 0, none⟩ (.int .i64 0)).heap[D]? = some (.deferred (some [])) := rest_set k4' _ D _ (rest_set k2 _ D _ hK rfl) rfl
    clear hvn hok hbad hfin
    gi_wp2_with fail
    refine ⟨by simp, .inl ⟨_, _, rfl, run_takeDeferred hK', ?_⟩⟩
    have g2 : Arr ((W.setCell ⟨z, 0, none⟩ (.slice va vn vc)).setCell ⟨z + 1, 0, none⟩ (.int .i64 0)) z 83 [.slice va vn vc] := k2'.other ⟨z + 1, 0, none⟩ (by show z + 1 ≠ z; omega) _
    have g4 : Arr ((W.setCell ⟨z, 0, none⟩ (.slice va vn vc)).setCell ⟨z + 1, 0, none⟩ (.int .i64 0)) (z + 1) 26 [.int .i64 0] := k4'.set 0 _
    have q2 := (g2.grown (grownBy_putObj' _ D (.deferred none)) (by simp; omega)).cell (i := 0) rfl
    have q3 := (g4.grown (grownBy_putObj' _ D (.deferred none)) (by simp; omega)).cell (i := 0) rfl
    have hro := ownsRow_setCell_below (ownsRow_setCell_below k3 (a := ⟨z, 0, none⟩) (by show z < z + 1 + 1 + 1; omega) (.slice va vn vc)) (a := ⟨z + 1, 0, none⟩) (by show z + 1 < z + 1 + 1 + 1; omega) (.int .i64 0)
    have hbl : Below z w ((W.setCell ⟨z, 0, none⟩ (.slice va vn vc)).setCell ⟨z + 1, 0, none⟩ (.int .i64 0)) := (k5.setCell (p := ⟨z, 0, none⟩) (Nat.le_refl _) _).setCell (p := ⟨z + 1, 0, none⟩) (by show z ≤ z + 1; omega) _
    refine ⟨.tuple #[.slice va vn vc, .int .i64 0], ?_, .slice va vn vc, by rw [← HEE.out, HOK.out.1], ?_, ?_⟩
    · simp [results, Tryz.f46, go_sem, q2, q3]
    · rw [← HOK.out.2]
      exact OwR.rd (World.ownsRow.kept hro (grownBy_putObj' _ D (.deferred none)) (own_not_deferred hro hK'))
    · rw [← HZ.out]
      exact hbl.trans (belowK_b (w := w1) (by omega) _ D _ _ hD hK' rfl rfl)
  case stop =>
    rintro D c pre W hD ⟨rfl, k2, k3, k4, k5, k6⟩ hK
    gi_wp2_with fail
    refine ⟨by simp, .inl ⟨_, _, rfl, run_takeDeferred hK, ?_⟩⟩
    have q2 := (k2.grown (grownBy_putObj' _ D (.deferred none)) (by simp; omega)).cell (i := 0) rfl
    have q3 := (k3.grown (grownBy_putObj' _ D (.deferred none)) (by simp; omega)).cell (i := 0) rfl
    refine ⟨.tuple #[.slice none 0 0, .int .i64 E], ?_, .slice none 0 0, by rw [← HEE.out], ?_, ?_⟩
    · simp [results, Tryz.f46, go_sem, q2, q3]
    · have : resP s.data.toList = [] := by unfold resP; rw [if_neg (by rw [← HEE.out]; exact k4)]
      rw [this]
      exact (OwR.nil _ 0 90 5).rd
    · rw [← HZ.out]
      exact k5.trans (belowK_b (w := w1) (by omega) _ D _ _ hD hK rfl rfl)

/-- An archive's parts: those told, and the error. -/
theorem parts_any (s : ByteArray) (w : World) (hE : iF w) (hs : s.size ≤ 120000) :
    Calls Tryz.prog 46 #[.string s] w fun e w' => ∃ v, e = .returned (.tuple #[v, .int .i64 (arcD s.data.toList).2]) ∧ RdR w' v ((resP s.data.toList).map prtC) ∧ Below w.heap.size w w' :=
  callsIn_wide.1 (all_in 6 (Nat.le_refl _) s w hE hs)

end Go.Proofs.YtpgmbhpbgkljdaaGreatDoor
