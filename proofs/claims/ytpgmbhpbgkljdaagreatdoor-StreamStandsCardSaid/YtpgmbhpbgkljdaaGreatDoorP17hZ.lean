/-
  The walks of streams (chapter 17): an archive's blocks, what it says, and how much room its blocks have.
-/
import Derived.Test.YtpgmbhpbgkljdaaGreatDoorP17cZ
import Derived.Test.YtpgmbhpbgkljdaaGreatDoorM17eZ
set_option linter.unusedVariables false
set_option linter.unusedSimpArgs false
namespace Go.Proofs.YtpgmbhpbgkljdaaGreatDoor
open Go.RowKit Go Go.Shelf

theorem chain_mem {s : List UInt8} {hi : Int} : ∀ {l : List Prt} {lo : Int}, chainP s lo l hi → ∀ p ∈ l, goodP s p
  | [], _, _, p, hp => by simp at hp
  | x :: l, lo, h, p, hp => by
    rcases List.mem_cons.1 hp with rfl | hp
    · exact h.2.1
    · exact chain_mem h.2.2 p hp
theorem resP_good {s : List UInt8} : ∀ p ∈ resP s, goodP s p := fun p hp => by
  unfold resP at hp
  by_cases q : (arcD s).2 = 0
  · rw [if_pos q] at hp
    exact chain_mem (arcD_chain q) p hp
  · rw [if_neg q] at hp
    simp at hp
theorem resP_len (s : ByteArray) : (resP s.data.toList).length ≤ 8 * s.size + 2 := by
  have := arcT_count s rfl
  unfold arcT okP at this
  rw [List.length_append, List.length_map] at this
  unfold resP
  split
  · omega
  · simp
/-- A part of a row of parts. -/
theorem prt_cells {w : World} {v : Value} {l : List Prt} (h : RdR w v (l.map prtC)) : ∃ a cap, v = .slice a l.length cap ∧ l.length ≤ cap ∧ cap ≤ maxLen ∧
    (0 < l.length → ∃ b off, a = some ⟨b, off, none⟩ ∧ b < w.heap.size ∧ ∀ j p, l[j]? = some p → w.cell? ⟨b, off + j * 5, none⟩ = some (.string p.t) ∧ w.cell? ⟨b, off + j * 5 + 1, none⟩ = some (.int .u32 p.y) ∧ w.cell? ⟨b, off + j * 5 + 2, none⟩ = some (.int .i64 p.a) ∧ w.cell? ⟨b, off + j * 5 + 3, none⟩ = some (.int .i64 p.z) ∧ w.cell? ⟨b, off + j * 5 + 4, none⟩ = some (.int .i64 p.r)) := by
  obtain ⟨a, cap, hv, h1, h2, h3⟩ := h.open (prtC_wide l) (by decide)
  rw [List.length_map] at hv h1 h3
  refine ⟨a, cap, hv, h1, h2, fun hl => ?_⟩
  obtain ⟨b, off, ha, hb, hc⟩ := h3 hl
  refine ⟨b, off, ha, hb, fun j p hj => ?_⟩
  have e : (l.map prtC)[j]? = some (prtC p) := by rw [List.getElem?_map, hj]; rfl
  have c := fun i u hi => hc j (prtC p) i u e hi
  refine ⟨c 0 _ rfl, ?_, ?_, ?_, ?_⟩
  · rw [Nat.add_assoc]; exact c 1 _ rfl
  · rw [Nat.add_assoc]; exact c 2 _ rfl
  · rw [Nat.add_assoc]; exact c 3 _ rfl
  · rw [Nat.add_assoc]; exact c 4 _ rfl
/-- Append of one element of several cells. -/
theorem appR1 {P : Program} {t e k bytes : Nat} {z : Value} (E : ElR P t e k bytes z) {ops : Array Oper} {rest : List Oper} {o : Oper} {a : Act} {Q : Exit → Act → World → Prop} {w : World} (hgd : o.guard = none) (s x : Operand)
    (ho : o.op = .call { callee := .builtin .append, args := #[s, x], argTypes := #[t, t] }) (base : Nat) (v : Value) (l : RowCells) (hs : a.eval s = v) (hown : OwR w base e k v l)
    (g : Nat) (q : List Value) (hx : a.eval x = .slice (some ⟨g, 0, none⟩) 1 1) (hc : Arr w g e q) (hq : q.length = k) (h1 : ∀ u ∈ q, u.oneCell' = true) (hroom : (l.length + 1) * bytes ≤ 140737488355328) (hbase : base ≤ w.heap.size)
    (h : ∀ v' w', OwR w' base e k v' (l ++ [q]) → Below base w w' → w.grownBy w' v.ownBlock → wpList P ops Q rest (a.put o.dst v') w') : wpList P ops Q (o :: rest) a w := by
  obtain ⟨i, hi, hz, h2, h3⟩ := E.info
  have hpos := E.pos
  have hn : l.length + 1 ≤ 140737488355328 := Nat.le_trans (Nat.le_mul_of_pos_right _ hpos) hroom
  refine wpList_append_own w hgd s x t ho base e i z k bytes E.under hi hz h2 h3 E.cells E.some' v l.length l.flatten hs hown ⟨g, 0, none⟩ 1 1 q hx (by rw [hq, Nat.one_mul]) (fun j u hj => ?_) h1 (by simp only [maxLen]; omega) hroom hbase (fun v' w' q1 q2 _ => h v' w' ?_ (rC hown q2 hbase) q2)
  · rw [show (⟨g, 0, none⟩ : Addr).add j = ⟨g, j, none⟩ by unfold Addr.add; split <;> simp_all]
    exact hc.cell hj
  · unfold OwR
    rw [List.flatten_append, List.length_append, List.flatten_cons, List.flatten_nil, List.append_nil]
    exact q1

set_option maxRecDepth 100000 in
set_option maxHeartbeats 1600000 in
theorem blocks_any (s : ByteArray) (w : World) (hE : iF w) (hs : s.size ≤ 120000) :
    Calls Tryz.prog 20 #[.string s] w fun e w' => ∃ v, e = .returned (.tuple #[v, .int .i64 (arcD s.data.toList).2]) ∧ RdR w' v ((resP s.data.toList).map blkC) ∧ Below w.heap.size w w' := by
  have hlen := resP_len s
  have hcall := parts_any s w hE hs
  obtain ⟨l, hl⟩ : ∃ l, l = resP s.data.toList := ⟨_, rfl⟩
  obtain ⟨E, hEE⟩ : ∃ E, E = (arcD s.data.toList).2 := ⟨_, rfl⟩
  rw [← hl, ← hEE] at hcall ⊢
  rw [← hl] at hlen
  clear hl hEE
  go_enter Tryz.func20, Tryz.ntmps20
  go_wp2_with fail
  refine hcall.mono ?_
  rintro e w1 ⟨v, rfl, hrd, hb1⟩
  obtain ⟨a, ca, rfl, hca, hma, hA⟩ := prt_cells hrd
  unfold maxLen at hma
  have hs1 := hb1.size
  clear hrd
  go_wp2_with fail
  go_loopg [2, 6, 14] l.length (fun g s2 _s6 s14 wr => ∃ k : Nat, k ≤ l.length ∧ g = l.length - k ∧ s14 = .int .i64 (k : Int) ∧ OwR wr w1.heap.size 36 4 s2 ((l.take k).map blkC) ∧ Below w1.heap.size w1 wr)
  case atStart => exact ⟨0, Nat.zero_le _, rfl, rfl, OwR.nil _ _ _ _, Below.refl _ _⟩
  case round =>
    obtain ⟨k, hk, hg, rfl, hor, hbel⟩ := hrel
    have HG := hid hg
    clear hg
    by_cases hlt : k < l.length
    · have t1 : decide ((k : Int) < (l.length : Int)) = true := decide_eq_true (by omega)
      obtain ⟨b, off, rfl, hb, hc⟩ := hA (by omega)
      obtain ⟨p, hp⟩ : ∃ p, l[k]? = some p := ⟨_, List.getElem?_eq_getElem hlt⟩
      obtain ⟨x0, x1, x2, x3, x4⟩ := hc k p hp
      have c0 := (hbel.cell (p := ⟨b, off + k * 5, none⟩) hb).trans x0
      have c1 := (hbel.cell (p := ⟨b, off + k * 5 + 1, none⟩) hb).trans x1
      have c2 := (hbel.cell (p := ⟨b, off + k * 5 + 2, none⟩) hb).trans x2
      have c3 := (hbel.cell (p := ⟨b, off + k * 5 + 3, none⟩) hb).trans x3
      have c4 := (hbel.cell (p := ⟨b, off + k * 5 + 4, none⟩) hb).trans x4
      have HT := hid (show (l.take (k + 1)).map blkC = (l.take k).map blkC ++ [blkC p] by rw [List.take_add_one, hp, List.map_append]; rfl)
      have hsz := hbel.size
      have hln : ((l.take k).map blkC).length ≤ 960010 := by rw [List.length_map, List.length_take]; omega
      clear x0 x1 x2 x3 x4 hc hp hA
      have hN := Arr.new (wr.alloc (.cells #[.string p.t, .int .u32 p.y, .int .i64 p.a, .int .i64 p.z, .int .i64 p.r] 90)) 36 (blkC p)
      rw [World.size_alloc] at hN
      have hor2 := OwR.alloc (OwR.alloc hor (.cells #[.string p.t, .int .u32 p.y, .int .i64 p.a, .int .i64 p.z, .int .i64 p.r] 90)) (.cells (blkC p).toArray 36)
      change Arr ((wr.alloc (.cells #[.string p.t, .int .u32 p.y, .int .i64 p.a, .int .i64 p.z, .int .i64 p.r] 90)).alloc (.cells #[.string p.t, .int .u32 p.y, .int .i64 p.a, .int .i64 p.z] 36)) _ _ _ at hN
      change OwR ((wr.alloc (.cells #[.string p.t, .int .u32 p.y, .int .i64 p.a, .int .i64 p.z, .int .i64 p.r] 90)).alloc (.cells #[.string p.t, .int .u32 p.y, .int .i64 p.a, .int .i64 p.z] 36)) _ _ _ _ _ at hor2
      go_wp2_with (at_builtin; refine appR1 elBlk rfl _ _ rfl w1.heap.size _ _ rfl hor2 _ (blkC p) rfl hN rfl (fun u hu => (blkC_wide [p] _ (by simp)).2 u hu) ?_ ?_ ?_; (omega); (simp; omega); intro v3 w3 p1 p2 p3)
      have hg := HG.out
      go_roundg (l.length - (k + 1))
      case measure => omega
      case rel => exact ⟨k + 1, by omega, rfl, by go_num, by rw [HT.out]; exact p1, (((hbel.alloc (by omega) _).alloc (by simp; omega) _).trans p2)⟩
    · have t1 : decide ((k : Int) < (l.length : Int)) = false := decide_eq_false (by omega)
      have HT := hid (show (l.take k).map blkC = l.map blkC by rw [List.take_of_length_le (by omega)])
      go_wp2_with fail
      go_ret2
      exact ⟨_, rfl, by rw [← HT.out]; exact hor.rd, hb1.trans (hbel.mono hs1)⟩

set_option maxRecDepth 100000 in
set_option maxHeartbeats 1600000 in
theorem rooms_any (s : ByteArray) (w : World) (hE : iF w) (hs : s.size ≤ 120000) :
    Calls Tryz.prog 22 #[.string s] w fun e w' => ∃ v, e = .returned (.tuple #[v, .int .i64 (arcD s.data.toList).2]) ∧ RdI w' v ((resP s.data.toList).map Prt.r) ∧ Below w.heap.size w w' := by
  have hlen := resP_len s
  have hcall := parts_any s w hE hs
  obtain ⟨l, hl⟩ : ∃ l, l = resP s.data.toList := ⟨_, rfl⟩
  obtain ⟨E, hEE⟩ : ∃ E, E = (arcD s.data.toList).2 := ⟨_, rfl⟩
  rw [← hl, ← hEE] at hcall ⊢
  rw [← hl] at hlen
  clear hl hEE
  go_enter Tryz.func22, Tryz.ntmps22
  go_wp2_with fail
  refine hcall.mono ?_
  rintro e w1 ⟨v, rfl, hrd, hb1⟩
  obtain ⟨a, ca, rfl, hca, hma, hA⟩ := prt_cells hrd
  unfold maxLen at hma
  have hs1 := hb1.size
  clear hrd
  go_wp2_with fail
  go_loopg [2, 6, 14] l.length (fun g s2 _s6 s14 wr => ∃ k : Nat, k ≤ l.length ∧ g = l.length - k ∧ s14 = .int .i64 (k : Int) ∧ OwI wr w1.heap.size s2 ((l.take k).map Prt.r) ∧ Below w1.heap.size w1 wr)
  case atStart => exact ⟨0, Nat.zero_le _, rfl, rfl, OwI.nil _ _, Below.refl _ _⟩
  case round =>
    obtain ⟨k, hk, hg, rfl, hor, hbel⟩ := hrel
    have HG := hid hg
    clear hg
    by_cases hlt : k < l.length
    · have t1 : decide ((k : Int) < (l.length : Int)) = true := decide_eq_true (by omega)
      obtain ⟨b, off, rfl, hb, hc⟩ := hA (by omega)
      obtain ⟨p, hp⟩ : ∃ p, l[k]? = some p := ⟨_, List.getElem?_eq_getElem hlt⟩
      obtain ⟨x0, x1, x2, x3, x4⟩ := hc k p hp
      have c0 := (hbel.cell (p := ⟨b, off + k * 5, none⟩) hb).trans x0
      have c1 := (hbel.cell (p := ⟨b, off + k * 5 + 1, none⟩) hb).trans x1
      have c2 := (hbel.cell (p := ⟨b, off + k * 5 + 2, none⟩) hb).trans x2
      have c3 := (hbel.cell (p := ⟨b, off + k * 5 + 3, none⟩) hb).trans x3
      have c4 := (hbel.cell (p := ⟨b, off + k * 5 + 4, none⟩) hb).trans x4
      have HT := hid (show (l.take (k + 1)).map Prt.r = (l.take k).map Prt.r ++ [p.r] by rw [List.take_add_one, hp, List.map_append]; rfl)
      have hsz := hbel.size
      have hln : ((l.take k).map Prt.r).length ≤ 960010 := by rw [List.length_map, List.length_take]; omega
      clear x0 x1 x2 x3 x4 hc hp hA
      have hN := bS (wr.alloc (.cells #[.string p.t, .int .u32 p.y, .int .i64 p.a, .int .i64 p.z, .int .i64 p.r] 90)) (.int .i64 p.r) 3
      rw [World.size_alloc] at hN
      have hor2 := OwI.alloc (OwI.alloc hor (.cells #[.string p.t, .int .u32 p.y, .int .i64 p.a, .int .i64 p.z, .int .i64 p.r] 90)) (.cells #[.int .i64 p.r] 3)
      go_wp2_with (at_builtin; refine eN rfl _ _ rfl w1.heap.size _ _ rfl hor2 _ p.r rfl hN ?_ ?_ ?_; (omega); (simp; omega); intro v3 w3 p1 p2 p3)
      have hg := HG.out
      go_roundg (l.length - (k + 1))
      case measure => omega
      case rel => exact ⟨k + 1, by omega, rfl, by go_num, by rw [HT.out]; exact p1, (((hbel.alloc (by omega) _).alloc (by simp; omega) _).trans p2)⟩
    · have t1 : decide ((k : Int) < (l.length : Int)) = false := decide_eq_false (by omega)
      have HT := hid (show (l.take k).map Prt.r = l.map Prt.r by rw [List.take_of_length_le (by omega)])
      go_wp2_with fail
      go_ret2
      exact ⟨_, rfl, by rw [← HT.out]; exact hor.rd, hb1.trans (hbel.mono hs1)⟩

theorem resP_sum (s : List UInt8) (k : Nat) : (catT (((resP s).take k).map Prt.t)).data.toList.length ≤ 18720 * ((resP s).take k).length := by
  have h : ∀ l : List Prt, (∀ p ∈ l, goodP s p) → (catT (l.map Prt.t)).data.toList.length ≤ 18720 * l.length := fun l => by
    induction l with
    | nil => intro _; exact Nat.le_refl _
    | cons p l ih =>
      intro hg
      have e := congrArg List.length (catT_append [p.t] (l.map Prt.t))
      have h1 := ih (fun q hq => hg q (List.mem_cons_of_mem _ hq))
      obtain ⟨-, g2, g3, -⟩ := (hg p (List.mem_cons_self ..)).facts
      obtain ⟨-, -, g5, -⟩ := hg p (List.mem_cons_self ..)
      have hs : (catT [p.t]).data.toList.length = p.t.size := by unfold catT; simp
      rw [List.length_append, hs] at e
      rw [List.map_cons, List.length_cons]
      change (catT ([p.t] ++ l.map Prt.t)).data.toList.length ≤ _
      omega
  exact h _ (fun p hp => resP_good p (List.mem_of_mem_take hp))

set_option maxRecDepth 100000 in
set_option maxHeartbeats 1600000 in
theorem read_any (s : ByteArray) (w : World) (hE : iF w) (hs : s.size ≤ 120000) :
    Calls Tryz.prog 19 #[.string s] w fun e w' => e = .returned (.tuple #[.string (catT ((resP s.data.toList).map Prt.t)), .int .i64 (arcD s.data.toList).2]) ∧ Below w.heap.size w w' := by
  have hlen := resP_len s
  have hsum := resP_sum s.data.toList
  have hcall := parts_any s w hE hs
  obtain ⟨l, hl⟩ : ∃ l, l = resP s.data.toList := ⟨_, rfl⟩
  obtain ⟨E, hEE⟩ : ∃ E, E = (arcD s.data.toList).2 := ⟨_, rfl⟩
  rw [← hl, ← hEE] at hcall ⊢
  rw [← hl] at hlen hsum
  clear hl hEE
  go_enter Tryz.func19, Tryz.ntmps19
  go_wp2_with fail
  refine hcall.mono ?_
  rintro e w1 ⟨v, rfl, hrd, hb1⟩
  obtain ⟨a, ca, rfl, hca, hma, hA⟩ := prt_cells hrd
  unfold maxLen at hma
  have hs1 := hb1.size
  have hB0 := aAp w1
  have hb2 : Below w1.heap.size w1 (w1.alloc (.cells #[.pointer none, .slice none 0 0] 88)) := bD (Below.refl _ _) _
  clear hrd
  go_wp2_with fail
  generalize w1.alloc (.cells #[.pointer none, .slice none 0 0] 88) = w2 at *
  go_loopg [8, 16] l.length (fun g _s8 s16 wr => ∃ k : Nat, k ≤ l.length ∧ g = l.length - k ∧ s16 = .int .i64 (k : Int) ∧ Bld wr w1.heap.size w1.heap.size (catT ((l.take k).map Prt.t)).data.toList ∧ Below w1.heap.size w1 wr)
  case atStart => exact ⟨0, Nat.zero_le _, rfl, rfl, hB0, hb2⟩
  case round =>
    obtain ⟨k, hk, hg, rfl, hor, hbel⟩ := hrel
    have HG := hid hg
    clear hg hB0 hb2
    by_cases hlt : k < l.length
    · have t1 : decide ((k : Int) < (l.length : Int)) = true := decide_eq_true (by omega)
      obtain ⟨b, off, rfl, hb, hc⟩ := hA (by omega)
      obtain ⟨p, hp⟩ : ∃ p, l[k]? = some p := ⟨_, List.getElem?_eq_getElem hlt⟩
      obtain ⟨x0, x1, x2, x3, x4⟩ := hc k p hp
      have c0 := (hbel.cell (p := ⟨b, off + k * 5, none⟩) hb).trans x0
      have c1 := (hbel.cell (p := ⟨b, off + k * 5 + 1, none⟩) hb).trans x1
      have c2 := (hbel.cell (p := ⟨b, off + k * 5 + 2, none⟩) hb).trans x2
      have c3 := (hbel.cell (p := ⟨b, off + k * 5 + 3, none⟩) hb).trans x3
      have c4 := (hbel.cell (p := ⟨b, off + k * 5 + 4, none⟩) hb).trans x4
      have HT := hid (show (catT ((l.take (k + 1)).map Prt.t)).data.toList = (catT ((l.take k).map Prt.t)).data.toList ++ p.t.data.toList by
        rw [List.take_add_one, hp, List.map_append, catT_append]
        congr 1
        unfold catT
        simp)
      have hln1 := hsum k
      have hln2 := hsum (k + 1)
      rw [HT.out, List.length_append] at hln2
      rw [List.length_take] at hln1 hln2
      have hpl : p.t.data.toList.length = p.t.size := by simp
      have hsz := hbel.size
      have hwr := fun W hW => aQu w1.heap.size w1.heap.size (catT ((l.take k).map Prt.t)).data.toList p.t W hW (by omega)
      have hor2 := hor.same (w' := wr.alloc (.cells #[.string p.t, .int .u32 p.y, .int .i64 p.a, .int .i64 p.z, .int .i64 p.r] 90)) (fun k o hk _ _ => by rw [Below.heap_alloc _ _ _ (Array.getElem?_eq_some_iff.1 hk).1]; exact hk)
      clear x0 x1 x2 x3 x4 hc hp hA hln1 hln2 hsum hpl
      go_wp2_with fail
      refine (hwr _ hor2 (by simp; omega)).mono ?_
      rintro e w3 ⟨rfl, hB3, hb3, -⟩
      go_wp2_with fail
      have hg := HG.out
      go_roundg (l.length - (k + 1))
      case measure => omega
      case rel => exact ⟨k + 1, by omega, rfl, by go_num, by rw [HT.out]; exact hB3, (hbel.alloc (by omega) _).trans hb3⟩
    · have t1 : decide ((k : Int) < (l.length : Int)) = false := decide_eq_false (by omega)
      have HT := hid (show mkS (catT ((l.take k).map Prt.t)).data.toList = catT (l.map Prt.t) by rw [List.take_of_length_le (by omega), pL])
      have hsz := hbel.size
      go_wp2_with fail
      refine (aAn w1.heap.size w1.heap.size _ _ hor hsz).mono ?_
      rintro e w3 ⟨rfl, -, hb3, -⟩
      go_wp2_with fail
      go_ret2
      exact ⟨by show Ending.returned (.tuple #[.string (mkS (catT (List.take k (l.map Prt.t))).data.toList), .int .i64 E]) = _; rw [← List.map_take, HT.out], hb1.trans ((hbel.trans hb3).mono hs1)⟩

end Go.Proofs.YtpgmbhpbgkljdaaGreatDoor
