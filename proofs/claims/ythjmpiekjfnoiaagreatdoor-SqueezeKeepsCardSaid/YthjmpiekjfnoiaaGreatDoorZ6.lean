/-
  The walks of the program's chapter 15: the step that looks at the symbols. The library's search by a function value that may make memory.
-/
import Derived.Test.YthjmpiekjfnoiaaGreatDoorZ5
import Derived.StillTailTactics
import Derived.LaidEql
import Derived.Stop.Asserts
import Derived.RowKitTokens
namespace Go.Proofs.YthjmpiekjfnoiaaGreatDoor
open Go.RowKit Go.Shelf

/-- What a function value answers: the test, of each integer of the list; it may make memory of its own. -/
def PredB (w0 : World) (g : Nat) (caps : Array Value) (p : Int → Bool) (l : List Int) : Prop :=
  ∀ W, Below w0.heap.size w0 W → ∀ x ∈ l, Calls Tryz.prog g (#[Value.int .i64 x] ++ caps) W fun e W' => e = .returned (.bool (p x)) ∧ Below W.heap.size W W'

set_option maxRecDepth 100000 in
set_option maxHeartbeats 800000 in
theorem indexFuncB (g : Nat) (caps : Array Value) (p : Int → Bool) (v : Value) (l : List Int) (w : World) (hr : RdI w v l) (hg : Enters Tryz.prog g) (hp : PredB w g caps p l) :
    Calls Tryz.prog 74 #[v, .func (.func g) #[] caps] w fun e w' => e = .returned (.int .i64 (idxP p l)) ∧ Below w.heap.size w w' := by
  obtain ⟨a, ca, rfl, hca, hma, hA⟩ := hr.open
  unfold maxLen at hma
  clear hr
  have HP := hid hp
  have hE : ∀ args W, (callFunc g args).run Tryz.prog W = .ok (.enter g args) W := hg
  clear hp hg
  go_enter Tryz.func74, Tryz.ntmps74
  go_wp2_with fail
  go_loopg [8] l.length (fun gh s8 wr => ∃ k : Nat, k ≤ l.length ∧ gh = l.length - k ∧ s8 = .int .i64 k ∧ Hid (∀ x ∈ l.take k, p x = false) ∧ Below w.heap.size w wr)
  case atStart => exact ⟨0, Nat.zero_le _, rfl, rfl, hid (fun x hx => by simp at hx), Below.refl _ _⟩
  case round =>
    obtain ⟨k, hk, hg, rfl, HT, hbel⟩ := hrel
    have HG := hid hg
    clear hg
    by_cases hlt : k < l.length
    · obtain ⟨b1, o1, rfl, hb1, hc1⟩ := hA (by omega)
      obtain ⟨x, hx⟩ := getI hlt
      have c1 := (hbel.cell (p := ⟨b1, o1 + k, none⟩) hb1).trans (hc1 k x hx)
      have hmem : x ∈ l := List.mem_of_getElem? hx
      have HX := hid hx
      have hP := HP.out _ hbel x hmem
      clear hc1 hx hA
      go_wp2_with fail
      refine hP.mono ?_
      rintro e w1 ⟨rfl, hb1'⟩
      have hbN := hbel.trans (hb1'.mono hbel.size)
      by_cases hpx : p x = true
      · rw [hpx]
        go_wp2_with fail
        go_ret
        refine ⟨ret_int ?_, hbN⟩
        rw [idxP_at HT.out hlt (by have := HX.out; rw [List.getElem?_eq_getElem hlt] at this; rw [Option.some.inj this]; exact hpx)]
      · have hpf : p x = false := by simpa using hpx
        rw [hpf]
        go_wp2_with fail
        have hg := HG.out
        go_roundg (l.length - (k + 1))
        case measure => omega
        case rel =>
          refine ⟨k + 1, by omega, rfl, by go_num, hid (fun y hy => ?_), hbN⟩
          rw [List.take_add_one, HX.out] at hy
          rcases List.mem_append.1 hy with hy | hy
          · exact HT.out y hy
          · simp at hy; rw [hy]; exact hpf
    · go_wp2_with fail
      go_ret
      exact ⟨ret_int (by rw [idxP_none]; have := HT.out; rwa [List.take_of_length_le (by omega)] at this), hbel⟩

set_option maxRecDepth 100000 in
theorem containsFuncB (g : Nat) (caps : Array Value) (p : Int → Bool) (v : Value) (l : List Int) (w : World) (hr : RdI w v l) (hg : Enters Tryz.prog g) (hp : PredB w g caps p l) :
    Calls Tryz.prog 54 #[v, .func (.func g) #[] caps] w fun e w' => e = .returned (.bool (decide (0 ≤ idxP p l))) ∧ Below w.heap.size w w' := by
  have HI := hid (indexFuncB g caps p v l w hr hg hp)
  obtain ⟨i, hi⟩ : ∃ i, i = idxP p l := ⟨_, rfl⟩
  rw [← hi] at HI ⊢
  clear hr hg hp hi
  go_enter Tryz.func54, Tryz.ntmps54
  go_wp2_with fail
  refine HI.out.mono ?_
  rintro e w1 ⟨rfl, hbI⟩
  go_wp2_with fail
  go_ret
  exact ⟨rfl, hbI⟩

/-- Which symbols may not be. -/
def offP (e : Int) (x : Int) : Bool := decide (x < 0) || decide (e ≤ x)

set_option maxRecDepth 100000 in
theorem ended1_any (x : Int) (bx wb : Nat) (a : ByteArray) (o most : Int) (v lv : Value) (b : ByteArray) (w : World) (ha : a.size ≤ 140737488355328) (hv : v.oneCell' = true) (hbx : w.cell? ⟨bx, 0, none⟩ = some (.pointer (some ⟨wb, 0, none⟩))) (harr : Arr w wb 57 [.string a, .int .i64 o, v, .int .i64 most, lv, .string b]) :
    Calls Tryz.prog 62 #[.int .i64 x, .pointer (some ⟨bx, 0, none⟩)] w fun e w' => e = .returned (.bool (offP ((a.size : Int) + 1) x)) ∧ Below w.heap.size w w' := by
  have c0 := harr.cell (i := 0) rfl
  have c1 := harr.cell (i := 1) rfl
  have c2 := harr.cell (i := 2) rfl
  by_cases hx : x < 0
  · have t1 : decide (x < 0) = true := decide_eq_true hx
    have e1 : offP ((a.size : Int) + 1) x = true := by unfold offP; rw [t1]; rfl
    rw [e1]
    go_enter Tryz.func62, Tryz.ntmps62
    go_wp2_with fail
    go_ret
    exact ⟨rfl, Below.refl _ _⟩
  · have t1 : decide (x < 0) = false := decide_eq_false hx
    have e1 : offP ((a.size : Int) + 1) x = decide ((a.size : Int) + 1 ≤ x) := by unfold offP; rw [t1]; rfl
    rw [e1]
    clear e1
    go_enter Tryz.func62, Tryz.ntmps62
    go_wp2_with fail
    refine (end_any a o v hv _ ha).mono ?_
    rintro e w1 ⟨rfl, hb1⟩
    go_wp2_with fail
    go_ret
    exact ⟨rfl, hb1⟩

end Go.Proofs.YthjmpiekjfnoiaaGreatDoor

/-
  The walks of the program's chapter 15: the step that looks at the symbols.
-/
namespace Go.Proofs.YthjmpiekjfnoiaaGreatDoor
open Go.RowKit Go.Shelf

/-- What the region of the three tests reads. -/
abbrev EndS (W : World) (wb : Nat) (a : ByteArray) (o : Int) (v : Value) (b0 q : Nat) (y : Int) (w' : World) : Prop :=
  w'.cell? ⟨W.heap.size, 0, none⟩ = some (.pointer (some ⟨wb, 0, none⟩)) ∧ w'.cell? ⟨wb, 0, none⟩ = some (.string a) ∧ w'.cell? ⟨wb, 1, none⟩ = some (.int .i64 o) ∧ w'.cell? ⟨wb, 2, none⟩ = some v ∧ w'.cell? ⟨b0, q, none⟩ = some (.int .i64 y) ∧ Below W.heap.size W w' ∧ W.heap.size < w'.heap.size

theorem EndS.keep {W w w' : World} {wb : Nat} {a : ByteArray} {o : Int} {v : Value} {b0 q : Nat} {y : Int} (h : EndS W wb a o v b0 q y w) (hwb : wb < W.heap.size) (hb0 : b0 < W.heap.size) (hb : Below w.heap.size w w') : EndS W wb a o v b0 q y w' := by
  obtain ⟨h1, h2, h3, h4, h5, h6, h7⟩ := h
  refine ⟨?_, ?_, ?_, ?_, ?_, h6.trans (hb.mono h6.size), Nat.lt_of_lt_of_le h7 hb.size⟩
  · rw [hb.cell (p := ⟨W.heap.size, 0, none⟩) h7]; exact h1
  · rw [hb.cell (p := ⟨wb, 0, none⟩) (Nat.lt_trans hwb h7)]; exact h2
  · rw [hb.cell (p := ⟨wb, 1, none⟩) (Nat.lt_trans hwb h7)]; exact h3
  · rw [hb.cell (p := ⟨wb, 2, none⟩) (Nat.lt_trans hwb h7)]; exact h4
  · rw [hb.cell (p := ⟨b0, q, none⟩) (Nat.lt_trans hb0 h7)]; exact h5
theorem EndS.drew {W w : World} {wb : Nat} {a : ByteArray} {o : Int} {v : Value} {b0 q : Nat} {y : Int} (h : EndS W wb a o v b0 q y w) : EndS W wb a o v b0 q y w.drew :=
  ⟨h.1, h.2.1, h.2.2.1, h.2.2.2.1, h.2.2.2.2.1, h.2.2.2.2.2.1.drew, h.2.2.2.2.2.2⟩

theorem work_put {w : World} {wb : Nat} {l : List Value} (h : Arr w wb 57 l) (i : Nat) (v : Value) : Arr (w.setCell ⟨wb, i, none⟩ v) wb 57 (l.set i v) := h.set i v

set_option maxRecDepth 100000 in
set_option maxHeartbeats 1600000 in
/-- The step refuses. -/
theorem ended_no (wb : Nat) (a : ByteArray) (o most : Int) (v lv : Value) (l : List Int) (b : ByteArray) (w : World) (ha : a.size ≤ 256) (harr : Arr w wb 57 [.string a, .int .i64 o, v, .int .i64 most, lv, .string b]) (hr : RdI w v l) (hno : ¬ mayP l ((a.size : Int) + 1)) :
    Calls Tryz.prog 36 #[.pointer (some ⟨wb, 0, none⟩)] w fun e w' => e = .returned (.int .i64 3) ∧ Below w.heap.size w w' := by
  obtain ⟨ad, ca, rfl, hca, hma, hA⟩ := hr.open
  have hma0 := hma
  unfold maxLen at hma
  have hlt := harr.lt
  have c2 := harr.cell (i := 2) rfl
  by_cases h0 : l.length = 0
  · have t1 : decide ((l.length : Int) - 1 < 0) = true := decide_eq_true (by omega)
    have e1 : IntKind.i64.wrap ((l.length : Int) - 1) = -1 := by rw [IntKind.wrap_i64]; omega
    go_enter Tryz.func36, Tryz.ntmps36
    go_wp2_with fail
    go_quiet (fail)
    go_wp2_with fail
    go_ret
    exact ⟨rfl, bDrewN ((Below.refl _ _).alloc (Nat.le_refl _) _) _⟩
  · obtain ⟨m, hm⟩ : ∃ m, l.length = m + 1 := ⟨l.length - 1, by omega⟩
    obtain ⟨b0, o0, rfl, hb0, hc0⟩ := hA (by omega)
    obtain ⟨y, hy⟩ := getI (show m < l.length by omega)
    have cy := hc0 m y hy
    have r1 : IntKind.i64.wrap ((l.length : Int) - 1) = (m : Int) := by rw [IntKind.wrap_i64]; omega
    have r2 : m ≤ ca := by omega
    have r3 : (m : Int) ≤ (ca : Int) := by omega
    have r4 : (0 : Int) ≤ (m : Int) := by omega
    have r5 : m < l.length := by omega
    have r6 : (m : Int) < (l.length : Int) := by omega
    have r7 : decide ((m : Int) < 0) = false := decide_eq_false (by omega)
    have HM := hid hm
    have HC := hid hc0
    have HY := hid hy
    have c0 := harr.cell (i := 0) rfl
    have c1 := harr.cell (i := 1) rfl
    have z0 : EndS w wb a o (.slice (some ⟨b0, o0, none⟩) l.length ca) b0 (o0 + m) y (w.alloc (.cells #[.pointer (some ⟨wb, 0, none⟩)] 62)) := by
      have hB : Below w.heap.size w (w.alloc (.cells #[.pointer (some ⟨wb, 0, none⟩)] 62)) := (Below.refl _ _).alloc (Nat.le_refl _) _
      exact ⟨newc _ _ _, by rw [hB.cell (p := ⟨wb, 0, none⟩) hlt]; exact c0, by rw [hB.cell (p := ⟨wb, 1, none⟩) hlt]; exact c1, by rw [hB.cell (p := ⟨wb, 2, none⟩) hlt]; exact c2, by rw [hB.cell (p := ⟨b0, o0 + m, none⟩) hb0]; exact cy, hB, by simp⟩
    clear hm hc0 hy hA
    by_cases hye : y = (a.size : Int) + 1
    · subst hye
      have f2 : (((a.size : Int) + 1) != ((a.size : Int) + 1)) = false := by simp
      have hfind : decide (0 ≤ idxP (offP ((a.size : Int) + 1)) (l.take m)) = true := by
        refine decide_eq_true ?_
        rcases Int.lt_or_le (idxP (offP ((a.size : Int) + 1)) (l.take m)) 0 with q | q
        · exfalso
          refine hno ⟨by omega, by rw [HM.out, Nat.add_sub_cancel]; exact HY.out, fun x hx => ?_⟩
          rw [HM.out, Nat.add_sub_cancel] at hx
          have := (idxP_ge (offP ((a.size : Int) + 1)) (l.take m)).2.2.1 q x hx
          unfold offP at this
          rw [Bool.or_eq_false_iff, decide_eq_false_iff_not, decide_eq_false_iff_not] at this
          omega
        · exact q
      have HTK := hid (takeS hb0 HC.out m (by omega) hca hma0)
      have hpr : ∀ W, EndS w wb a o (.slice (some ⟨b0, o0, none⟩) l.length ca) b0 (o0 + m) ((a.size : Int) + 1) W → PredB W 62 #[.pointer (some ⟨w.heap.size, 0, none⟩)] (offP ((a.size : Int) + 1)) (l.take m) := fun W hW W' hW' x _ => by
        have hk := EndS.keep hW hlt hb0 hW'
        exact ended1_any x w.heap.size wb a o most _ lv b W' (by omega) rfl hk.1 (harr.below hk.2.2.2.2.2.1 hlt)
      have HPR := hid hpr
      have HF := hid hfind
      clear hpr hfind
      go_enter Tryz.func36, Tryz.ntmps36
      go_upto_region 2 with fail
      generalize w.alloc (.cells #[.pointer (some ⟨wb, 0, none⟩)] 62) = wa at *
      refine wp_region_held_drew (S := (fun w' => w'.cell? ⟨w.heap.size, 0, none⟩ = some (.pointer (some ⟨wb, 0, none⟩)) ∧ w'.cell? ⟨wb, 0, none⟩ = some (.string a) ∧ w'.cell? ⟨wb, 1, none⟩ = some (.int .i64 o) ∧ w'.cell? ⟨wb, 2, none⟩ = some (.slice (some ⟨b0, o0, none⟩) l.length ca) ∧ w'.cell? ⟨b0, o0 + m, none⟩ = some (.int .i64 ((a.size : Int) + 1)) ∧ Below w.heap.size w w' ∧ w.heap.size < w'.heap.size)) (by kernel_rfl) (EndS.drew z0) (fun hHeld => ?_)
      refine wpAnyH_take (i := 0) (oi := ?oi0) (v := ?v0) ?hi0 (by kernel_rfl) (by kernel_rfl) (by kernel_rfl) ?hq0 ?hy0 (by assumption) ?_
      case hi0 => (simp only [List.getElem?_toArray, List.getElem?_cons_zero]; rfl)
      case hq0 => exact fun _ _ _ h => h
      case hy0 => (refine Or.inl ⟨by rfl, ?_⟩; intro w' hSw; (try dsimp only at hSw); (try go_simp); try with_reducible rfl)
      try simp only [Act.put, List.setIfInBounds_toArray, List.set_cons_zero, List.set_cons_succ]
      refine wpAnyH_take (i := 1) (oi := ?oi1) (v := ?v1) ?hi1 (by kernel_rfl) (by kernel_rfl) (by kernel_rfl) ?hq1 ?hy1 (by assumption) ?_
      case hi1 => (simp only [List.getElem?_toArray, List.getElem?_cons_succ, List.getElem?_cons_zero]; rfl)
      case hq1 => exact fun _ _ _ h => h
      case hy1 => (refine Or.inl ⟨by rfl, ?_⟩; intro w' hSw; (try dsimp only at hSw); (try go_simp); try with_reducible rfl)
      try simp only [Act.put, List.setIfInBounds_toArray, List.set_cons_zero, List.set_cons_succ]
      refine wpAnyH_take (i := 2) (oi := ?oi2) (v := ?v2) ?hi2 (by kernel_rfl) (by kernel_rfl) (by kernel_rfl) ?hq2 ?hy2 (by assumption) ?_
      case hi2 => (simp only [List.getElem?_toArray, List.getElem?_cons_succ, List.getElem?_cons_zero]; rfl)
      case hq2 => exact fun _ _ _ h => h
      case hy2 => (refine Or.inl ⟨by rfl, ?_⟩; intro w' hSw; (try dsimp only at hSw); (try go_simp); try with_reducible rfl)
      try simp only [Act.put, List.setIfInBounds_toArray, List.set_cons_zero, List.set_cons_succ]
      refine wpAnyH_take (i := 3) (oi := ?oi3) (v := ?v3) ?hi3 (by kernel_rfl) (by kernel_rfl) (by kernel_rfl) ?hq3 ?hy3 (by assumption) ?_
      case hi3 => (simp only [List.getElem?_toArray, List.getElem?_cons_succ, List.getElem?_cons_zero]; rfl)
      case hq3 => exact fun _ _ _ h => h
      case hy3 => (refine Or.inl ⟨by rfl, ?_⟩; intro w' hSw; (try dsimp only at hSw); (try go_simp); try with_reducible rfl)
      try simp only [Act.put, List.setIfInBounds_toArray, List.set_cons_zero, List.set_cons_succ]
      refine wpAnyH_take (i := 4) (oi := ?oi4) (v := ?v4) ?hi4 (by kernel_rfl) (by kernel_rfl) (by kernel_rfl) ?hq4 ?hy4 (by assumption) ?_
      case hi4 => (simp only [List.getElem?_toArray, List.getElem?_cons_succ, List.getElem?_cons_zero]; rfl)
      case hq4 => exact fun _ _ _ h => h
      case hy4 => (refine Or.inl ⟨by rfl, ?_⟩; intro w' hSw; (try dsimp only at hSw); (try go_simp); try with_reducible rfl)
      try simp only [Act.put, List.setIfInBounds_toArray, List.set_cons_zero, List.set_cons_succ]
      refine wpAnyH_take (i := 5) (oi := ?oi5) (v := ?v5) ?hi5 (by kernel_rfl) (by kernel_rfl) (by kernel_rfl) ?hq5 ?hy5 (by assumption) ?_
      case hi5 => (simp only [List.getElem?_toArray, List.getElem?_cons_succ, List.getElem?_cons_zero]; rfl)
      case hq5 => exact fun _ _ _ h => h
      case hy5 => (refine Or.inl ⟨by rfl, ?_⟩; intro w' hSw; (try dsimp only at hSw); (try go_simp); try with_reducible rfl)
      try simp only [Act.put, List.setIfInBounds_toArray, List.set_cons_zero, List.set_cons_succ]
      refine wpAnyH_take (i := 6) (oi := ?oi6) (v := ?v6) ?hi6 (by kernel_rfl) (by kernel_rfl) (by kernel_rfl) ?hq6 ?hy6 (by assumption) ?_
      case hi6 => (simp only [List.getElem?_toArray, List.getElem?_cons_succ, List.getElem?_cons_zero]; rfl)
      case hq6 => exact fun _ _ _ h => h
      case hy6 => (refine Or.inl ⟨by rfl, ?_⟩; intro w' hSw; (try dsimp only at hSw); (try go_simp); try with_reducible rfl)
      try simp only [Act.put, List.setIfInBounds_toArray, List.set_cons_zero, List.set_cons_succ]
      refine wpAnyH_take (i := 7) (oi := ?oi7) (v := ?v7) ?hi7 (by kernel_rfl) (by kernel_rfl) (by kernel_rfl) ?hq7 ?hy7 (by assumption) ?_
      case hi7 => (simp only [List.getElem?_toArray, List.getElem?_cons_succ, List.getElem?_cons_zero]; rfl)
      case hq7 => exact fun _ _ _ h => h
      case hy7 => (refine Or.inl ⟨by rfl, ?_⟩; intro w' hSw; (try dsimp only at hSw); (try go_simp); try with_reducible rfl)
      try simp only [Act.put, List.setIfInBounds_toArray, List.set_cons_zero, List.set_cons_succ]
      refine wpAnyH_take (i := 8) (oi := ?oi8) (v := ?v8) ?hi8 (by kernel_rfl) (by kernel_rfl) (by kernel_rfl) ?hq8 ?hy8 (by assumption) ?_
      case hi8 => (simp only [List.getElem?_toArray, List.getElem?_cons_succ, List.getElem?_cons_zero]; rfl)
      case hq8 => exact fun _ _ _ h => h
      case hy8 => (refine Or.inl ⟨by rfl, ?_⟩; intro w' hSw; (try dsimp only at hSw); (try go_simp); try with_reducible rfl)
      try simp only [Act.put, List.setIfInBounds_toArray, List.set_cons_zero, List.set_cons_succ]
      refine wpAnyH_take (i := 9) (oi := ?oi9) (v := ?v9) ?hi9 (by kernel_rfl) (by kernel_rfl) (by kernel_rfl) ?hq9 ?hy9 (by assumption) ?_
      case hi9 => (simp only [List.getElem?_toArray, List.getElem?_cons_succ, List.getElem?_cons_zero]; rfl)
      case hq9 => exact fun _ _ _ h => h
      case hy9 => (refine Or.inl ⟨by rfl, ?_⟩; intro w' hSw; (try dsimp only at hSw); (try go_simp); try with_reducible rfl)
      try simp only [Act.put, List.setIfInBounds_toArray, List.set_cons_zero, List.set_cons_succ]
      refine wpAnyH_take (i := 10) (oi := ?oi10) (v := ?v10) ?hi10 (by kernel_rfl) (by kernel_rfl) (by kernel_rfl) ?hq10 ?hy10 (by assumption) ?_
      case hi10 => (simp only [List.getElem?_toArray, List.getElem?_cons_succ, List.getElem?_cons_zero]; rfl)
      case hq10 => exact fun _ _ _ h => h
      case hy10 => (refine Or.inl ⟨by rfl, ?_⟩; intro w' hSw; (try dsimp only at hSw); (try go_simp); try with_reducible rfl)
      try simp only [Act.put, List.setIfInBounds_toArray, List.set_cons_zero, List.set_cons_succ]
      refine wpAnyH_take (i := 11) (oi := ?oi11) (v := ?v11) ?hi11 (by kernel_rfl) (by kernel_rfl) (by kernel_rfl) ?hq11 ?hy11 (by assumption) ?_
      case hi11 => (simp only [List.getElem?_toArray, List.getElem?_cons_succ, List.getElem?_cons_zero]; rfl)
      case hq11 => exact fun _ _ _ h => h
      case hy11 => (refine Or.inl ⟨by rfl, ?_⟩; intro w' hSw; (try dsimp only at hSw); (try go_simp); try with_reducible rfl)
      try simp only [Act.put, List.setIfInBounds_toArray, List.set_cons_zero, List.set_cons_succ]
      refine wpAnyH_take (i := 12) (oi := ?oi12) (v := ?v12) ?hi12 (by kernel_rfl) (by kernel_rfl) (by kernel_rfl) ?hq12 ?hy12 (by assumption) ?_
      case hi12 => (simp only [List.getElem?_toArray, List.getElem?_cons_succ, List.getElem?_cons_zero]; rfl)
      case hq12 => exact fun _ _ _ h => h
      case hy12 => (refine Or.inl ⟨by rfl, ?_⟩; intro w' hSw; (try dsimp only at hSw); (try go_simp); try with_reducible rfl)
      try simp only [Act.put, List.setIfInBounds_toArray, List.set_cons_zero, List.set_cons_succ]
      refine wpAnyH_take (i := 13) (oi := ?oi13) (v := ?v13) ?hi13 (by kernel_rfl) (by kernel_rfl) (by kernel_rfl) ?hq13 ?hy13 (by assumption) ?_
      case hi13 => (simp only [List.getElem?_toArray, List.getElem?_cons_succ, List.getElem?_cons_zero]; rfl)
      case hq13 => exact fun _ _ _ h => h
      case hy13 => (refine Or.inl ⟨by rfl, ?_⟩; intro w' hSw; (try dsimp only at hSw); (try go_simp); try with_reducible rfl)
      try simp only [Act.put, List.setIfInBounds_toArray, List.set_cons_zero, List.set_cons_succ]
      refine wpAnyH_take (i := 14) (oi := ?oi14) (v := ?v14) ?hi14 (by kernel_rfl) (by kernel_rfl) (by kernel_rfl) ?hq14 ?hy14 (by assumption) ?_
      case hi14 => (simp only [List.getElem?_toArray, List.getElem?_cons_succ, List.getElem?_cons_zero]; rfl)
      case hq14 => exact fun _ _ _ h => h
      case hy14 => (refine Or.inl ⟨by rfl, ?_⟩; intro w' hSw; (try dsimp only at hSw); (try go_simp); try with_reducible rfl)
      try simp only [Act.put, List.setIfInBounds_toArray, List.set_cons_zero, List.set_cons_succ]
      refine wpAnyH_ready (rs := [15]) (by kernel_rfl) (by simp) ?_
      refine AllReadyH.cons rfl (fun K hK => ?_) ?_
      rotate_left
      · exact AllReadyH.nil
      go_simp
      go_at_call 27
      refine (end_any a o _ rfl _ (by omega)).mono ?_
      rintro e w' ⟨rfl, hb⟩
      (try go_wp2_with fail)
      refine hK.out _ _ (EndS.keep (by assumption) hlt hb0 hb) (fun hHeld2 => ?_)
      clear hK K
      try simp only [Act.put, List.setIfInBounds_toArray, List.set_cons_zero, List.set_cons_succ]
      refine wpAnyH_take (i := 16) (oi := ?oi16) (v := ?v16) ?hi16 (by kernel_rfl) (by kernel_rfl) (by kernel_rfl) ?hq16 ?hy16 (by assumption) ?_
      case hi16 => (simp only [List.getElem?_toArray, List.getElem?_cons_succ, List.getElem?_cons_zero]; rfl)
      case hq16 => exact fun _ _ _ h => h
      case hy16 => (refine Or.inl ⟨by rfl, ?_⟩; intro w' hSw; (try dsimp only at hSw); (try go_simp); try with_reducible rfl)
      try simp only [Act.put, List.setIfInBounds_toArray, List.set_cons_zero, List.set_cons_succ]
      refine wpAnyH_take (i := 17) (oi := ?oi17) (v := ?v17) ?hi17 (by kernel_rfl) (by kernel_rfl) (by kernel_rfl) ?hq17 ?hy17 (by assumption) ?_
      case hi17 => (simp only [List.getElem?_toArray, List.getElem?_cons_succ, List.getElem?_cons_zero]; rfl)
      case hq17 => exact fun _ _ _ h => h
      case hy17 => (refine Or.inl ⟨by rfl, ?_⟩; intro w' hSw; (try dsimp only at hSw); (try go_simp); try with_reducible rfl)
      try simp only [Act.put, List.setIfInBounds_toArray, List.set_cons_zero, List.set_cons_succ]
      refine wpAnyH_take (i := 18) (oi := ?oi18) (v := ?v18) ?hi18 (by kernel_rfl) (by kernel_rfl) (by kernel_rfl) ?hq18 ?hy18 (by assumption) ?_
      case hi18 => (simp only [List.getElem?_toArray, List.getElem?_cons_succ, List.getElem?_cons_zero]; rfl)
      case hq18 => exact fun _ _ _ h => h
      case hy18 => (refine Or.inl ⟨by rfl, ?_⟩; intro w' hSw; (try dsimp only at hSw); (try go_simp); try with_reducible rfl)
      try simp only [Act.put, List.setIfInBounds_toArray, List.set_cons_zero, List.set_cons_succ]
      refine wpAnyH_take (i := 19) (oi := ?oi19) (v := ?v19) ?hi19 (by kernel_rfl) (by kernel_rfl) (by kernel_rfl) ?hq19 ?hy19 (by assumption) ?_
      case hi19 => (simp only [List.getElem?_toArray, List.getElem?_cons_succ, List.getElem?_cons_zero]; rfl)
      case hq19 => exact fun _ _ _ h => h
      case hy19 => (refine Or.inl ⟨by rfl, ?_⟩; intro w' hSw; (try dsimp only at hSw); (try go_simp); try with_reducible rfl)
      try simp only [Act.put, List.setIfInBounds_toArray, List.set_cons_zero, List.set_cons_succ]
      refine wpAnyH_take (i := 20) (oi := ?oi20) (v := ?v20) ?hi20 (by kernel_rfl) (by kernel_rfl) (by kernel_rfl) ?hq20 ?hy20 (by assumption) ?_
      case hi20 => (simp only [List.getElem?_toArray, List.getElem?_cons_succ, List.getElem?_cons_zero]; rfl)
      case hq20 => exact fun _ _ _ h => h
      case hy20 => (refine Or.inl ⟨by rfl, ?_⟩; intro w' hSw; (try dsimp only at hSw); (try go_simp); try with_reducible rfl)
      try simp only [Act.put, List.setIfInBounds_toArray, List.set_cons_zero, List.set_cons_succ]
      refine wpAnyH_take (i := 21) (oi := ?oi21) (v := ?v21) ?hi21 (by kernel_rfl) (by kernel_rfl) (by kernel_rfl) ?hq21 ?hy21 (by assumption) ?_
      case hi21 => (simp only [List.getElem?_toArray, List.getElem?_cons_succ, List.getElem?_cons_zero]; rfl)
      case hq21 => exact fun _ _ _ h => h
      case hy21 => (refine Or.inl ⟨by rfl, ?_⟩; intro w' hSw; (try dsimp only at hSw); (try go_simp); try with_reducible rfl)
      try simp only [Act.put, List.setIfInBounds_toArray, List.set_cons_zero, List.set_cons_succ]
      refine wpAnyH_take (i := 22) (oi := ?oi22) (v := ?v22) ?hi22 (by kernel_rfl) (by kernel_rfl) (by kernel_rfl) ?hq22 ?hy22 (by assumption) ?_
      case hi22 => (simp only [List.getElem?_toArray, List.getElem?_cons_succ, List.getElem?_cons_zero]; rfl)
      case hq22 => exact fun _ _ _ h => h
      case hy22 => (refine Or.inl ⟨by rfl, ?_⟩; intro w' hSw; (try dsimp only at hSw); (try go_simp); try with_reducible rfl)
      try simp only [Act.put, List.setIfInBounds_toArray, List.set_cons_zero, List.set_cons_succ]
      refine wpAnyH_take (i := 23) (oi := ?oi23) (v := ?v23) ?hi23 (by kernel_rfl) (by kernel_rfl) (by kernel_rfl) ?hq23 ?hy23 (by assumption) ?_
      case hi23 => (simp only [List.getElem?_toArray, List.getElem?_cons_succ, List.getElem?_cons_zero]; rfl)
      case hq23 => exact fun _ _ _ h => h
      case hy23 => (refine Or.inl ⟨by rfl, ?_⟩; intro w' hSw; (try dsimp only at hSw); (try go_simp); try with_reducible rfl)
      try simp only [Act.put, List.setIfInBounds_toArray, List.set_cons_zero, List.set_cons_succ]
      refine wpAnyH_take (i := 24) (oi := ?oi24) (v := ?v24) ?hi24 (by kernel_rfl) (by kernel_rfl) (by kernel_rfl) ?hq24 ?hy24 (by assumption) ?_
      case hi24 => (simp only [List.getElem?_toArray, List.getElem?_cons_succ, List.getElem?_cons_zero]; rfl)
      case hq24 => exact fun _ _ _ h => h
      case hy24 => (refine Or.inl ⟨by rfl, ?_⟩; intro w' hSw; (try dsimp only at hSw); (try go_simp); try with_reducible rfl)
      try simp only [Act.put, List.setIfInBounds_toArray, List.set_cons_zero, List.set_cons_succ]
      refine wpAnyH_take (i := 25) (oi := ?oi25) (v := ?v25) ?hi25 (by kernel_rfl) (by kernel_rfl) (by kernel_rfl) ?hq25 ?hy25 (by assumption) ?_
      case hi25 => (simp only [List.getElem?_toArray, List.getElem?_cons_succ, List.getElem?_cons_zero]; rfl)
      case hq25 => exact fun _ _ _ h => h
      case hy25 => (refine Or.inl ⟨by rfl, ?_⟩; intro w' hSw; (try dsimp only at hSw); (try go_simp); try with_reducible rfl)
      try simp only [Act.put, List.setIfInBounds_toArray, List.set_cons_zero, List.set_cons_succ]
      refine wpAnyH_take (i := 26) (oi := ?oi26) (v := ?v26) ?hi26 (by kernel_rfl) (by kernel_rfl) (by kernel_rfl) ?hq26 ?hy26 (by assumption) ?_
      case hi26 => (simp only [List.getElem?_toArray, List.getElem?_cons_succ, List.getElem?_cons_zero]; rfl)
      case hq26 => exact fun _ _ _ h => h
      case hy26 => (refine Or.inl ⟨by rfl, ?_⟩; intro w' hSw; (try dsimp only at hSw); (try go_simp); try with_reducible rfl)
      try simp only [Act.put, List.setIfInBounds_toArray, List.set_cons_zero, List.set_cons_succ]
      refine wpAnyH_ready (rs := [27]) (by kernel_rfl) (by simp) ?_
      refine AllReadyH.cons rfl (fun K hK => ?_) ?_
      rotate_left
      · exact AllReadyH.nil
      go_simp
      go_at_call 54
      refine (containsFuncB _ _ (offP ((a.size : Int) + 1)) _ (l.take m) _ (HTK.out.below (show EndS w wb a o _ b0 (o0 + m) _ _ by assumption).2.2.2.2.2.1) (enters_of Tryz.func62 rfl rfl) (HPR.out _ (by assumption))).mono ?_
      rintro e w' ⟨rfl, hb⟩
      rw [HF.out]
      (try go_wp2_with fail)
      refine hK.out _ _ (EndS.keep (by assumption) hlt hb0 hb) (fun hHeld3 => ?_)
      clear hK K
      try simp only [Act.put, List.setIfInBounds_toArray, List.set_cons_zero, List.set_cons_succ]
      refine wpAnyH_take (i := 28) (oi := ?oi28) (v := ?v28) ?hi28 (by kernel_rfl) (by kernel_rfl) (by kernel_rfl) ?hq28 ?hy28 (by assumption) ?_
      case hi28 => (simp only [List.getElem?_toArray, List.getElem?_cons_succ, List.getElem?_cons_zero]; rfl)
      case hq28 => exact fun _ _ _ h => h
      case hy28 => (refine Or.inl ⟨by rfl, ?_⟩; intro w' hSw; (try dsimp only at hSw); (try go_simp); try with_reducible rfl)
      try simp only [Act.put, List.setIfInBounds_toArray, List.set_cons_zero, List.set_cons_succ]
      refine wpAnyH_done (by kernel_rfl) ?_ _
      go_wp2_with fail
      go_ret
      exact ⟨rfl, (show EndS w wb a o _ b0 (o0 + m) _ _ by assumption).2.2.2.2.2.1⟩
    · have f2 : (y != (a.size : Int) + 1) = true := by simp [hye]
      go_enter Tryz.func36, Tryz.ntmps36
      go_upto_region 2 with fail
      generalize w.alloc (.cells #[.pointer (some ⟨wb, 0, none⟩)] 62) = wa at *
      refine wp_region_held_drew (S := (fun w' => w'.cell? ⟨w.heap.size, 0, none⟩ = some (.pointer (some ⟨wb, 0, none⟩)) ∧ w'.cell? ⟨wb, 0, none⟩ = some (.string a) ∧ w'.cell? ⟨wb, 1, none⟩ = some (.int .i64 o) ∧ w'.cell? ⟨wb, 2, none⟩ = some (.slice (some ⟨b0, o0, none⟩) l.length ca) ∧ w'.cell? ⟨b0, o0 + m, none⟩ = some (.int .i64 y) ∧ Below w.heap.size w w' ∧ w.heap.size < w'.heap.size)) (by kernel_rfl) (EndS.drew z0) (fun hHeld => ?_)
      refine wpAnyH_take (i := 0) (oi := ?oib0) (v := ?vb0) ?hib0 (by kernel_rfl) (by kernel_rfl) (by kernel_rfl) ?hqb0 ?hyb0 (by assumption) ?_
      case hib0 => (simp only [List.getElem?_toArray, List.getElem?_cons_zero]; rfl)
      case hqb0 => exact fun _ _ _ h => h
      case hyb0 => (refine Or.inl ⟨by rfl, ?_⟩; intro w' hSw; (try dsimp only at hSw); (try go_simp); try with_reducible rfl)
      try simp only [Act.put, List.setIfInBounds_toArray, List.set_cons_zero, List.set_cons_succ]
      refine wpAnyH_take (i := 1) (oi := ?oib1) (v := ?vb1) ?hib1 (by kernel_rfl) (by kernel_rfl) (by kernel_rfl) ?hqb1 ?hyb1 (by assumption) ?_
      case hib1 => (simp only [List.getElem?_toArray, List.getElem?_cons_succ, List.getElem?_cons_zero]; rfl)
      case hqb1 => exact fun _ _ _ h => h
      case hyb1 => (refine Or.inl ⟨by rfl, ?_⟩; intro w' hSw; (try dsimp only at hSw); (try go_simp); try with_reducible rfl)
      try simp only [Act.put, List.setIfInBounds_toArray, List.set_cons_zero, List.set_cons_succ]
      refine wpAnyH_take (i := 2) (oi := ?oib2) (v := ?vb2) ?hib2 (by kernel_rfl) (by kernel_rfl) (by kernel_rfl) ?hqb2 ?hyb2 (by assumption) ?_
      case hib2 => (simp only [List.getElem?_toArray, List.getElem?_cons_succ, List.getElem?_cons_zero]; rfl)
      case hqb2 => exact fun _ _ _ h => h
      case hyb2 => (refine Or.inl ⟨by rfl, ?_⟩; intro w' hSw; (try dsimp only at hSw); (try go_simp); try with_reducible rfl)
      try simp only [Act.put, List.setIfInBounds_toArray, List.set_cons_zero, List.set_cons_succ]
      refine wpAnyH_take (i := 3) (oi := ?oib3) (v := ?vb3) ?hib3 (by kernel_rfl) (by kernel_rfl) (by kernel_rfl) ?hqb3 ?hyb3 (by assumption) ?_
      case hib3 => (simp only [List.getElem?_toArray, List.getElem?_cons_succ, List.getElem?_cons_zero]; rfl)
      case hqb3 => exact fun _ _ _ h => h
      case hyb3 => (refine Or.inl ⟨by rfl, ?_⟩; intro w' hSw; (try dsimp only at hSw); (try go_simp); try with_reducible rfl)
      try simp only [Act.put, List.setIfInBounds_toArray, List.set_cons_zero, List.set_cons_succ]
      refine wpAnyH_take (i := 4) (oi := ?oib4) (v := ?vb4) ?hib4 (by kernel_rfl) (by kernel_rfl) (by kernel_rfl) ?hqb4 ?hyb4 (by assumption) ?_
      case hib4 => (simp only [List.getElem?_toArray, List.getElem?_cons_succ, List.getElem?_cons_zero]; rfl)
      case hqb4 => exact fun _ _ _ h => h
      case hyb4 => (refine Or.inl ⟨by rfl, ?_⟩; intro w' hSw; (try dsimp only at hSw); (try go_simp); try with_reducible rfl)
      try simp only [Act.put, List.setIfInBounds_toArray, List.set_cons_zero, List.set_cons_succ]
      refine wpAnyH_take (i := 5) (oi := ?oib5) (v := ?vb5) ?hib5 (by kernel_rfl) (by kernel_rfl) (by kernel_rfl) ?hqb5 ?hyb5 (by assumption) ?_
      case hib5 => (simp only [List.getElem?_toArray, List.getElem?_cons_succ, List.getElem?_cons_zero]; rfl)
      case hqb5 => exact fun _ _ _ h => h
      case hyb5 => (refine Or.inl ⟨by rfl, ?_⟩; intro w' hSw; (try dsimp only at hSw); (try go_simp); try with_reducible rfl)
      try simp only [Act.put, List.setIfInBounds_toArray, List.set_cons_zero, List.set_cons_succ]
      refine wpAnyH_take (i := 6) (oi := ?oib6) (v := ?vb6) ?hib6 (by kernel_rfl) (by kernel_rfl) (by kernel_rfl) ?hqb6 ?hyb6 (by assumption) ?_
      case hib6 => (simp only [List.getElem?_toArray, List.getElem?_cons_succ, List.getElem?_cons_zero]; rfl)
      case hqb6 => exact fun _ _ _ h => h
      case hyb6 => (refine Or.inl ⟨by rfl, ?_⟩; intro w' hSw; (try dsimp only at hSw); (try go_simp); try with_reducible rfl)
      try simp only [Act.put, List.setIfInBounds_toArray, List.set_cons_zero, List.set_cons_succ]
      refine wpAnyH_take (i := 7) (oi := ?oib7) (v := ?vb7) ?hib7 (by kernel_rfl) (by kernel_rfl) (by kernel_rfl) ?hqb7 ?hyb7 (by assumption) ?_
      case hib7 => (simp only [List.getElem?_toArray, List.getElem?_cons_succ, List.getElem?_cons_zero]; rfl)
      case hqb7 => exact fun _ _ _ h => h
      case hyb7 => (refine Or.inl ⟨by rfl, ?_⟩; intro w' hSw; (try dsimp only at hSw); (try go_simp); try with_reducible rfl)
      try simp only [Act.put, List.setIfInBounds_toArray, List.set_cons_zero, List.set_cons_succ]
      refine wpAnyH_take (i := 8) (oi := ?oib8) (v := ?vb8) ?hib8 (by kernel_rfl) (by kernel_rfl) (by kernel_rfl) ?hqb8 ?hyb8 (by assumption) ?_
      case hib8 => (simp only [List.getElem?_toArray, List.getElem?_cons_succ, List.getElem?_cons_zero]; rfl)
      case hqb8 => exact fun _ _ _ h => h
      case hyb8 => (refine Or.inl ⟨by rfl, ?_⟩; intro w' hSw; (try dsimp only at hSw); (try go_simp); try with_reducible rfl)
      try simp only [Act.put, List.setIfInBounds_toArray, List.set_cons_zero, List.set_cons_succ]
      refine wpAnyH_take (i := 9) (oi := ?oib9) (v := ?vb9) ?hib9 (by kernel_rfl) (by kernel_rfl) (by kernel_rfl) ?hqb9 ?hyb9 (by assumption) ?_
      case hib9 => (simp only [List.getElem?_toArray, List.getElem?_cons_succ, List.getElem?_cons_zero]; rfl)
      case hqb9 => exact fun _ _ _ h => h
      case hyb9 => (refine Or.inl ⟨by rfl, ?_⟩; intro w' hSw; (try dsimp only at hSw); (try go_simp); try with_reducible rfl)
      try simp only [Act.put, List.setIfInBounds_toArray, List.set_cons_zero, List.set_cons_succ]
      refine wpAnyH_take (i := 10) (oi := ?oib10) (v := ?vb10) ?hib10 (by kernel_rfl) (by kernel_rfl) (by kernel_rfl) ?hqb10 ?hyb10 (by assumption) ?_
      case hib10 => (simp only [List.getElem?_toArray, List.getElem?_cons_succ, List.getElem?_cons_zero]; rfl)
      case hqb10 => exact fun _ _ _ h => h
      case hyb10 => (refine Or.inl ⟨by rfl, ?_⟩; intro w' hSw; (try dsimp only at hSw); (try go_simp); try with_reducible rfl)
      try simp only [Act.put, List.setIfInBounds_toArray, List.set_cons_zero, List.set_cons_succ]
      refine wpAnyH_take (i := 11) (oi := ?oib11) (v := ?vb11) ?hib11 (by kernel_rfl) (by kernel_rfl) (by kernel_rfl) ?hqb11 ?hyb11 (by assumption) ?_
      case hib11 => (simp only [List.getElem?_toArray, List.getElem?_cons_succ, List.getElem?_cons_zero]; rfl)
      case hqb11 => exact fun _ _ _ h => h
      case hyb11 => (refine Or.inl ⟨by rfl, ?_⟩; intro w' hSw; (try dsimp only at hSw); (try go_simp); try with_reducible rfl)
      try simp only [Act.put, List.setIfInBounds_toArray, List.set_cons_zero, List.set_cons_succ]
      refine wpAnyH_take (i := 12) (oi := ?oib12) (v := ?vb12) ?hib12 (by kernel_rfl) (by kernel_rfl) (by kernel_rfl) ?hqb12 ?hyb12 (by assumption) ?_
      case hib12 => (simp only [List.getElem?_toArray, List.getElem?_cons_succ, List.getElem?_cons_zero]; rfl)
      case hqb12 => exact fun _ _ _ h => h
      case hyb12 => (refine Or.inl ⟨by rfl, ?_⟩; intro w' hSw; (try dsimp only at hSw); (try go_simp); try with_reducible rfl)
      try simp only [Act.put, List.setIfInBounds_toArray, List.set_cons_zero, List.set_cons_succ]
      refine wpAnyH_take (i := 13) (oi := ?oib13) (v := ?vb13) ?hib13 (by kernel_rfl) (by kernel_rfl) (by kernel_rfl) ?hqb13 ?hyb13 (by assumption) ?_
      case hib13 => (simp only [List.getElem?_toArray, List.getElem?_cons_succ, List.getElem?_cons_zero]; rfl)
      case hqb13 => exact fun _ _ _ h => h
      case hyb13 => (refine Or.inl ⟨by rfl, ?_⟩; intro w' hSw; (try dsimp only at hSw); (try go_simp); try with_reducible rfl)
      try simp only [Act.put, List.setIfInBounds_toArray, List.set_cons_zero, List.set_cons_succ]
      refine wpAnyH_take (i := 14) (oi := ?oib14) (v := ?vb14) ?hib14 (by kernel_rfl) (by kernel_rfl) (by kernel_rfl) ?hqb14 ?hyb14 (by assumption) ?_
      case hib14 => (simp only [List.getElem?_toArray, List.getElem?_cons_succ, List.getElem?_cons_zero]; rfl)
      case hqb14 => exact fun _ _ _ h => h
      case hyb14 => (refine Or.inl ⟨by rfl, ?_⟩; intro w' hSw; (try dsimp only at hSw); (try go_simp); try with_reducible rfl)
      try simp only [Act.put, List.setIfInBounds_toArray, List.set_cons_zero, List.set_cons_succ]
      refine wpAnyH_ready (rs := [15]) (by kernel_rfl) (by simp) ?_
      refine AllReadyH.cons rfl (fun K hK => ?_) ?_
      rotate_left
      · exact AllReadyH.nil
      go_simp
      go_at_call 27
      refine (end_any a o _ rfl _ (by omega)).mono ?_
      rintro e w' ⟨rfl, hb⟩
      (try go_wp2_with fail)
      refine hK.out _ _ (EndS.keep (by assumption) hlt hb0 hb) (fun hHeld2 => ?_)
      clear hK K
      try simp only [Act.put, List.setIfInBounds_toArray, List.set_cons_zero, List.set_cons_succ]
      refine wpAnyH_take (i := 16) (oi := ?oib16) (v := ?vb16) ?hib16 (by kernel_rfl) (by kernel_rfl) (by kernel_rfl) ?hqb16 ?hyb16 (by assumption) ?_
      case hib16 => (simp only [List.getElem?_toArray, List.getElem?_cons_succ, List.getElem?_cons_zero]; rfl)
      case hqb16 => exact fun _ _ _ h => h
      case hyb16 => (refine Or.inl ⟨by rfl, ?_⟩; intro w' hSw; (try dsimp only at hSw); (try go_simp); try with_reducible rfl)
      try simp only [Act.put, List.setIfInBounds_toArray, List.set_cons_zero, List.set_cons_succ]
      refine wpAnyH_take (i := 17) (oi := ?oib17) (v := ?vb17) ?hib17 (by kernel_rfl) (by kernel_rfl) (by kernel_rfl) ?hqb17 ?hyb17 (by assumption) ?_
      case hib17 => (simp only [List.getElem?_toArray, List.getElem?_cons_succ, List.getElem?_cons_zero]; rfl)
      case hqb17 => exact fun _ _ _ h => h
      case hyb17 => (refine Or.inl ⟨by rfl, ?_⟩; intro w' hSw; (try dsimp only at hSw); (try go_simp); try with_reducible rfl)
      try simp only [Act.put, List.setIfInBounds_toArray, List.set_cons_zero, List.set_cons_succ]
      refine wpAnyH_take (i := 18) (oi := ?oib18) (v := ?vb18) ?hib18 (by kernel_rfl) (by kernel_rfl) (by kernel_rfl) ?hqb18 ?hyb18 (by assumption) ?_
      case hib18 => (simp only [List.getElem?_toArray, List.getElem?_cons_succ, List.getElem?_cons_zero]; rfl)
      case hqb18 => exact fun _ _ _ h => h
      case hyb18 => (refine Or.inl ⟨by rfl, ?_⟩; intro w' hSw; (try dsimp only at hSw); (try go_simp); try with_reducible rfl)
      try simp only [Act.put, List.setIfInBounds_toArray, List.set_cons_zero, List.set_cons_succ]
      refine wpAnyH_take (i := 19) (oi := ?oib19) (v := undef) ?hib19 (by kernel_rfl) (by kernel_rfl) (by kernel_rfl) ?hqb19 ?hyb19 (by assumption) ?_
      case hib19 => (simp only [List.getElem?_toArray, List.getElem?_cons_succ, List.getElem?_cons_zero]; rfl)
      case hqb19 => exact fun _ _ _ h => h
      case hyb19 => exact Or.inr ⟨by rfl, rfl⟩
      try simp only [Act.put, List.setIfInBounds_toArray, List.set_cons_zero, List.set_cons_succ]
      refine wpAnyH_take (i := 20) (oi := ?oib20) (v := undef) ?hib20 (by kernel_rfl) (by kernel_rfl) (by kernel_rfl) ?hqb20 ?hyb20 (by assumption) ?_
      case hib20 => (simp only [List.getElem?_toArray, List.getElem?_cons_succ, List.getElem?_cons_zero]; rfl)
      case hqb20 => exact fun _ _ _ h => h
      case hyb20 => exact Or.inr ⟨by rfl, rfl⟩
      try simp only [Act.put, List.setIfInBounds_toArray, List.set_cons_zero, List.set_cons_succ]
      refine wpAnyH_take (i := 21) (oi := ?oib21) (v := undef) ?hib21 (by kernel_rfl) (by kernel_rfl) (by kernel_rfl) ?hqb21 ?hyb21 (by assumption) ?_
      case hib21 => (simp only [List.getElem?_toArray, List.getElem?_cons_succ, List.getElem?_cons_zero]; rfl)
      case hqb21 => exact fun _ _ _ h => h
      case hyb21 => exact Or.inr ⟨by rfl, rfl⟩
      try simp only [Act.put, List.setIfInBounds_toArray, List.set_cons_zero, List.set_cons_succ]
      refine wpAnyH_take (i := 22) (oi := ?oib22) (v := undef) ?hib22 (by kernel_rfl) (by kernel_rfl) (by kernel_rfl) ?hqb22 ?hyb22 (by assumption) ?_
      case hib22 => (simp only [List.getElem?_toArray, List.getElem?_cons_succ, List.getElem?_cons_zero]; rfl)
      case hqb22 => exact fun _ _ _ h => h
      case hyb22 => exact Or.inr ⟨by rfl, rfl⟩
      try simp only [Act.put, List.setIfInBounds_toArray, List.set_cons_zero, List.set_cons_succ]
      refine wpAnyH_take (i := 23) (oi := ?oib23) (v := undef) ?hib23 (by kernel_rfl) (by kernel_rfl) (by kernel_rfl) ?hqb23 ?hyb23 (by assumption) ?_
      case hib23 => (simp only [List.getElem?_toArray, List.getElem?_cons_succ, List.getElem?_cons_zero]; rfl)
      case hqb23 => exact fun _ _ _ h => h
      case hyb23 => exact Or.inr ⟨by rfl, rfl⟩
      try simp only [Act.put, List.setIfInBounds_toArray, List.set_cons_zero, List.set_cons_succ]
      refine wpAnyH_take (i := 24) (oi := ?oib24) (v := undef) ?hib24 (by kernel_rfl) (by kernel_rfl) (by kernel_rfl) ?hqb24 ?hyb24 (by assumption) ?_
      case hib24 => (simp only [List.getElem?_toArray, List.getElem?_cons_succ, List.getElem?_cons_zero]; rfl)
      case hqb24 => exact fun _ _ _ h => h
      case hyb24 => exact Or.inr ⟨by rfl, rfl⟩
      try simp only [Act.put, List.setIfInBounds_toArray, List.set_cons_zero, List.set_cons_succ]
      refine wpAnyH_take (i := 25) (oi := ?oib25) (v := undef) ?hib25 (by kernel_rfl) (by kernel_rfl) (by kernel_rfl) ?hqb25 ?hyb25 (by assumption) ?_
      case hib25 => (simp only [List.getElem?_toArray, List.getElem?_cons_succ, List.getElem?_cons_zero]; rfl)
      case hqb25 => exact fun _ _ _ h => h
      case hyb25 => exact Or.inr ⟨by rfl, rfl⟩
      try simp only [Act.put, List.setIfInBounds_toArray, List.set_cons_zero, List.set_cons_succ]
      refine wpAnyH_take (i := 26) (oi := ?oib26) (v := undef) ?hib26 (by kernel_rfl) (by kernel_rfl) (by kernel_rfl) ?hqb26 ?hyb26 (by assumption) ?_
      case hib26 => (simp only [List.getElem?_toArray, List.getElem?_cons_succ, List.getElem?_cons_zero]; rfl)
      case hqb26 => exact fun _ _ _ h => h
      case hyb26 => exact Or.inr ⟨by rfl, rfl⟩
      try simp only [Act.put, List.setIfInBounds_toArray, List.set_cons_zero, List.set_cons_succ]
      refine wpAnyH_take (i := 27) (oi := ?oib27) (v := undef) ?hib27 (by kernel_rfl) (by kernel_rfl) (by kernel_rfl) ?hqb27 ?hyb27 (by assumption) ?_
      case hib27 => (simp only [List.getElem?_toArray, List.getElem?_cons_succ, List.getElem?_cons_zero]; rfl)
      case hqb27 => exact fun _ _ _ h => h
      case hyb27 => exact Or.inr ⟨by rfl, rfl⟩
      try simp only [Act.put, List.setIfInBounds_toArray, List.set_cons_zero, List.set_cons_succ]
      refine wpAnyH_take (i := 28) (oi := ?oib28) (v := ?vb28) ?hib28 (by kernel_rfl) (by kernel_rfl) (by kernel_rfl) ?hqb28 ?hyb28 (by assumption) ?_
      case hib28 => (simp only [List.getElem?_toArray, List.getElem?_cons_succ, List.getElem?_cons_zero]; rfl)
      case hqb28 => exact fun _ _ _ h => h
      case hyb28 => (refine Or.inl ⟨by rfl, ?_⟩; intro w' hSw; (try dsimp only at hSw); (try go_simp); try with_reducible rfl)
      try simp only [Act.put, List.setIfInBounds_toArray, List.set_cons_zero, List.set_cons_succ]
      refine wpAnyH_done (by kernel_rfl) ?_ _
      go_wp2_with fail
      go_ret
      exact ⟨rfl, (show EndS w wb a o _ b0 (o0 + m) y _ by assumption).2.2.2.2.2.1⟩

end Go.Proofs.YthjmpiekjfnoiaaGreatDoor

/-
  The walks of the program's chapter 15: the step that looks at the symbols, where it takes them.
-/
namespace Go.Proofs.YthjmpiekjfnoiaaGreatDoor
open Go.RowKit Go.Shelf

theorem gb_below {w w' : World} (h : Below w.heap.size w w') (row : Option Nat) : w.grownBy w' row := ⟨h.os, h.tape, h.output, h.size, fun k hk _ => h.block k hk⟩
theorem gb_trans {a b c : World} {row : Option Nat} (h : a.grownBy b row) (k : b.grownBy c row) : a.grownBy c row :=
  ⟨k.os.trans h.os, k.tape.trans h.tape, k.output.trans h.output, Nat.le_trans h.size k.size, fun i hi hne => (k.block i (Nat.lt_of_lt_of_le hi h.size) hne).trans (h.block i hi hne)⟩

set_option maxRecDepth 100000 in
set_option maxHeartbeats 1600000 in
/-- The step takes the end's symbol away. -/
theorem ended_yes (wb : Nat) (a : ByteArray) (o most : Int) (v lv : Value) (l : List Int) (b : ByteArray) (w : World) (ha : a.size ≤ 256) (harr : Arr w wb 57 [.string a, .int .i64 o, v, .int .i64 most, lv, .string b]) (hr : RdI w v l) (hyes : mayP l ((a.size : Int) + 1)) :
    Calls Tryz.prog 36 #[.pointer (some ⟨wb, 0, none⟩)] w fun e w' => e = .returned (.int .i64 0) ∧ w.grownBy w' (some wb) ∧ ∃ lv', Arr w' wb 57 [.string a, .int .i64 o, v, .int .i64 most, lv', .string b] ∧ ∀ W, RdI W v l → RdI W lv' (l.take (l.length - 1)) := by
  obtain ⟨ad, ca, rfl, hca, hma, hA⟩ := hr.open
  have hma0 := hma
  unfold maxLen at hma
  have hlt := harr.lt
  have c2 := harr.cell (i := 2) rfl
  obtain ⟨m, hm⟩ : ∃ m, l.length = m + 1 := ⟨l.length - 1, by have := hyes.1; omega⟩
  obtain ⟨b0, o0, rfl, hb0, hc0⟩ := hA (by omega)
  have hy : l[m]? = some ((a.size : Int) + 1) := by have := hyes.2.1; rwa [hm, Nat.add_sub_cancel] at this
  have cy := hc0 m _ hy
  have r1 : IntKind.i64.wrap ((l.length : Int) - 1) = (m : Int) := by rw [IntKind.wrap_i64]; omega
  have r2 : m ≤ ca := by omega
  have r3 : (m : Int) ≤ (ca : Int) := by omega
  have r4 : (0 : Int) ≤ (m : Int) := by omega
  have r5 : m < l.length := by omega
  have r6 : (m : Int) < (l.length : Int) := by omega
  have r7 : decide ((m : Int) < 0) = false := decide_eq_false (by omega)
  have HM := hid hm
  have HC := hid hc0
  have c0 := harr.cell (i := 0) rfl
  have c1 := harr.cell (i := 1) rfl
  have z0 : EndS w wb a o (.slice (some ⟨b0, o0, none⟩) l.length ca) b0 (o0 + m) ((a.size : Int) + 1) (w.alloc (.cells #[.pointer (some ⟨wb, 0, none⟩)] 62)) := by
    have hB : Below w.heap.size w (w.alloc (.cells #[.pointer (some ⟨wb, 0, none⟩)] 62)) := (Below.refl _ _).alloc (Nat.le_refl _) _
    exact ⟨newc _ _ _, by rw [hB.cell (p := ⟨wb, 0, none⟩) hlt]; exact c0, by rw [hB.cell (p := ⟨wb, 1, none⟩) hlt]; exact c1, by rw [hB.cell (p := ⟨wb, 2, none⟩) hlt]; exact c2, by rw [hB.cell (p := ⟨b0, o0 + m, none⟩) hb0]; exact cy, hB, by simp⟩
  have f2 : (((a.size : Int) + 1) != ((a.size : Int) + 1)) = false := by simp
  have hfind : decide (0 ≤ idxP (offP ((a.size : Int) + 1)) (l.take m)) = false := by
    refine decide_eq_false (Int.not_le.2 ((idxP_ge (offP ((a.size : Int) + 1)) (l.take m)).2.2.2 fun x hx => ?_))
    have := hyes.2.2 x (by rw [HM.out, Nat.add_sub_cancel]; exact hx)
    unfold offP
    rw [Bool.or_eq_false_iff, decide_eq_false_iff_not, decide_eq_false_iff_not]
    omega
  have HTK := hid (takeS hb0 HC.out m (by omega) hca hma0)
  have hpr : ∀ W, EndS w wb a o (.slice (some ⟨b0, o0, none⟩) l.length ca) b0 (o0 + m) ((a.size : Int) + 1) W → PredB W 62 #[.pointer (some ⟨w.heap.size, 0, none⟩)] (offP ((a.size : Int) + 1)) (l.take m) := fun W hW W' hW' x _ => by
    have hk := EndS.keep hW hlt hb0 hW'
    exact ended1_any x w.heap.size wb a o most _ lv b W' (by omega) rfl hk.1 (harr.below hk.2.2.2.2.2.1 hlt)
  have HPR := hid hpr
  have HF := hid hfind
  have HY := hid hy
  clear hpr hfind hm hc0 hy hA
  go_enter Tryz.func36, Tryz.ntmps36
  go_upto_region 2 with fail
  generalize w.alloc (.cells #[.pointer (some ⟨wb, 0, none⟩)] 62) = wa at *
  refine wp_region_held_drew (S := (fun w' => w'.cell? ⟨w.heap.size, 0, none⟩ = some (.pointer (some ⟨wb, 0, none⟩)) ∧ w'.cell? ⟨wb, 0, none⟩ = some (.string a) ∧ w'.cell? ⟨wb, 1, none⟩ = some (.int .i64 o) ∧ w'.cell? ⟨wb, 2, none⟩ = some (.slice (some ⟨b0, o0, none⟩) l.length ca) ∧ w'.cell? ⟨b0, o0 + m, none⟩ = some (.int .i64 ((a.size : Int) + 1)) ∧ Below w.heap.size w w' ∧ w.heap.size < w'.heap.size)) (by kernel_rfl) (EndS.drew z0) (fun hHeld => ?_)
  refine wpAnyH_take (i := 0) (oi := ?oi0) (v := ?v0) ?hi0 (by kernel_rfl) (by kernel_rfl) (by kernel_rfl) ?hq0 ?hy0 (by assumption) ?_
  case hi0 => (simp only [List.getElem?_toArray, List.getElem?_cons_zero]; rfl)
  case hq0 => exact fun _ _ _ h => h
  case hy0 => (refine Or.inl ⟨by rfl, ?_⟩; intro w' hSw; (try dsimp only at hSw); (try go_simp); try with_reducible rfl)
  try simp only [Act.put, List.setIfInBounds_toArray, List.set_cons_zero, List.set_cons_succ]
  refine wpAnyH_take (i := 1) (oi := ?oi1) (v := ?v1) ?hi1 (by kernel_rfl) (by kernel_rfl) (by kernel_rfl) ?hq1 ?hy1 (by assumption) ?_
  case hi1 => (simp only [List.getElem?_toArray, List.getElem?_cons_succ, List.getElem?_cons_zero]; rfl)
  case hq1 => exact fun _ _ _ h => h
  case hy1 => (refine Or.inl ⟨by rfl, ?_⟩; intro w' hSw; (try dsimp only at hSw); (try go_simp); try with_reducible rfl)
  try simp only [Act.put, List.setIfInBounds_toArray, List.set_cons_zero, List.set_cons_succ]
  refine wpAnyH_take (i := 2) (oi := ?oi2) (v := ?v2) ?hi2 (by kernel_rfl) (by kernel_rfl) (by kernel_rfl) ?hq2 ?hy2 (by assumption) ?_
  case hi2 => (simp only [List.getElem?_toArray, List.getElem?_cons_succ, List.getElem?_cons_zero]; rfl)
  case hq2 => exact fun _ _ _ h => h
  case hy2 => (refine Or.inl ⟨by rfl, ?_⟩; intro w' hSw; (try dsimp only at hSw); (try go_simp); try with_reducible rfl)
  try simp only [Act.put, List.setIfInBounds_toArray, List.set_cons_zero, List.set_cons_succ]
  refine wpAnyH_take (i := 3) (oi := ?oi3) (v := ?v3) ?hi3 (by kernel_rfl) (by kernel_rfl) (by kernel_rfl) ?hq3 ?hy3 (by assumption) ?_
  case hi3 => (simp only [List.getElem?_toArray, List.getElem?_cons_succ, List.getElem?_cons_zero]; rfl)
  case hq3 => exact fun _ _ _ h => h
  case hy3 => (refine Or.inl ⟨by rfl, ?_⟩; intro w' hSw; (try dsimp only at hSw); (try go_simp); try with_reducible rfl)
  try simp only [Act.put, List.setIfInBounds_toArray, List.set_cons_zero, List.set_cons_succ]
  refine wpAnyH_take (i := 4) (oi := ?oi4) (v := ?v4) ?hi4 (by kernel_rfl) (by kernel_rfl) (by kernel_rfl) ?hq4 ?hy4 (by assumption) ?_
  case hi4 => (simp only [List.getElem?_toArray, List.getElem?_cons_succ, List.getElem?_cons_zero]; rfl)
  case hq4 => exact fun _ _ _ h => h
  case hy4 => (refine Or.inl ⟨by rfl, ?_⟩; intro w' hSw; (try dsimp only at hSw); (try go_simp); try with_reducible rfl)
  try simp only [Act.put, List.setIfInBounds_toArray, List.set_cons_zero, List.set_cons_succ]
  refine wpAnyH_take (i := 5) (oi := ?oi5) (v := ?v5) ?hi5 (by kernel_rfl) (by kernel_rfl) (by kernel_rfl) ?hq5 ?hy5 (by assumption) ?_
  case hi5 => (simp only [List.getElem?_toArray, List.getElem?_cons_succ, List.getElem?_cons_zero]; rfl)
  case hq5 => exact fun _ _ _ h => h
  case hy5 => (refine Or.inl ⟨by rfl, ?_⟩; intro w' hSw; (try dsimp only at hSw); (try go_simp); try with_reducible rfl)
  try simp only [Act.put, List.setIfInBounds_toArray, List.set_cons_zero, List.set_cons_succ]
  refine wpAnyH_take (i := 6) (oi := ?oi6) (v := ?v6) ?hi6 (by kernel_rfl) (by kernel_rfl) (by kernel_rfl) ?hq6 ?hy6 (by assumption) ?_
  case hi6 => (simp only [List.getElem?_toArray, List.getElem?_cons_succ, List.getElem?_cons_zero]; rfl)
  case hq6 => exact fun _ _ _ h => h
  case hy6 => (refine Or.inl ⟨by rfl, ?_⟩; intro w' hSw; (try dsimp only at hSw); (try go_simp); try with_reducible rfl)
  try simp only [Act.put, List.setIfInBounds_toArray, List.set_cons_zero, List.set_cons_succ]
  refine wpAnyH_take (i := 7) (oi := ?oi7) (v := ?v7) ?hi7 (by kernel_rfl) (by kernel_rfl) (by kernel_rfl) ?hq7 ?hy7 (by assumption) ?_
  case hi7 => (simp only [List.getElem?_toArray, List.getElem?_cons_succ, List.getElem?_cons_zero]; rfl)
  case hq7 => exact fun _ _ _ h => h
  case hy7 => (refine Or.inl ⟨by rfl, ?_⟩; intro w' hSw; (try dsimp only at hSw); (try go_simp); try with_reducible rfl)
  try simp only [Act.put, List.setIfInBounds_toArray, List.set_cons_zero, List.set_cons_succ]
  refine wpAnyH_take (i := 8) (oi := ?oi8) (v := ?v8) ?hi8 (by kernel_rfl) (by kernel_rfl) (by kernel_rfl) ?hq8 ?hy8 (by assumption) ?_
  case hi8 => (simp only [List.getElem?_toArray, List.getElem?_cons_succ, List.getElem?_cons_zero]; rfl)
  case hq8 => exact fun _ _ _ h => h
  case hy8 => (refine Or.inl ⟨by rfl, ?_⟩; intro w' hSw; (try dsimp only at hSw); (try go_simp); try with_reducible rfl)
  try simp only [Act.put, List.setIfInBounds_toArray, List.set_cons_zero, List.set_cons_succ]
  refine wpAnyH_take (i := 9) (oi := ?oi9) (v := ?v9) ?hi9 (by kernel_rfl) (by kernel_rfl) (by kernel_rfl) ?hq9 ?hy9 (by assumption) ?_
  case hi9 => (simp only [List.getElem?_toArray, List.getElem?_cons_succ, List.getElem?_cons_zero]; rfl)
  case hq9 => exact fun _ _ _ h => h
  case hy9 => (refine Or.inl ⟨by rfl, ?_⟩; intro w' hSw; (try dsimp only at hSw); (try go_simp); try with_reducible rfl)
  try simp only [Act.put, List.setIfInBounds_toArray, List.set_cons_zero, List.set_cons_succ]
  refine wpAnyH_take (i := 10) (oi := ?oi10) (v := ?v10) ?hi10 (by kernel_rfl) (by kernel_rfl) (by kernel_rfl) ?hq10 ?hy10 (by assumption) ?_
  case hi10 => (simp only [List.getElem?_toArray, List.getElem?_cons_succ, List.getElem?_cons_zero]; rfl)
  case hq10 => exact fun _ _ _ h => h
  case hy10 => (refine Or.inl ⟨by rfl, ?_⟩; intro w' hSw; (try dsimp only at hSw); (try go_simp); try with_reducible rfl)
  try simp only [Act.put, List.setIfInBounds_toArray, List.set_cons_zero, List.set_cons_succ]
  refine wpAnyH_take (i := 11) (oi := ?oi11) (v := ?v11) ?hi11 (by kernel_rfl) (by kernel_rfl) (by kernel_rfl) ?hq11 ?hy11 (by assumption) ?_
  case hi11 => (simp only [List.getElem?_toArray, List.getElem?_cons_succ, List.getElem?_cons_zero]; rfl)
  case hq11 => exact fun _ _ _ h => h
  case hy11 => (refine Or.inl ⟨by rfl, ?_⟩; intro w' hSw; (try dsimp only at hSw); (try go_simp); try with_reducible rfl)
  try simp only [Act.put, List.setIfInBounds_toArray, List.set_cons_zero, List.set_cons_succ]
  refine wpAnyH_take (i := 12) (oi := ?oi12) (v := ?v12) ?hi12 (by kernel_rfl) (by kernel_rfl) (by kernel_rfl) ?hq12 ?hy12 (by assumption) ?_
  case hi12 => (simp only [List.getElem?_toArray, List.getElem?_cons_succ, List.getElem?_cons_zero]; rfl)
  case hq12 => exact fun _ _ _ h => h
  case hy12 => (refine Or.inl ⟨by rfl, ?_⟩; intro w' hSw; (try dsimp only at hSw); (try go_simp); try with_reducible rfl)
  try simp only [Act.put, List.setIfInBounds_toArray, List.set_cons_zero, List.set_cons_succ]
  refine wpAnyH_take (i := 13) (oi := ?oi13) (v := ?v13) ?hi13 (by kernel_rfl) (by kernel_rfl) (by kernel_rfl) ?hq13 ?hy13 (by assumption) ?_
  case hi13 => (simp only [List.getElem?_toArray, List.getElem?_cons_succ, List.getElem?_cons_zero]; rfl)
  case hq13 => exact fun _ _ _ h => h
  case hy13 => (refine Or.inl ⟨by rfl, ?_⟩; intro w' hSw; (try dsimp only at hSw); (try go_simp); try with_reducible rfl)
  try simp only [Act.put, List.setIfInBounds_toArray, List.set_cons_zero, List.set_cons_succ]
  refine wpAnyH_take (i := 14) (oi := ?oi14) (v := ?v14) ?hi14 (by kernel_rfl) (by kernel_rfl) (by kernel_rfl) ?hq14 ?hy14 (by assumption) ?_
  case hi14 => (simp only [List.getElem?_toArray, List.getElem?_cons_succ, List.getElem?_cons_zero]; rfl)
  case hq14 => exact fun _ _ _ h => h
  case hy14 => (refine Or.inl ⟨by rfl, ?_⟩; intro w' hSw; (try dsimp only at hSw); (try go_simp); try with_reducible rfl)
  try simp only [Act.put, List.setIfInBounds_toArray, List.set_cons_zero, List.set_cons_succ]
  refine wpAnyH_ready (rs := [15]) (by kernel_rfl) (by simp) ?_
  refine AllReadyH.cons rfl (fun K hK => ?_) ?_
  rotate_left
  · exact AllReadyH.nil
  go_simp
  go_at_call 27
  refine (end_any a o _ rfl _ (by omega)).mono ?_
  rintro e w' ⟨rfl, hb⟩
  (try go_wp2_with fail)
  refine hK.out _ _ (EndS.keep (by assumption) hlt hb0 hb) (fun hHeld2 => ?_)
  clear hK K
  try simp only [Act.put, List.setIfInBounds_toArray, List.set_cons_zero, List.set_cons_succ]
  refine wpAnyH_take (i := 16) (oi := ?oi16) (v := ?v16) ?hi16 (by kernel_rfl) (by kernel_rfl) (by kernel_rfl) ?hq16 ?hy16 (by assumption) ?_
  case hi16 => (simp only [List.getElem?_toArray, List.getElem?_cons_succ, List.getElem?_cons_zero]; rfl)
  case hq16 => exact fun _ _ _ h => h
  case hy16 => (refine Or.inl ⟨by rfl, ?_⟩; intro w' hSw; (try dsimp only at hSw); (try go_simp); try with_reducible rfl)
  try simp only [Act.put, List.setIfInBounds_toArray, List.set_cons_zero, List.set_cons_succ]
  refine wpAnyH_take (i := 17) (oi := ?oi17) (v := ?v17) ?hi17 (by kernel_rfl) (by kernel_rfl) (by kernel_rfl) ?hq17 ?hy17 (by assumption) ?_
  case hi17 => (simp only [List.getElem?_toArray, List.getElem?_cons_succ, List.getElem?_cons_zero]; rfl)
  case hq17 => exact fun _ _ _ h => h
  case hy17 => (refine Or.inl ⟨by rfl, ?_⟩; intro w' hSw; (try dsimp only at hSw); (try go_simp); try with_reducible rfl)
  try simp only [Act.put, List.setIfInBounds_toArray, List.set_cons_zero, List.set_cons_succ]
  refine wpAnyH_take (i := 18) (oi := ?oi18) (v := ?v18) ?hi18 (by kernel_rfl) (by kernel_rfl) (by kernel_rfl) ?hq18 ?hy18 (by assumption) ?_
  case hi18 => (simp only [List.getElem?_toArray, List.getElem?_cons_succ, List.getElem?_cons_zero]; rfl)
  case hq18 => exact fun _ _ _ h => h
  case hy18 => (refine Or.inl ⟨by rfl, ?_⟩; intro w' hSw; (try dsimp only at hSw); (try go_simp); try with_reducible rfl)
  try simp only [Act.put, List.setIfInBounds_toArray, List.set_cons_zero, List.set_cons_succ]
  refine wpAnyH_take (i := 19) (oi := ?oi19) (v := ?v19) ?hi19 (by kernel_rfl) (by kernel_rfl) (by kernel_rfl) ?hq19 ?hy19 (by assumption) ?_
  case hi19 => (simp only [List.getElem?_toArray, List.getElem?_cons_succ, List.getElem?_cons_zero]; rfl)
  case hq19 => exact fun _ _ _ h => h
  case hy19 => (refine Or.inl ⟨by rfl, ?_⟩; intro w' hSw; (try dsimp only at hSw); (try go_simp); try with_reducible rfl)
  try simp only [Act.put, List.setIfInBounds_toArray, List.set_cons_zero, List.set_cons_succ]
  refine wpAnyH_take (i := 20) (oi := ?oi20) (v := ?v20) ?hi20 (by kernel_rfl) (by kernel_rfl) (by kernel_rfl) ?hq20 ?hy20 (by assumption) ?_
  case hi20 => (simp only [List.getElem?_toArray, List.getElem?_cons_succ, List.getElem?_cons_zero]; rfl)
  case hq20 => exact fun _ _ _ h => h
  case hy20 => (refine Or.inl ⟨by rfl, ?_⟩; intro w' hSw; (try dsimp only at hSw); (try go_simp); try with_reducible rfl)
  try simp only [Act.put, List.setIfInBounds_toArray, List.set_cons_zero, List.set_cons_succ]
  refine wpAnyH_take (i := 21) (oi := ?oi21) (v := ?v21) ?hi21 (by kernel_rfl) (by kernel_rfl) (by kernel_rfl) ?hq21 ?hy21 (by assumption) ?_
  case hi21 => (simp only [List.getElem?_toArray, List.getElem?_cons_succ, List.getElem?_cons_zero]; rfl)
  case hq21 => exact fun _ _ _ h => h
  case hy21 => (refine Or.inl ⟨by rfl, ?_⟩; intro w' hSw; (try dsimp only at hSw); (try go_simp); try with_reducible rfl)
  try simp only [Act.put, List.setIfInBounds_toArray, List.set_cons_zero, List.set_cons_succ]
  refine wpAnyH_take (i := 22) (oi := ?oi22) (v := ?v22) ?hi22 (by kernel_rfl) (by kernel_rfl) (by kernel_rfl) ?hq22 ?hy22 (by assumption) ?_
  case hi22 => (simp only [List.getElem?_toArray, List.getElem?_cons_succ, List.getElem?_cons_zero]; rfl)
  case hq22 => exact fun _ _ _ h => h
  case hy22 => (refine Or.inl ⟨by rfl, ?_⟩; intro w' hSw; (try dsimp only at hSw); (try go_simp); try with_reducible rfl)
  try simp only [Act.put, List.setIfInBounds_toArray, List.set_cons_zero, List.set_cons_succ]
  refine wpAnyH_take (i := 23) (oi := ?oi23) (v := ?v23) ?hi23 (by kernel_rfl) (by kernel_rfl) (by kernel_rfl) ?hq23 ?hy23 (by assumption) ?_
  case hi23 => (simp only [List.getElem?_toArray, List.getElem?_cons_succ, List.getElem?_cons_zero]; rfl)
  case hq23 => exact fun _ _ _ h => h
  case hy23 => (refine Or.inl ⟨by rfl, ?_⟩; intro w' hSw; (try dsimp only at hSw); (try go_simp); try with_reducible rfl)
  try simp only [Act.put, List.setIfInBounds_toArray, List.set_cons_zero, List.set_cons_succ]
  refine wpAnyH_take (i := 24) (oi := ?oi24) (v := ?v24) ?hi24 (by kernel_rfl) (by kernel_rfl) (by kernel_rfl) ?hq24 ?hy24 (by assumption) ?_
  case hi24 => (simp only [List.getElem?_toArray, List.getElem?_cons_succ, List.getElem?_cons_zero]; rfl)
  case hq24 => exact fun _ _ _ h => h
  case hy24 => (refine Or.inl ⟨by rfl, ?_⟩; intro w' hSw; (try dsimp only at hSw); (try go_simp); try with_reducible rfl)
  try simp only [Act.put, List.setIfInBounds_toArray, List.set_cons_zero, List.set_cons_succ]
  refine wpAnyH_take (i := 25) (oi := ?oi25) (v := ?v25) ?hi25 (by kernel_rfl) (by kernel_rfl) (by kernel_rfl) ?hq25 ?hy25 (by assumption) ?_
  case hi25 => (simp only [List.getElem?_toArray, List.getElem?_cons_succ, List.getElem?_cons_zero]; rfl)
  case hq25 => exact fun _ _ _ h => h
  case hy25 => (refine Or.inl ⟨by rfl, ?_⟩; intro w' hSw; (try dsimp only at hSw); (try go_simp); try with_reducible rfl)
  try simp only [Act.put, List.setIfInBounds_toArray, List.set_cons_zero, List.set_cons_succ]
  refine wpAnyH_take (i := 26) (oi := ?oi26) (v := ?v26) ?hi26 (by kernel_rfl) (by kernel_rfl) (by kernel_rfl) ?hq26 ?hy26 (by assumption) ?_
  case hi26 => (simp only [List.getElem?_toArray, List.getElem?_cons_succ, List.getElem?_cons_zero]; rfl)
  case hq26 => exact fun _ _ _ h => h
  case hy26 => (refine Or.inl ⟨by rfl, ?_⟩; intro w' hSw; (try dsimp only at hSw); (try go_simp); try with_reducible rfl)
  try simp only [Act.put, List.setIfInBounds_toArray, List.set_cons_zero, List.set_cons_succ]
  refine wpAnyH_ready (rs := [27]) (by kernel_rfl) (by simp) ?_
  refine AllReadyH.cons rfl (fun K hK => ?_) ?_
  rotate_left
  · exact AllReadyH.nil
  go_simp
  go_at_call 54
  refine (containsFuncB _ _ (offP ((a.size : Int) + 1)) _ (l.take m) _ (HTK.out.below (show EndS w wb a o _ b0 (o0 + m) _ _ by assumption).2.2.2.2.2.1) (enters_of Tryz.func62 rfl rfl) (HPR.out _ (by assumption))).mono ?_
  rintro e w3 ⟨rfl, hb3⟩
  rw [HF.out]
  (try go_wp2_with fail)
  refine hK.out _ _ (EndS.keep (by assumption) hlt hb0 hb3) (fun hHeld3 => ?_)
  clear hK K
  try simp only [Act.put, List.setIfInBounds_toArray, List.set_cons_zero, List.set_cons_succ]
  refine wpAnyH_take (i := 28) (oi := ?oi28) (v := ?v28) ?hi28 (by kernel_rfl) (by kernel_rfl) (by kernel_rfl) ?hq28 ?hy28 (by assumption) ?_
  case hi28 => (simp only [List.getElem?_toArray, List.getElem?_cons_succ, List.getElem?_cons_zero]; rfl)
  case hq28 => exact fun _ _ _ h => h
  case hy28 => (refine Or.inl ⟨by rfl, ?_⟩; intro w' hSw; (try dsimp only at hSw); (try go_simp); try with_reducible rfl)
  try simp only [Act.put, List.setIfInBounds_toArray, List.set_cons_zero, List.set_cons_succ]
  refine wpAnyH_done (by kernel_rfl) ?_ _
  clear hHeld hHeld2
  obtain ⟨k0, k1, k2, k3, k4, k5, k6⟩ := hHeld3
  have har3 := harr.below k5 hlt
  have k7 := har3.cell (i := 4) rfl
  have k8 := har3.free
  clear hb3 hb harr z0
  go_upto_region 4 with fail
  go_still_tail 10, (by kernel_rfl)
  change wpList _ _ _ _ _ w3.drew
  have har4 : Arr w3.drew wb 57 _ := har3
  have k0' : w3.drew.cell? ⟨w.heap.size, 0, none⟩ = some (.pointer (some ⟨wb, 0, none⟩)) := k0
  have k7' : w3.drew.cell? ⟨wb, 4, none⟩ = some lv := k7
  have k8' : ∀ i, w3.drew.frozen? ⟨wb, i, none⟩ = false := k8
  have k5' : Below w.heap.size w w3.drew := k5.drew
  generalize w3.drew = w4 at *
  clear har3 k0 k1 k2 k3 k4 k5 k6 k7 k8
  go_wp2_with fail
  go_ret
  exact ⟨rfl, bSetG (gb_below k5' _) 4 _, _, har4.set 4 _, fun W hW => by
    obtain ⟨b1, o1, e1, hb1, hc1⟩ := open2 hW (by omega)
    obtain ⟨rfl, rfl⟩ : b0 = b1 ∧ o0 = o1 := by simpa using e1
    rw [HM.out, Nat.add_sub_cancel]
    exact takeS hb1 hc1 m (by omega) hca hma0⟩

end Go.Proofs.YthjmpiekjfnoiaaGreatDoor

/-
  The walks of the program's chapter 15: the steps that turn symbols into places, places into bytes, bytes into the text; what is taken for what error.
-/
namespace Go.Proofs.YthjmpiekjfnoiaaGreatDoor
open Go.RowKit Go.Shelf

theorem as_any (x : Int) (w : World) : Calls Tryz.prog 35 #[.int .i64 x] w fun e w' => e = .returned (.int .i64 x) ∧ w' = w := by
  go_enter Tryz.func35, Tryz.ntmps35
  go_wp2_with fail
  go_ret
  exact ⟨rfl, rfl⟩
theorem form_any (x : Int) (w : World) : Calls Tryz.prog 39 #[.int .i64 x] w fun e w' => e = .returned (.int .i64 (if x = 0 then 0 else 3)) ∧ w' = w := by
  by_cases h : x = 0
  · subst h
    go_enter Tryz.func39, Tryz.ntmps39
    go_wp2_with fail
    go_ret
    exact ⟨rfl, rfl⟩
  · have t1 : (x != 0) = true := by simpa using h
    rw [if_neg h]
    go_enter Tryz.func39, Tryz.ntmps39
    go_wp2_with fail
    go_ret
    exact ⟨rfl, rfl⟩

theorem gb_set {w w1 : World} {wb : Nat} (hb : Below w.heap.size w w1) (i : Nat) (v : Value) : w.grownBy (w1.setCell ⟨wb, i, none⟩ v) (some wb) := bSetG (gb_below hb _) i v
theorem OwI.setW {w w1 : World} {B wb : Nat} {v : Value} {l : List Int} (h : OwI w1 B v l) (hl : wb < w.heap.size) (hB : w.heap.size ≤ B) (i : Nat) (x : Value) : RdI (w1.setCell ⟨wb, i, none⟩ x) v l :=
  (h.setLow (p := ⟨wb, i, none⟩) (Nat.lt_of_lt_of_le hl hB) x).rd

set_option maxRecDepth 100000 in
set_option maxHeartbeats 1600000 in
theorem places_any (wb : Nat) (a : ByteArray) (o most : Int) (v lv : Value) (m : List Int) (b : ByteArray) (w : World) (harr : Arr w wb 57 [.string a, .int .i64 o, v, .int .i64 most, lv, .string b]) (hr : RdI w lv m) (hlen : m.length ≤ 100000) (hv : ∀ x ∈ m, 0 ≤ x ∧ x ≤ 1000000) (hm1 : -9223372036854775808 ≤ most) (hm2 : most ≤ 1000000) :
    Calls Tryz.prog 37 #[.pointer (some ⟨wb, 0, none⟩)] w fun e w' => e = .returned (.int .i64 (decE m most)) ∧ w.grownBy w' (some wb) ∧ ∃ lv', Arr w' wb 57 [.string a, .int .i64 o, v, .int .i64 most, lv', .string b] ∧ RdI w' lv' (decL m most) := by
  obtain ⟨ad, ca, rfl, hca, hma, _⟩ := hr.open
  have hlt := harr.lt
  have c3 := harr.cell (i := 3) rfl
  have c4 := harr.cell (i := 4) rfl
  have HD : ∀ W : World, RdI W (.slice ad m.length ca) m → Hid (Calls Tryz.prog 20 #[.slice ad m.length ca, .int .i64 most] W fun e w' => ∃ v', e = .returned (.tuple #[v', .int .i64 (decE m most)]) ∧ OwI w' W.heap.size v' (decL m most) ∧ Below W.heap.size W w') := fun W hW => hid (decode_all _ m most W hW hlen hv hm1 hm2)
  have hrd : RdI w.drew (.slice ad m.length ca) m := hr
  clear hlen hv hm1 hm2
  go_enter Tryz.func37, Tryz.ntmps37
  go_upto_region 1 with fail
  go_region_with (go_at_call 20; refine ((HD _ (by assumption)).out).mono ?_; rintro e w1 ⟨v', rfl, hown, hb⟩; obtain ⟨a3, k3, e3, _, _, _⟩ := hown.rd.open; subst e3; have hb' : Below w.heap.size w w1 := (Below.refl _ _).drew.trans hb; have hown' : OwI w1 w.heap.size _ _ := hown; have k := harr.below hb' hlt; have k4 := k.cell (i := 4) rfl; have k5 := k.free)
  all_goals go_wp2_with fail
  all_goals go_ret
  all_goals exact ⟨rfl, gb_set hb' 4 _, _, k.set 4 _, hown'.setW hlt (Nat.le_refl _) 4 _⟩

set_option maxRecDepth 100000 in
set_option maxHeartbeats 1600000 in
theorem last_no (wb : Nat) (a : ByteArray) (o most : Int) (v lv : Value) (b : ByteArray) (w : World) (harr : Arr w wb 57 [.string a, .int .i64 o, v, .int .i64 most, lv, .string b]) (hr : RdI w lv []) :
    Calls Tryz.prog 38 #[.pointer (some ⟨wb, 0, none⟩)] w fun e w' => e = .returned (.int .i64 3) ∧ w' = w := by
  obtain ⟨ad, ca, rfl, _, _, _⟩ := hr.open
  have c4 := harr.cell (i := 4) rfl
  go_enter Tryz.func38, Tryz.ntmps38
  go_wp2_with fail
  go_ret
  exact ⟨rfl, rfl⟩

set_option maxRecDepth 100000 in
set_option maxHeartbeats 1600000 in
theorem last_yes (wb : Nat) (a : ByteArray) (o most : Int) (v lv : Value) (m : List Int) (b : ByteArray) (w : World) (harr : Arr w wb 57 [.string a, .int .i64 o, v, .int .i64 most, lv, .string b]) (hr : RdI w lv m) (h0 : 0 < m.length) (ha : a.size ≤ 1000) (hl : m.length ≤ 1000000) (hn : a.data.toList.Nodup) (hx : ∀ x ∈ m, 0 ≤ x ∧ x < (a.size : Int)) :
    Calls Tryz.prog 38 #[.pointer (some ⟨wb, 0, none⟩)] w fun e w' => e = .returned (.int .i64 0) ∧ w.grownBy w' (some wb) ∧ Arr w' wb 57 [.string a, .int .i64 o, v, .int .i64 most, lv, .string (mkS (unL a.data.toList m))] := by
  obtain ⟨ad, ca, rfl, _, _, _⟩ := hr.open
  have hlt := harr.lt
  have c0 := harr.cell (i := 0) rfl
  have c4 := harr.cell (i := 4) rfl
  have t1 : ((m.length : Int) == 0) = false := by rw [beq_eq_false_iff_ne]; omega
  have t2 : decide (m.length = 0) = false := decide_eq_false (by omega)
  have HD : ∀ W : World, RdI W (.slice ad m.length ca) m → Hid (Calls Tryz.prog 63 #[.string a, .slice ad m.length ca] W fun e w' => e = .returned (.tuple #[.string (mkS (unL a.data.toList m)), .int .i64 0]) ∧ Below W.heap.size W w') := fun W hW => hid (back5_any a _ m W ha hl hn hW hx)
  have hrd : RdI w.drew (.slice ad m.length ca) m := hr
  clear ha hl hn hx
  go_enter Tryz.func38, Tryz.ntmps38
  go_upto_region 3 with fail
  go_region_with (go_at_call 63; refine ((HD _ (by assumption)).out).mono ?_; rintro e w1 ⟨rfl, hb⟩; have hb' : Below w.heap.size w w1 := (Below.refl _ _).drew.trans hb; have k := harr.below hb' hlt; have k4 := k.cell (i := 5) rfl; have k5 := k.free)
  all_goals go_wp2_with fail
  all_goals go_ret
  all_goals exact ⟨rfl, gb_set hb' 5 _, k.set 5 _⟩

set_option maxRecDepth 100000 in
set_option maxHeartbeats 1600000 in
theorem first_any (wb : Nat) (a : ByteArray) (o most : Int) (v lv : Value) (b : ByteArray) (w : World) (harr : Arr w wb 57 [.string a, .int .i64 o, v, .int .i64 most, lv, .string b]) (hb : b.size ≤ 1000000000) (ho1 : -9223372036854775808 ≤ o) (ho2 : o ≤ 9223372036854775807) :
    Calls Tryz.prog 40 #[.pointer (some ⟨wb, 0, none⟩)] w fun e w' => e = .returned (.int .i64 (backErr b.data.toList o)) ∧ w.grownBy w' (some wb) ∧ Arr w' wb 57 [.string a, .int .i64 o, v, .int .i64 most, lv, .string (mkS (backText b.data.toList o))] := by
  have hlt := harr.lt
  have c1 := harr.cell (i := 1) rfl
  have c5 := harr.cell (i := 5) rfl
  have HD : ∀ W : World, Hid (Calls Tryz.prog 64 #[.string b, .int .i64 o] W fun e w' => e = .returned (.tuple #[.string (mkS (backText b.data.toList o)), .int .i64 (backErr b.data.toList o)]) ∧ Below W.heap.size W w') := fun W => hid (back_any b o W hb ho1 ho2)
  clear hb ho1 ho2
  go_enter Tryz.func40, Tryz.ntmps40
  go_upto_region 1 with fail
  go_region_with (go_at_call 64; refine ((HD _).out).mono ?_; rintro e w1 ⟨rfl, hb⟩; have hb' : Below w.heap.size w w1 := (Below.refl _ _).drew.trans hb; have k := harr.below hb' hlt; have k4 := k.cell (i := 5) rfl; have k5 := k.free)
  all_goals go_wp2_with fail
  all_goals go_ret
  all_goals exact ⟨rfl, gb_set hb' 5 _, k.set 5 _⟩

end Go.Proofs.YthjmpiekjfnoiaaGreatDoor

/-
  The walks of the program's chapter 15: the way through the steps, whatever these are.
-/
namespace Go.Proofs.YthjmpiekjfnoiaaGreatDoor
open Go.RowKit Go.Shelf

/-- What the way tells: the first step that refuses, or nothing. -/
def WayPost (w : World) (wb : Nat) (E : Nat → Int) (S : Nat → World → Prop) (e : Ending) (w' : World) : Prop :=
  w.grownBy w' (some wb) ∧ ((∃ k, k < 5 ∧ E k ≠ 0 ∧ (∀ j, j < k → E j = 0) ∧ e = .returned (.iface 100 (.agg #[.int .i64 (k : Int), .iface 58 (.int .i64 (E k))]))) ∨ ((∀ j, j < 5 → E j = 0) ∧ S 5 w' ∧ e = .returned .nilIface))
theorem wayPost_no {w w' : World} {wb : Nat} {E : Nat → Int} {S : Nat → World → Prop} {k : Nat} (hg : w.grownBy w' (some wb)) (hk : k < 5) (hE : E k ≠ 0) (hj : ∀ j, j < k → E j = 0) : WayPost w wb E S (.returned (.iface 100 (.agg #[.int .i64 (k : Int), .iface 58 (.int .i64 (E k))]))) w' := ⟨hg, .inl ⟨k, hk, hE, hj, rfl⟩⟩
theorem wayPost_yes {w w' : World} {wb : Nat} {E : Nat → Int} {S : Nat → World → Prop} (hg : w.grownBy w' (some wb)) (hj : ∀ j, j < 5 → E j = 0) (hS : S 5 w') : WayPost w wb E S (.returned .nilIface) w' := ⟨hg, .inr ⟨hj, hS, rfl⟩⟩

/-- What the region of one step reads. -/
abbrev StepS (W : World) (wb sx d y : Nat) (w' : World) : Prop := w'.cell? ⟨sx, 0, none⟩ = some (Value.func (.func d) #[] #[]) ∧ w'.cell? ⟨sx, 1, none⟩ = some (Value.func (.func y) #[] #[]) ∧ W.grownBy w' (some wb) ∧ sx < w'.heap.size
theorem StepS.drew {W w : World} {wb sx d y : Nat} (h : StepS W wb sx d y w) : StepS W wb sx d y w.drew := ⟨h.1, h.2.1, gb_trans h.2.2.1 ⟨rfl, rfl, rfl, Nat.le_refl _, fun _ _ _ => rfl⟩, h.2.2.2⟩
theorem StepS.keep {W w w' : World} {wb sx d y : Nat} (h : StepS W wb sx d y w) (hne : sx ≠ wb) (hg : w.grownBy w' (some wb)) : StepS W wb sx d y w' :=
  ⟨hg.cell h.1 (by simpa using hne), hg.cell h.2.1 (by simpa using hne), gb_trans h.2.2.1 hg, Nat.lt_of_lt_of_le h.2.2.2 hg.size⟩

set_option maxRecDepth 100000 in
set_option maxHeartbeats 1600000 in
theorem way_any (wb sb : Nat) (w : World) (dF yF : Nat → Nat) (D E : Nat → Int) (S : Nat → World → Prop)
    (hc : ∀ k, k < 5 → w.cell? ⟨sb, k * 2, none⟩ = some (Value.func (.func (dF k)) #[] #[]) ∧ w.cell? ⟨sb, k * 2 + 1, none⟩ = some (Value.func (.func (yF k)) #[] #[])) (hne : sb ≠ wb) (hwb : wb < w.heap.size)
    (hdE : ∀ k, k < 5 → Enters Tryz.prog (dF k)) (hyE : ∀ k, k < 5 → Enters Tryz.prog (yF k))
    (hd : ∀ k, k < 5 → ∀ W, S k W → w.grownBy W (some wb) → (∀ j, j < k → E j = 0) → Calls Tryz.prog (dF k) #[.pointer (some ⟨wb, 0, none⟩)] W fun e W' => e = .returned (.int .i64 (D k)) ∧ W.grownBy W' (some wb) ∧ (E k = 0 → S (k + 1) W'))
    (hy : ∀ k, k < 5 → ∀ W, Calls Tryz.prog (yF k) #[.int .i64 (D k)] W fun e W' => e = .returned (.int .i64 (E k)) ∧ W' = W)
    (hS : ∀ k W W', S k W → Below W.heap.size W W' → S k W') (h0 : S 0 w) :
    Calls Tryz.prog 33 #[.pointer (some ⟨wb, 0, none⟩), .slice (some ⟨sb, 0, none⟩) 5 5] w (WayPost w wb E S) := by
  have HC := hid hc
  have HDE := hid hdE
  have HYE := hid hyE
  have HD := hid hd
  have HY := hid hy
  have HS := hid hS
  clear hc hdE hyE hd hy hS
  go_enter Tryz.func33, Tryz.ntmps33
  go_wp2_with fail
  go_loopg [10, 5, 6, 7] 5 (fun gh s10 _s5 _s6 _s7 wr => ∃ k : Nat, k ≤ 5 ∧ gh = 5 - k ∧ s10 = .int .i64 k ∧ S k wr ∧ w.grownBy wr (some wb) ∧ Hid (∀ j, j < k → E j = 0))
  case atStart => exact ⟨0, by omega, rfl, rfl, h0, gb_below (Below.refl _ _) _, hid (fun j hj => by omega)⟩
  case round =>
    obtain ⟨k, hk, hg, rfl, hSk, hgr, HJ⟩ := hrel
    have HG := hid hg
    clear hg
    by_cases hlt : k < 5
    · obtain ⟨p1, p2⟩ := HC.out k hlt
      have c1 := hgr.cell p1 (by simpa using hne)
      have c2 := hgr.cell p2 (by simpa using hne)
      obtain ⟨d, hdd⟩ : ∃ d, d = dF k := ⟨_, rfl⟩
      obtain ⟨y, hyy⟩ : ∃ y, y = yF k := ⟨_, rfl⟩
      obtain ⟨xD, hxD⟩ : ∃ x, x = D k := ⟨_, rfl⟩
      obtain ⟨xE, hxE⟩ : ∃ x, x = E k := ⟨_, rfl⟩
      have hE1 : ∀ args W, (callFunc d args).run Tryz.prog W = .ok (.enter d args) W := by rw [hdd]; exact HDE.out k hlt
      have hE2 : ∀ args W, (callFunc y args).run Tryz.prog W = .ok (.enter y args) W := by rw [hyy]; exact HYE.out k hlt
      have HDk : Hid (∀ W, S k W → w.grownBy W (some wb) → Calls Tryz.prog d #[.pointer (some ⟨wb, 0, none⟩)] W fun e W' => e = .returned (.int .i64 xD) ∧ W.grownBy W' (some wb) ∧ (xE = 0 → S (k + 1) W')) := hid (fun W h1 h2 => by rw [hdd, hxD, hxE]; exact HD.out k hlt W h1 h2 HJ.out)
      have HYk : Hid (∀ W, Calls Tryz.prog y #[.int .i64 xD] W fun e W' => e = .returned (.int .i64 xE) ∧ W' = W) := hid (fun W => by rw [hyy, hxD, hxE]; exact HY.out k hlt W)
      rw [← hdd] at c1
      rw [← hyy] at c2
      have HXE := hid hxE
      clear hdd hyy hxD hxE p1 p2
      have s1 : (store ⟨wr.heap.size, 0, none⟩ (Value.func (.func d) #[] #[])).run Tryz.prog (wr.alloc (.cells #[.nilFunc, .nilFunc] 66)) = .ok () (wr.alloc (.cells #[Value.func (.func d) #[] #[], .nilFunc] 66)) := by
        rw [run_store _ _ _ _ _ rfl]; simp [World.setCell_alloc_new]
      have s2 : (store ⟨wr.heap.size, 1, none⟩ (Value.func (.func y) #[] #[])).run Tryz.prog (wr.alloc (.cells #[Value.func (.func d) #[] #[], .nilFunc] 66)) = .ok () (wr.alloc (.cells #[Value.func (.func d) #[] #[], Value.func (.func y) #[] #[]] 66)) := by
        rw [run_store _ _ _ _ _ rfl]; simp [World.setCell_alloc_new]
      go_upto_region 4 with fail
      have z0 : StepS w wb wr.heap.size d y (wr.alloc (.cells #[Value.func (.func d) #[] #[], Value.func (.func y) #[] #[]] 66)) := by
        have ha := Arr.new wr 66 [Value.func (.func d) #[] #[], Value.func (.func y) #[] #[]]
        exact ⟨ha.cell (i := 0) rfl, ha.cell (i := 1) rfl, gb_trans hgr (gb_below ((Below.refl _ _).alloc (Nat.le_refl _) _) _), by simp⟩
      have z1 : S k (wr.alloc (.cells #[Value.func (.func d) #[] #[], Value.func (.func y) #[] #[]] 66)).drew := HS.out k _ _ hSk ((Below.refl _ _).alloc (Nat.le_refl _) _).drew
      have hnx : wr.heap.size ≠ wb := by have := hgr.size; omega
      generalize wr.alloc (.cells #[Value.func (.func d) #[] #[], Value.func (.func y) #[] #[]] 66) = wa at *
      refine wp_region_held_drew (S := (fun w' => w'.cell? ⟨wr.heap.size, 0, none⟩ = some (Value.func (.func d) #[] #[]) ∧ w'.cell? ⟨wr.heap.size, 1, none⟩ = some (Value.func (.func y) #[] #[]) ∧ w.grownBy w' (some wb) ∧ wr.heap.size < w'.heap.size)) (by kernel_rfl) (StepS.drew z0) (fun hHeld => ?_)
      refine wpAnyH_take (i := 0) (oi := ?oi0) (v := ?v0) ?hi0 (by kernel_rfl) (by kernel_rfl) (by kernel_rfl) ?hq0 ?hy0 (by assumption) ?_
      case hi0 => (simp only [List.getElem?_toArray, List.getElem?_cons_zero]; rfl)
      case hq0 => exact fun _ _ _ h => h
      case hy0 => (refine Or.inl ⟨by rfl, ?_⟩; intro w' hSw; (try dsimp only at hSw); (try go_simp); try with_reducible rfl)
      try simp only [Act.put, List.setIfInBounds_toArray, List.set_cons_zero, List.set_cons_succ]
      refine wpAnyH_take (i := 1) (oi := ?oi1) (v := ?v1) ?hi1 (by kernel_rfl) (by kernel_rfl) (by kernel_rfl) ?hq1 ?hy1 (by assumption) ?_
      case hi1 => (simp only [List.getElem?_toArray, List.getElem?_cons_succ, List.getElem?_cons_zero]; rfl)
      case hq1 => exact fun _ _ _ h => h
      case hy1 => (refine Or.inl ⟨by rfl, ?_⟩; intro w' hSw; (try dsimp only at hSw); (try go_simp); try with_reducible rfl)
      try simp only [Act.put, List.setIfInBounds_toArray, List.set_cons_zero, List.set_cons_succ]
      refine wpAnyH_take (i := 2) (oi := ?oi2) (v := ?v2) ?hi2 (by kernel_rfl) (by kernel_rfl) (by kernel_rfl) ?hq2 ?hy2 (by assumption) ?_
      case hi2 => (simp only [List.getElem?_toArray, List.getElem?_cons_succ, List.getElem?_cons_zero]; rfl)
      case hq2 => exact fun _ _ _ h => h
      case hy2 => (refine Or.inl ⟨by rfl, ?_⟩; intro w' hSw; (try dsimp only at hSw); (try go_simp); try with_reducible rfl)
      try simp only [Act.put, List.setIfInBounds_toArray, List.set_cons_zero, List.set_cons_succ]
      refine wpAnyH_take (i := 3) (oi := ?oi3) (v := ?v3) ?hi3 (by kernel_rfl) (by kernel_rfl) (by kernel_rfl) ?hq3 ?hy3 (by assumption) ?_
      case hi3 => (simp only [List.getElem?_toArray, List.getElem?_cons_succ, List.getElem?_cons_zero]; rfl)
      case hq3 => exact fun _ _ _ h => h
      case hy3 => (refine Or.inl ⟨by rfl, ?_⟩; intro w' hSw; (try dsimp only at hSw); (try go_simp); try with_reducible rfl)
      try simp only [Act.put, List.setIfInBounds_toArray, List.set_cons_zero, List.set_cons_succ]
      refine wpAnyH_take (i := 4) (oi := ?oi4) (v := ?v4) ?hi4 (by kernel_rfl) (by kernel_rfl) (by kernel_rfl) ?hq4 ?hy4 (by assumption) ?_
      case hi4 => (simp only [List.getElem?_toArray, List.getElem?_cons_succ, List.getElem?_cons_zero]; rfl)
      case hq4 => exact fun _ _ _ h => h
      case hy4 => (refine Or.inl ⟨by rfl, ?_⟩; intro w' hSw; (try dsimp only at hSw); (try go_simp); try with_reducible rfl)
      try simp only [Act.put, List.setIfInBounds_toArray, List.set_cons_zero, List.set_cons_succ]
      refine wpAnyH_ready (rs := [5]) (by kernel_rfl) (by simp) ?_
      refine AllReadyH.cons rfl (fun K hK => ?_) ?_
      rotate_left
      · exact AllReadyH.nil
      go_simp
      refine (HDk.out _ z1 hHeld.2.2.1).mono ?_
      rintro e w1 ⟨rfl, hg1, hS1⟩
      (try go_wp2_with fail)
      refine hK.out _ _ (StepS.keep hHeld hnx hg1) (fun hHeld2 => ?_)
      clear hK K
      try simp only [Act.put, List.setIfInBounds_toArray, List.set_cons_zero, List.set_cons_succ]
      refine wpAnyH_ready (rs := [6]) (by kernel_rfl) (by simp) ?_
      refine AllReadyH.cons rfl (fun K hK => ?_) ?_
      rotate_left
      · exact AllReadyH.nil
      go_simp
      refine (HYk.out _).mono ?_
      rintro e w2 ⟨rfl, rfl⟩
      (try go_wp2_with fail)
      refine hK.out _ _ hHeld2 (fun hHeld3 => ?_)
      clear hK K
      try simp only [Act.put, List.setIfInBounds_toArray, List.set_cons_zero, List.set_cons_succ]
      refine wpAnyH_take (i := 7) (oi := ?oi7) (v := ?v7) ?hi7 (by kernel_rfl) (by kernel_rfl) (by kernel_rfl) ?hq7 ?hy7 (by assumption) ?_
      case hi7 => (simp only [List.getElem?_toArray, List.getElem?_cons_succ, List.getElem?_cons_zero]; rfl)
      case hq7 => exact fun _ _ _ h => h
      case hy7 => (refine Or.inl ⟨by rfl, ?_⟩; intro w' hSw; (try dsimp only at hSw); (try go_simp); try with_reducible rfl)
      try simp only [Act.put, List.setIfInBounds_toArray, List.set_cons_zero, List.set_cons_succ]
      refine wpAnyH_done (by kernel_rfl) ?_ _
      obtain ⟨_, _, hgN, _⟩ := hHeld2
      by_cases hx0 : xE = 0
      · have HSN := hid (hS1 hx0)
        have t1 : (xE != 0) = false := by simp [hx0]
        clear hHeld3 hHeld hS1 z0 z1 c1 c2
        go_wp2_with fail
        have hg := HG.out
        go_roundg (5 - (k + 1))
        case measure => omega
        case rel =>
          refine ⟨k + 1, by omega, rfl, by go_num, HSN.out, hgN, hid (fun j hj => ?_)⟩
          rcases Nat.lt_succ_iff_lt_or_eq.1 hj with q | rfl
          · exact HJ.out j q
          · rw [← HXE.out]; exact hx0
      · have t1 : (xE != 0) = true := by simpa using hx0
        clear hHeld3 hHeld hS1 z0 z1 c1 c2
        go_wp2_with fail
        go_ret
        rw [HXE.out]
        exact wayPost_no hgN hlt (by rw [← HXE.out]; exact hx0) HJ.out
    · go_wp2_with fail
      go_ret
      exact wayPost_yes hgr (fun j hj => HJ.out j (by omega)) (by (obtain rfl : k = 5 := (by omega)); exact hSk)

end Go.Proofs.YthjmpiekjfnoiaaGreatDoor

/-
  The walk of the program's chapter 15: errors.As of a failed step, at a variable of the type of codes (after the kit's worked example 'toyas').
-/
namespace Go.Proofs.YthjmpiekjfnoiaaGreatDoor
open Go.RowKit Go.Extern.Stop Go.Stop Go.Extern

/-! ### Closed facts on the model's entries for internal/reflectlite, at this program's types. -/
theorem rlUnpackP (t : Addr) (w : World) : (ReflectliteValue.unpack (.iface 68 (.pointer (some t)))).run Tryz.prog w
    = .ok (.agg #[.pointer (some ⟨2, 68, none⟩), .pointer (some ⟨w.heap.size, 0, none⟩), .int .u64 150]) (w.alloc (.cells #[.pointer (some t)] 68)) := by kernel_rfl
theorem rlTypeP (a : Addr) (w : World) : (ReflectliteValue.methodAny (ReflectliteValue.valueError "reflectlite.Value.Type" 0) (fun t _ _ _ => ReflectliteType.toType t) #[.agg #[.pointer (some ⟨2, 68, none⟩), .pointer (some a), .int .u64 150]]).run Tryz.prog w
    = .ok (.iface 127 (.agg #[.pointer (some ⟨2, 68, none⟩)])) w := by kernel_rfl
theorem rlKindP (w : World) : ((ReflectliteType.abiMethod fun t => (fun a : Nat => Value.int IntKind.u8 (a : Int)) <$> Rtype.kind t) #[.pointer (some ⟨2, 68, none⟩)]).run Tryz.prog w = .ok (.int .u8 22) w := by kernel_rfl
theorem rlKindC (w : World) : ((ReflectliteType.abiMethod fun t => (fun a : Nat => Value.int IntKind.u8 (a : Int)) <$> Rtype.kind t) #[.pointer (some ⟨2, 58, none⟩)]).run Tryz.prog w = .ok (.int .u8 2) w := by kernel_rfl
theorem rlm15 (z : Sem Value) (f : TypeId → Addr → Nat → Nat → Sem Value) (v : Value) :
    ReflectliteValue.method z f #[v] = (do match ← ReflectliteValue.parts v with | none => z | some (t, a, fl) => f t a fl (fl % 32)) := rfl
theorem rlPartsP (a : Addr) (w : World) : (ReflectliteValue.parts (.agg #[.pointer (some ⟨2, 68, none⟩), .pointer (some a), .int .u64 150])).run Tryz.prog w = .ok (some (68, a, 150)) w := by kernel_rfl
theorem rlIsNil (a p : Addr) (W : World) (ha : W.cell? a = some (.pointer (some p))) :
    (ReflectliteValue.method (ReflectliteValue.valueError "reflectlite.Value.IsNil" 0) ReflectliteValue.isNil #[.agg #[.pointer (some ⟨2, 68, none⟩), .pointer (some a), .int .u64 150]]).run Tryz.prog W = .ok (.bool false) W := by
  rw [rlm15]
  simp only [Sem.run_bind, rlPartsP, Result.andThen]
  simp [ReflectliteValue.isNil, loadVar, isAgg, underlying, Tryz.underlying68, ha, Result.andThen]

theorem rlMKind (h : Value) (w : World) : (Go.method 306 127 (.agg #[h]) "Kind").run Tryz.prog w = .ok (136, h) w := by kernel_rfl
theorem rlMElem (h : Value) (w : World) : (Go.method 306 127 (.agg #[h]) "Elem").run Tryz.prog w = .ok (149, .agg #[h]) w := by kernel_rfl
theorem rlMImpl (h : Value) (w : World) : (Go.method 306 127 (.agg #[h]) "Implements").run Tryz.prog w = .ok (150, .agg #[h]) w := by kernel_rfl
theorem rlMAssign (h : Value) (w : World) : (Go.method 306 127 (.agg #[h]) "AssignableTo").run Tryz.prog w = .ok (147, .agg #[h]) w := by kernel_rfl
theorem rlMUnwrap (h : Value) (w : World) : (Go.method 306 100 h "Unwrap").run Tryz.prog w = .ok (142, h) w := by kernel_rfl
theorem rlElemP (w : World) : (ReflectliteType.method ReflectliteType.elem #[.agg #[.pointer (some ⟨2, 68, none⟩)]]).run Tryz.prog w = .ok (.iface 127 (.agg #[.pointer (some ⟨2, 58, none⟩)])) w := by kernel_rfl
theorem rlImplC (w : World) : (ReflectliteType.relation "Implements" ReflectliteType.implements_ #[.agg #[.pointer (some ⟨2, 58, none⟩)], .iface 127 (.agg #[.pointer (some ⟨2, 60, none⟩)])]).run Tryz.prog w = .ok (.bool true) w := by kernel_rfl
theorem rlTypeOfF (v : Value) (w : World) : (ReflectliteType.typeOf #[.iface 100 v]).run Tryz.prog w = .ok (.iface 127 (.agg #[.pointer (some ⟨2, 100, none⟩)])) w := by kernel_rfl
theorem rlTypeOfC (v : Value) (w : World) : (ReflectliteType.typeOf #[.iface 58 v]).run Tryz.prog w = .ok (.iface 127 (.agg #[.pointer (some ⟨2, 58, none⟩)])) w := by kernel_rfl
theorem rlAssignF (w : World) : (ReflectliteType.relation "AssignableTo" ReflectliteType.assignableTo #[.agg #[.pointer (some ⟨2, 100, none⟩)], .iface 127 (.agg #[.pointer (some ⟨2, 58, none⟩)])]).run Tryz.prog w = .ok (.bool false) w := by kernel_rfl
theorem rlAssignC (w : World) : (ReflectliteType.relation "AssignableTo" ReflectliteType.assignableTo #[.agg #[.pointer (some ⟨2, 58, none⟩)], .iface 127 (.agg #[.pointer (some ⟨2, 58, none⟩)])]).run Tryz.prog w = .ok (.bool true) w := by kernel_rfl
theorem rlUnpackC (x : Int) (w : World) : (ReflectliteValue.unpack (.iface 58 (.int .i64 x))).run Tryz.prog w
    = .ok (.agg #[.pointer (some ⟨2, 58, none⟩), .pointer (some ⟨w.heap.size, 0, none⟩), .int .u64 130]) (w.alloc (.cells #[.int .i64 x] 58)) := by kernel_rfl
theorem rlElemOf (w : World) : (Rtype.elem? 68).run Tryz.prog w = .ok (some 58) w := by kernel_rfl
theorem rlMk (p : Addr) (w : World) : (ReflectliteValue.mk 58 p ReflectliteValue.flagAddr).run Tryz.prog w = .ok (.agg #[.pointer (some ⟨2, 58, none⟩), .pointer (some p), .int .u64 386]) w := by kernel_rfl
theorem rlElemV (a p : Addr) (W : World) (ha : W.cell? a = some (.pointer (some p))) :
    (ReflectliteValue.method (ReflectliteValue.valueError "reflectlite.Value.Elem" 0) ReflectliteValue.elem #[.agg #[.pointer (some ⟨2, 68, none⟩), .pointer (some a), .int .u64 150]]).run Tryz.prog W
      = .ok (.agg #[.pointer (some ⟨2, 58, none⟩), .pointer (some p), .int .u64 386]) W := by
  rw [rlm15]
  simp only [Sem.run_bind, rlPartsP, Result.andThen]
  simp [ReflectliteValue.elem, loadVar, isAgg, underlying, Tryz.underlying68, ha, Result.andThen, rlElemOf, rlMk]
theorem rls15 (v x : Value) : ReflectliteValue.set #[v, x] = (do
    let (some (dst, a, fl), some (src, b, _)) := (← ReflectliteValue.parts v, ← ReflectliteValue.parts x)
      | unsupported (.noEntry "extern/(internal/reflectlite.Value).Set.zeroValue")
    if fl / ReflectliteValue.flagAddr % 2 == 0 then unsupported (.noEntry "extern/(internal/reflectlite.Value).Set.unaddressable")
    let val ← loadVar src b
    if ← Rtype.directlyAssignable dst src then storeVar dst a val
    else if ← Rtype.implements dst src then
      if (← Rtype.kind src) == 20 then
        match val with
        | .nilIface => unsupported (.noEntry "extern/reflectlite: a nil value of one interface type handed on as a value of another")
        | _ => storeVar dst a val
      else storeVar dst a (.iface src val)
    else panicString ("reflectlite.Set: value of type " ++ (← Rtype.spelt src) ++ " is not assignable to type " ++ (← Rtype.spelt dst))
    pure (.tuple #[])) := rfl
theorem rlPartsC1 (a : Addr) (w : World) : (ReflectliteValue.parts (.agg #[.pointer (some ⟨2, 58, none⟩), .pointer (some a), .int .u64 386])).run Tryz.prog w = .ok (some (58, a, 386)) w := by kernel_rfl
theorem rlPartsC2 (a : Addr) (w : World) : (ReflectliteValue.parts (.agg #[.pointer (some ⟨2, 58, none⟩), .pointer (some a), .int .u64 130])).run Tryz.prog w = .ok (some (58, a, 130)) w := by kernel_rfl
theorem rlDirect (w : World) : (Rtype.directlyAssignable 58 58).run Tryz.prog w = .ok true w := by kernel_rfl
theorem rlSet (ta b : Addr) (x : Int) (old : Value) (W : World) (hb : W.cell? b = some (.int .i64 x)) (ht : W.cell? ta = some old) (hf : W.frozen? ta = false) :
    (ReflectliteValue.set #[.agg #[.pointer (some ⟨2, 58, none⟩), .pointer (some ta), .int .u64 386], .agg #[.pointer (some ⟨2, 58, none⟩), .pointer (some b), .int .u64 130]]).run Tryz.prog W
      = .ok (.tuple #[]) (W.setCell ta (.int .i64 x)) := by
  rw [rls15]
  simp only [Sem.run_bind, rlPartsC1, rlPartsC2, Result.andThen]
  simp [ReflectliteValue.flagAddr, loadVar, isAgg, underlying, Tryz.underlying58, hb, Result.andThen, rlDirect, storeVar, Value.cells, storeCells, Addr.add]
  rw [run_store Tryz.prog W ta _ _ (by rfl)]
  simp [ht, hf]

theorem unwrap_any (k : Int) (v : Value) (w : World) (_hv : v.oneCell' = true) :
    Calls Tryz.prog 142 #[.agg #[.int .i64 k, v]] w fun e w' => e = .returned v ∧ w' = w.alloc (.cells #[.int .i64 k, v] 100) := by
  go_enter Tryz.func142, Tryz.ntmps142
  go_wp2
  go_ret
  exact ⟨rfl, rfl⟩

end Go.Proofs.YthjmpiekjfnoiaaGreatDoor

/-
  The walk of the program's chapter 15: errors.As of nothing, and of a failed step, at a variable of the type of codes.
-/
namespace Go.Proofs.YthjmpiekjfnoiaaGreatDoor
open Go.RowKit Go.Extern.Stop Go.Stop Go.Extern

/-- What the package's one variable reads as: the handle of the type 'error'. -/
def ErrVar (w : World) : Prop := w.cell? ⟨0, 0, none⟩ = some (.iface 127 (.agg #[.pointer (some ⟨2, 60, none⟩)]))
theorem ErrVar.lt {w : World} (h : ErrVar w) : 0 < w.heap.size := World.block_lt_of_cell? w _ h
theorem ErrVar.below {w w' : World} (h : ErrVar w) (hb : Below w.heap.size w w') : ErrVar w' := (hb.cell (p := ⟨0, 0, none⟩) h.lt).trans h
theorem ErrVar.grown {w w' : World} {g : Nat} (h : ErrVar w) (hg : w.grownBy w' (some g)) (h0 : 0 < g) : ErrVar w' := hg.cell h (by simp; omega)

theorem asrtAs (v : Value) (w : World) : (Instr.typeAssert (.iface 100 v) 60 132 true).run Tryz.prog w = .ok (.tuple #[.nilIface, .bool false]) w := run_typeAssert_lacksB Tryz.underlying132 (by kernel_rfl) (by kernel_rfl) v _ w
theorem asrtUn (v : Value) (w : World) : (Instr.typeAssert (.iface 100 v) 60 135 true).run Tryz.prog w = .ok (.tuple #[.iface 100 v, .bool true]) w := by kernel_rfl
theorem as_nil (t : Value) (w : World) :
    Calls Tryz.prog 41 #[.nilIface, t] w fun e w' => e = .returned (.bool false) ∧ w' = w := by
  go_enter Tryz.func41, Tryz.ntmps41
  go_wp2
  go_ret
  exact ⟨rfl, rfl⟩

set_option maxRecDepth 100000 in
set_option maxHeartbeats 4000000 in
theorem asIn_any (k x : Int) (ct g : Addr) (old : Value) (w : World) (hg : w.cell? g = some (.pointer (some ct))) (hc : w.cell? ct = some old) (hf : w.frozen? ct = false) :
    Calls Tryz.prog 68 #[.iface 100 (.agg #[.int .i64 k, .iface 58 (.int .i64 x)]), .iface 68 (.pointer (some ct)), .agg #[.pointer (some ⟨2, 68, none⟩), .pointer (some g), .int .u64 150], .iface 127 (.agg #[.pointer (some ⟨2, 58, none⟩)])] w
      fun e w' => e = .returned (.bool true) ∧ w.grownBy w' (some ct.block) ∧ w'.cell? ct = some (.int .i64 x) := by
  have hTO := @run_callFunc_extern Tryz.prog 86 _ ReflectliteType.typeOf Tryz.func86 (by kernel_rfl) (by kernel_rfl) (by kernel_rfl) (by kernel_rfl)
  have hAT := @run_callFunc_extern Tryz.prog 147 _ (ReflectliteType.relation "AssignableTo" ReflectliteType.assignableTo) Tryz.func147 (by kernel_rfl) (by kernel_rfl) (by kernel_rfl) (by kernel_rfl)
  have hEl := @run_callFunc_extern Tryz.prog 87 _ (ReflectliteValue.method (ReflectliteValue.valueError "reflectlite.Value.Elem" 0) ReflectliteValue.elem) Tryz.func87 (by kernel_rfl) (by kernel_rfl) (by kernel_rfl) (by kernel_rfl)
  have hVO := @run_callFunc_extern Tryz.prog 65 _ (fun args => ReflectliteValue.unpack (args.getD 0 (.tuple #[]))) Tryz.func65 (by kernel_rfl) (by kernel_rfl) (by kernel_rfl) (by kernel_rfl)
  have hSt := @run_callFunc_extern Tryz.prog 88 _ ReflectliteValue.set Tryz.func88 (by kernel_rfl) (by kernel_rfl) (by kernel_rfl) (by kernel_rfl)
  have tF := rlTypeOfF
  have tC := rlTypeOfC
  have mA := rlMAssign
  have mU := rlMUnwrap
  have aF := rlAssignF
  have aC := rlAssignC
  have uC := rlUnpackC x
  have q1 := asrtAs
  have q2 := asrtUn
  go_enter Tryz.func68, Tryz.ntmps68
  go_wp2
  refine wp_loop_rounds 2 ?_
  rw [rounds_succ]
  go_wp2
  have hgl := World.block_lt_of_cell? w _ hg
  have hcl := World.block_lt_of_cell? w _ hc
  have hB : Below w.heap.size w ((w.alloc (.cells #[.pointer (some ⟨2, 68, none⟩), .pointer (some g), .int .u64 150] 104)).alloc (.cells #[.int .i64 k, .iface 58 (.int .i64 x)] 100)) := ((Below.refl _ _).alloc (Nat.le_refl _) _).alloc (by simp) _
  have hn : ((w.alloc (.cells #[.pointer (some ⟨2, 68, none⟩), .pointer (some g), .int .u64 150] 104)).alloc (.cells #[.int .i64 k, .iface 58 (.int .i64 x)] 100)).heap.size = w.heap.size + 1 + 1 := by simp
  have hv : ∀ i, i < 3 → ((w.alloc (.cells #[.pointer (some ⟨2, 68, none⟩), .pointer (some g), .int .u64 150] 104)).alloc (.cells #[.int .i64 k, .iface 58 (.int .i64 x)] 100)).cell? ⟨w.heap.size, i, none⟩ = #[.pointer (some ⟨2, 68, none⟩), .pointer (some g), .int .u64 150][i]? := fun i hi => by
    rw [World.cell?_alloc_lt _ _ ⟨w.heap.size, i, none⟩ (by simp), World.cell?_alloc_at _ _ _ _ rfl]
  have v0 := hv 0 (by decide)
  have v1 := hv 1 (by decide)
  have v2 := hv 2 (by decide)
  clear hv
  generalize (w.alloc (.cells #[.pointer (some ⟨2, 68, none⟩), .pointer (some g), .int .u64 150] 104)).alloc (.cells #[.int .i64 k, .iface 58 (.int .i64 x)] 100) = w3 at *
  have eV := rlElemV g ct w3 (by rw [hB.cell hgl]; exact hg)
  have hsz : w3.heap.size = w.heap.size + 1 + 1 := hn
  have HN := hid hn
  have sC := rlSet ct ⟨w3.heap.size, 0, none⟩ x old (w3.alloc (.cells #[.int .i64 x] 58)) (newc _ _ _)
    (by rw [World.cell?_alloc_lt _ _ ct (by omega), hB.cell hcl]; exact hc)
    (by rw [World.frozen?_alloc_old _ _ ct (by omega), hB.frozen hcl]; exact hf)
  clear hn hsz
  rw [rounds_succ]
  go_wp2
  go_ret
  have hcl3 : ct.block < w3.heap.size := by have := HN.out; omega
  refine ⟨rfl, gb_trans (b := w3.alloc (.cells #[.int .i64 x] 58)) (gb_below (hB.alloc (by have := HN.out; omega) _) _) ?_, ?_⟩
  · exact ⟨rfl, rfl, rfl, by simp, fun i hi hne => heap_setCell_other _ _ _ _ (fun e => hne (by rw [e]))⟩
  · exact World.cell?_setCell_same _ _ _ (by rw [World.cell?_alloc_lt _ _ ct hcl3, hB.cell hcl]; exact hc)

set_option maxRecDepth 100000 in
set_option maxHeartbeats 4000000 in
theorem asOf_any (k x : Int) (ct : Addr) (old : Value) (w : World) (hE : ErrVar w) (hc : w.cell? ct = some old) (hf : w.frozen? ct = false) :
    Calls Tryz.prog 41 #[.iface 100 (.agg #[.int .i64 k, .iface 58 (.int .i64 x)]), .iface 68 (.pointer (some ct))] w
      fun e w' => e = .returned (.bool true) ∧ w.grownBy w' (some ct.block) ∧ w'.cell? ct = some (.int .i64 x) := by
  have hVO := @run_callFunc_extern Tryz.prog 65 _ (fun args => ReflectliteValue.unpack (args.getD 0 (.tuple #[]))) Tryz.func65 (by kernel_rfl) (by kernel_rfl) (by kernel_rfl) (by kernel_rfl)
  have hTy := @run_callFunc_extern Tryz.prog 66 _ (ReflectliteValue.methodAny (ReflectliteValue.valueError "reflectlite.Value.Type" 0) (fun t _ _ _ => ReflectliteType.toType t)) Tryz.func66 (by kernel_rfl) (by kernel_rfl) (by kernel_rfl) (by kernel_rfl)
  have hIN := @run_callFunc_extern Tryz.prog 67 _ (ReflectliteValue.method (ReflectliteValue.valueError "reflectlite.Value.IsNil" 0) ReflectliteValue.isNil) Tryz.func67 (by kernel_rfl) (by kernel_rfl) (by kernel_rfl) (by kernel_rfl)
  have hKi := @run_callFunc_extern Tryz.prog 136 _ (ReflectliteType.abiMethod fun t => do pure (.int .u8 (← Rtype.kind t))) Tryz.func136 (by kernel_rfl) (by kernel_rfl) (by kernel_rfl) (by kernel_rfl)
  have hEl := @run_callFunc_extern Tryz.prog 149 _ (ReflectliteType.method ReflectliteType.elem) Tryz.func149 (by kernel_rfl) (by kernel_rfl) (by kernel_rfl) (by kernel_rfl)
  have hIm := @run_callFunc_extern Tryz.prog 150 _ (ReflectliteType.relation "Implements" ReflectliteType.implements_) Tryz.func150 (by kernel_rfl) (by kernel_rfl) (by kernel_rfl) (by kernel_rfl)
  have uP := rlUnpackP ct
  have tP := rlTypeP
  have mK := rlMKind
  have mE := rlMElem
  have mI := rlMImpl
  have kP := rlKindP
  have kC := rlKindC
  have eP := rlElemP
  have iC := rlImplC
  have hcl := World.block_lt_of_cell? w _ hc
  have h0 := hE.lt
  have hE0 : w.cell? ⟨0, 0, none⟩ = some (.iface 127 (.agg #[.pointer (some ⟨2, 60, none⟩)])) := hE
  obtain ⟨w2, hw2⟩ : ∃ w2, w2 = (w.alloc (.cells #[.pointer (some ct)] 68)).alloc (.cells #[.pointer (some ⟨2, 68, none⟩), .pointer (some ⟨w.heap.size, 0, none⟩), .int .u64 150] 104) := ⟨_, rfl⟩
  have hB : Below w.heap.size w w2 := by rw [hw2]; exact ((Below.refl _ _).alloc (Nat.le_refl _) _).alloc (by simp) _
  have hg2 : w2.cell? ⟨w.heap.size, 0, none⟩ = some (.pointer (some ct)) := by
    rw [hw2, World.cell?_alloc_lt _ _ ⟨w.heap.size, 0, none⟩ (by simp), newc]
  have n8 := rlIsNil ⟨w.heap.size, 0, none⟩ ct w2 hg2
  have hE2 : w2.cell? ⟨0, 0, none⟩ = some (.iface 127 (.agg #[.pointer (some ⟨2, 60, none⟩)])) := by rw [hB.cell (p := ⟨0, 0, none⟩) h0]; exact hE0
  have HA := hid (asIn_any k x ct ⟨w.heap.size, 0, none⟩ old w2 hg2 (by rw [hB.cell hcl]; exact hc) (by rw [hB.frozen hcl]; exact hf))
  rw [hw2] at n8 hE2 HA
  have HB := hid hB
  have HW := hid hw2
  clear hB hg2 hw2 hE hE0 hc hf
  go_enter Tryz.func41, Tryz.ntmps41
  go_wp2_with (go_at_call 68; refine HA.out.mono ?_; rintro e w4 ⟨rfl, hg4, hc4⟩)
  go_ret
  rw [← HW.out] at hg4
  exact ⟨rfl, gb_trans (gb_below HB.out _) hg4, hc4⟩

end Go.Proofs.YthjmpiekjfnoiaaGreatDoor

/-
  The walk of the program's chapter 15: Restore.
-/
namespace Go.Proofs.YthjmpiekjfnoiaaGreatDoor
open Go.RowKit Go.Shelf

/-- What each step tells, and what it is taken for. -/
def stD (a : ByteArray) (o : Int) (l : List Int) (most : Int) : Nat → Int
  | 0 => if a.data.toList ≠ [] ∧ alph a.data.toList = a.data.toList then 0 else 1
  | 1 => if mayP l ((a.size : Int) + 1) then 0 else 3
  | 2 => decE (l.take (l.length - 1)) most
  | 3 => if zexL l = [] then 3 else 0
  | _ => backErr (unL a.data.toList (zexL l)) o
def stE (a : ByteArray) (o : Int) (l : List Int) (most : Int) : Nat → Int
  | 4 => if stD a o l most 4 = 0 then 0 else 3
  | k => stD a o l most k
def stF : Nat → Nat
  | 0 => 34
  | 1 => 36
  | 2 => 37
  | 3 => 38
  | _ => 40
def stY : Nat → Nat
  | 0 | 1 | 2 => 35
  | _ => 39
/-- Where the work stands behind so many steps. -/
def stS (w0 : World) (wb : Nat) (a : ByteArray) (o : Int) (v : Value) (l : List Int) (most : Int) (k : Nat) (W : World) : Prop :=
  ∃ lv b, Arr W wb 57 [.string a, .int .i64 o, v, .int .i64 most, lv, .string b] ∧ (k = 2 → RdI w0 lv (l.take (l.length - 1))) ∧ (k = 3 → RdI W lv (zexL l)) ∧ (k = 4 → b = mkS (unL a.data.toList (zexL l))) ∧ (k = 5 → b = mkS (backText (unL a.data.toList (zexL l)) o))

theorem st0 {a : ByteArray} {o : Int} {l : List Int} {most : Int} (h : stE a o l most 0 = 0) : a.data.toList ≠ [] ∧ alph a.data.toList = a.data.toList := by
  by_cases q : a.data.toList ≠ [] ∧ alph a.data.toList = a.data.toList
  · exact q
  · exfalso
    have : stE a o l most 0 = if a.data.toList ≠ [] ∧ alph a.data.toList = a.data.toList then 0 else 1 := rfl
    rw [this, if_neg q] at h; omega
theorem st1 {a : ByteArray} {o : Int} {l : List Int} {most : Int} (h : stE a o l most 1 = 0) : mayP l ((a.size : Int) + 1) := by
  by_cases q : mayP l ((a.size : Int) + 1)
  · exact q
  · exfalso
    have : stE a o l most 1 = if mayP l ((a.size : Int) + 1) then 0 else 3 := rfl
    rw [this, if_neg q] at h; omega
theorem st2 {a : ByteArray} {o : Int} {l : List Int} {most : Int} (h : stE a o l most 2 = 0) : ((zexL l).length : Int) ≤ most := by
  by_cases q : ((zexL l).length : Int) ≤ most
  · exact q
  · exfalso
    have : stE a o l most 2 = if ((zexL l).length : Int) ≤ most then 0 else 4 := rfl
    rw [this, if_neg q] at h; omega
theorem st3 {a : ByteArray} {o : Int} {l : List Int} {most : Int} (h : stE a o l most 3 = 0) : zexL l ≠ [] := fun q => by
  have : stE a o l most 3 = if zexL l = [] then 3 else 0 := rfl
  rw [this, if_pos q] at h; omega
theorem backOk_iff {L : List UInt8} {o : Int} (hL : 0 < L.length) : backOk L o = true ↔ (0 ≤ o ∧ o < (L.length : Int)) := by
  unfold backOk
  rw [Bool.and_eq_true, decide_eq_true_iff, decide_eq_true_iff]
  omega
theorem st4 {a : ByteArray} {o : Int} {l : List Int} {most : Int} (h3 : zexL l ≠ []) : stE a o l most 4 = 0 ↔ (0 ≤ o ∧ o < ((zexL l).length : Int)) := by
  have hl : (unL a.data.toList (zexL l)).length = (zexL l).length := unL_length _ _
  have hp : 0 < (unL a.data.toList (zexL l)).length := by rw [hl]; exact List.length_pos_iff.2 h3
  have e : stE a o l most 4 = if (if backOk (unL a.data.toList (zexL l)) o then (0 : Int) else 1) = 0 then 0 else 3 := rfl
  rw [e, ← hl]
  have hi := backOk_iff (o := o) hp
  cases hk : backOk (unL a.data.toList (zexL l)) o with
  | true => simp; exact hi.1 hk
  | false =>
    simp
    intro h0
    rw [hk] at hi
    rcases Int.lt_or_le o (unL a.data.toList (zexL l)).length with q | q
    · exact absurd (hi.2 ⟨h0, q⟩) (by simp)
    · exact q

/-- The first step that refuses tells the error. -/
theorem rest_no {a : ByteArray} {o : Int} {l : List Int} {most : Int} {k : Nat} (hk : k < 5) (h : stE a o l most k ≠ 0) (hj : ∀ j, j < k → stE a o l most j = 0) : rest a o l most = (emptyS, stE a o l most k) := by
  match k, hk with
  | 0, _ =>
    have e : stE a o l most 0 = if a.data.toList ≠ [] ∧ alph a.data.toList = a.data.toList then 0 else 1 := rfl
    by_cases q : a.data.toList ≠ [] ∧ alph a.data.toList = a.data.toList
    · rw [e, if_pos q] at h; omega
    · rw [e, if_neg q]; exact rest_arg q
  | 1, _ =>
    have e : stE a o l most 1 = if mayP l ((a.size : Int) + 1) then 0 else 3 := rfl
    by_cases q : mayP l ((a.size : Int) + 1)
    · rw [e, if_pos q] at h; omega
    · rw [e, if_neg q]; exact rest_form (st0 (hj 0 (by omega))) q
  | 2, _ =>
    have e : stE a o l most 2 = if ((zexL l).length : Int) ≤ most then 0 else 4 := rfl
    by_cases q : ((zexL l).length : Int) ≤ most
    · rw [e, if_pos q] at h; omega
    · rw [e, if_neg q]; exact rest_long (st0 (hj 0 (by omega))) (st1 (hj 1 (by omega))) q
  | 3, _ =>
    have e : stE a o l most 3 = if zexL l = [] then 3 else 0 := rfl
    by_cases q : zexL l = []
    · rw [e, if_pos q]
      exact rest_orig (st0 (hj 0 (by omega))) (st1 (hj 1 (by omega))) (st2 (hj 2 (by omega))) (by rw [q]; simp)
    · rw [e, if_neg q] at h; omega
  | 4, _ =>
    have h3 := st3 (hj 3 (by omega))
    have hn := fun q => h ((st4 (a := a) (most := most) h3).2 q)
    rw [rest_orig (st0 (hj 0 (by omega))) (st1 (hj 1 (by omega))) (st2 (hj 2 (by omega))) hn]
    have e : stE a o l most 4 = if stD a o l most 4 = 0 then 0 else 3 := rfl
    by_cases q : stD a o l most 4 = 0
    · rw [e, if_pos q] at h; omega
    · rw [e, if_neg q]
theorem rest_yes {a : ByteArray} {o : Int} {l : List Int} {most : Int} (hj : ∀ j, j < 5 → stE a o l most j = 0) : rest a o l most = (mkS (backText (unL a.data.toList (zexL l)) o), 0) := by
  have h3 := st3 (hj 3 (by omega))
  have h4 := (st4 (a := a) (most := most) h3).1 (hj 4 (by omega))
  have hl : (unL a.data.toList (zexL l)).length = (zexL l).length := unL_length _ _
  rw [rest_ok (st0 (hj 0 (by omega))) (st1 (hj 1 (by omega))) (st2 (hj 2 (by omega))) h4]
  unfold backText
  rw [if_pos ((backOk_iff (by rw [hl]; exact List.length_pos_iff.2 h3)).2 (by rw [hl]; exact h4))]

end Go.Proofs.YthjmpiekjfnoiaaGreatDoor
