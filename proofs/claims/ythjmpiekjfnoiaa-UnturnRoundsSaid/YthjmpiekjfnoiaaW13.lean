/-
  The walks of ranks, of what compares them, and of the sort by them.
-/
import Derived.Test.YthjmpiekjfnoiaaWS6
import Derived.Test.YthjmpiekjfnoiaaM13
import Derived.Test.YthjmpiekjfnoiaaShelf
import Derived.Deep.RegionHeld3
namespace Go.Proofs.Ythjmpiekjfnoiaa
open Go.RowKit

def ranksV (s : ByteArray) (b n M : Nat) : Value := .agg #[.string s, .slice (some ⟨b, 0, none⟩) n n, .int .i64 (M : Int)]

theorem bDrewN {B : Nat} {a b : World} (h : Below B a b) (n : Nat) : Below B a (b.drewN n) := ⟨h.os, h.tape, h.output, h.size, h.block⟩

/-- The first number, or the second one if that is 0. -/
def orI (p q : Int) : Int := if p = 0 then q else p
theorem orI_first {p q : Int} (h : p ≠ 0) : orI p q = p := if_neg h
theorem orI_second {p q : Int} (h : p = 0) : orI p q = q := if_pos h

set_option maxRecDepth 100000 in
set_option maxHeartbeats 800000 in
theorem at_any (s : ByteArray) (b n M k : Nat) (r : Nat → Int) (w : World) (hs : s.size = n) (hn : n ≤ 1000000) (hM : M ≤ 4000000) (hk : k < n) (hr : Arr w b 3 (tab n r)) :
    Calls Try.prog 42 #[ranksV s b n M, .int .i64 (k : Int)] w fun e w' => e = .returned (.int .i64 (r ((k + M) % n))) ∧ Below w.heap.size w w' := by
  unfold ranksV
  subst hs
  have hpos : 0 < s.size := by omega
  obtain ⟨j, hj⟩ : ∃ j, j = (k + M) % s.size := ⟨_, rfl⟩
  have hjn : j < s.size := by rw [hj]; exact Nat.mod_lt _ hpos
  have ej : ((k : Int) + (M : Int)).tmod (s.size : Int) = (j : Int) := by
    rw [hj, Int.tmod_eq_emod_of_nonneg (by omega), Int.natCast_emod, Int.natCast_add]
  have hc := (hr.alloc (.cells #[.string s, .slice (some ⟨b, 0, none⟩) s.size s.size, .int .i64 (M : Int)] 48)).cell (tab_get s.size r j hjn)
  have hz : ((s.size : Int) == 0) = false := by rw [beq_eq_false_iff_ne]; omega
  rw [← hj]
  have HJ := hid hj
  clear hj
  go_enter Try.func42, Try.ntmps42
  go_wp2
  go_quiet (fail)
  go_wp2
  go_ret
  refine ⟨rfl, ?_⟩
  exact bDrewN (Below.alloc (Below.refl _ _) (Nat.le_refl _) _) _

set_option maxRecDepth 100000 in
set_option maxHeartbeats 800000 in
theorem or_any (v : Value) (p q : Int) (w : World) (hr : RdI w v [p, q]) :
    Calls Try.prog 40 #[v] w fun e w' => e = .returned (.int .i64 (orI p q)) ∧ w = w' := by
  obtain ⟨a, cap, rfl, h1, h2, h3⟩ := hr.open
  obtain ⟨b, off, rfl, hlt, hc⟩ := h3 (by simp)
  have c0 := hc 0 p rfl
  have c1 := hc 1 q rfl
  rw [Nat.add_zero] at c0
  clear hc h3 hr
  simp only [List.length_cons, List.length_nil, Nat.zero_add, Nat.reduceAdd] at h1 ⊢
  have HQ := hid hlt
  clear hlt
  go_enter Try.func40, Try.ntmps40
  go_wp2
  go_loopg [8, 5] 2 (fun gh s8 s5 wr => ∃ k : Nat, k ≤ 2 ∧ gh = 2 - k ∧ s8 = .int .i64 k ∧ (1 ≤ k → p = 0) ∧ (2 ≤ k → q = 0) ∧ w = wr)
  case atStart => exact ⟨0, by omega, rfl, rfl, fun h => by omega, fun h => by omega, rfl⟩
  case round =>
    obtain ⟨k, hk, hg, rfl, k1, k2, rfl⟩ := hrel
    have HG := hid hg
    have K1 := hid k1
    have K2 := hid k2
    clear hg k1 k2
    rcases Nat.lt_or_ge k 1 with h | h
    · have : k = 0 := by omega
      subst this
      by_cases hp : p = 0
      · have t : (p != 0) = false := by simp [hp]
        have HP := hid hp
        clear hp
        go_wp2
        have hg := HG.out
        go_roundg 1
        case measure => omega
        case rel => exact ⟨1, by omega, rfl, by go_num, fun _ => HP.out, fun h => by omega, rfl⟩
      · have t : (p != 0) = true := by simp [hp]
        have HP := hid hp
        clear hp
        go_wp2
        go_ret
        exact ⟨ret_int (orI_first HP.out).symm, rfl⟩
    · rcases Nat.lt_or_ge k 2 with h' | h'
      · have : k = 1 := by omega
        subst this
        by_cases hp : q = 0
        · have t : (q != 0) = false := by simp [hp]
          have HP := hid hp
          clear hp
          go_wp2
          have hg := HG.out
          go_roundg 0
          case measure => omega
          case rel => exact ⟨2, by omega, rfl, by go_num, fun _ => K1.out (by omega), fun _ => HP.out, rfl⟩
        · have t : (q != 0) = true := by simp [hp]
          have HP := hid hp
          clear hp
          go_wp2
          go_ret
          exact ⟨ret_int (orI_second (K1.out (by omega))).symm, rfl⟩
      · have : k = 2 := by omega
        subst this
        go_wp2
        go_ret
        exact ⟨ret_int ((orI_second (K1.out (by omega))).trans (K2.out (by omega))).symm, rfl⟩

/-- What a region that asks the ranks holds on to. -/
theorem keepS {w1 w2 : World} {p1 p2 p3 p4 p5 : Addr} {v1 v2 v3 v4 v5 : Value} {B : Nat} {w0 : World}
    (h : w1.cell? p1 = some v1 ∧ w1.cell? p2 = some v2 ∧ w1.cell? p3 = some v3 ∧ w1.cell? p4 = some v4 ∧ w1.cell? p5 = some v5 ∧ Below B w0 w1 ∧ B ≤ w1.heap.size) (hb : Below w1.heap.size w1 w2) :
    w2.cell? p1 = some v1 ∧ w2.cell? p2 = some v2 ∧ w2.cell? p3 = some v3 ∧ w2.cell? p4 = some v4 ∧ w2.cell? p5 = some v5 ∧ Below B w0 w2 ∧ B ≤ w2.heap.size := by
  obtain ⟨h1, h2, h3, h4, h5, h6, h7⟩ := h
  have k : ∀ {p : Addr} {v : Value}, w1.cell? p = some v → w2.cell? p = some v := fun {p} {v} hp => (hb.cell (World.block_lt_of_cell? w1 p hp)).trans hp
  exact ⟨k h1, k h2, k h3, k h4, k h5, h6.trans (hb.mono h7), Nat.le_trans h7 hb.size⟩

/-- What a comparison by ranks answers, as the code spells it. -/
def cmpI (r : Nat → Int) (n M x y : Nat) : Int := orI (Lib.compareInt (r x) (r y)) (Lib.compareInt (r ((x + M) % n)) (r ((y + M) % n)))
theorem cmpI_eq (r : Nat → Int) (n M x y : Nat) : cmpI r n M x y = kcmp r n M x y := by
  unfold cmpI orI kcmp Lib.compareInt
  generalize r x = p
  generalize r y = q
  generalize r ((x + M) % n) = s
  generalize r ((y + M) % n) = t
  by_cases h1 : p < q
  · simp [h1]
  · by_cases h2 : q < p
    · simp [h1, h2]
    · simp [h1, h2]

theorem keepArr {w1 w0 : World} {p1 p2 p3 p4 p5 : Addr} {v1 v2 v3 v4 v5 : Value} {b : Nat} {e : TypeId} {l : List Value} (ha : Arr w0 b e l) (hb : b < w0.heap.size)
    (h : w1.cell? p1 = some v1 ∧ w1.cell? p2 = some v2 ∧ w1.cell? p3 = some v3 ∧ w1.cell? p4 = some v4 ∧ w1.cell? p5 = some v5 ∧ Below w0.heap.size w0 w1 ∧ w0.heap.size ≤ w1.heap.size) : Arr w1 b e l :=
  ha.below h.2.2.2.2.2.1 hb
theorem keepB {w w0 w1 : World} {p1 p2 p3 p4 p5 : Addr} {v1 v2 v3 v4 v5 : Value} {q : Nat} (hb : Below q w w0)
    (h : w1.cell? p1 = some v1 ∧ w1.cell? p2 = some v2 ∧ w1.cell? p3 = some v3 ∧ w1.cell? p4 = some v4 ∧ w1.cell? p5 = some v5 ∧ Below w0.heap.size w0 w1 ∧ w0.heap.size ≤ w1.heap.size) (hq : q ≤ w0.heap.size) : Below q w w1 :=
  hb.trans (h.2.2.2.2.2.1.mono hq)
theorem belowNew (w : World) (o : Obj) : Below w.heap.size w (w.alloc o) := (Below.refl _ _).alloc (Nat.le_refl _) _
theorem compare0 (x y : Int) (w : World) : Calls Try.prog 41 #[.int .i64 x, .int .i64 y] w fun e w' => e = .returned (.int .i64 (Lib.compareInt x y)) ∧ w = w' :=
  (Try.cmp_Compare_int x y w).mono fun _ _ h => ⟨h.1, h.2.symm⟩

set_option maxRecDepth 100000 in
set_option maxHeartbeats 3200000 in
theorem compare_any (s : ByteArray) (b n M x y : Nat) (r : Nat → Int) (w : World) (hs : s.size = n) (hn : n ≤ 1000000) (hM : M ≤ 4000000) (hx : x < n) (hy : y < n) (hr : Arr w b 3 (tab n r)) :
    Calls Try.prog 35 #[ranksV s b n M, .int .i64 (x : Int), .int .i64 (y : Int)] w fun e w' => e = .returned (.int .i64 (cmpI r n M x y)) ∧ Below w.heap.size w w' := by
  have hat : ∀ (k : Nat) (w2 : World), k < n → Arr w2 b 3 (tab n r) → Calls Try.prog 42 #[ranksV s b n M, .int .i64 (k : Int)] w2 fun e w' => e = .returned (.int .i64 (r ((k + M) % n))) ∧ Below w2.heap.size w2 w' :=
    fun k w2 hk h2 => at_any s b n M k r w2 hs hn hM hk h2
  unfold ranksV at hat ⊢
  have HAT := hid hat
  have HS := hid hs
  clear hat hs
  have hbl := hr.lt
  have a0 := hr.alloc (.cells #[.string s, .slice (some ⟨b, 0, none⟩) n n, .int .i64 (M : Int)] 48)
  have c4 := a0.cell (tab_get n r x hx)
  have c5 := a0.cell (tab_get n r y hy)
  have c1 : (w.alloc (.cells #[.string s, .slice (some ⟨b, 0, none⟩) n n, .int .i64 (M : Int)] 48)).cell? ⟨w.heap.size, 0, none⟩ = some (.string s) := World.cell?_alloc_at _ _ _ _ rfl
  have c2 : (w.alloc (.cells #[.string s, .slice (some ⟨b, 0, none⟩) n n, .int .i64 (M : Int)] 48)).cell? ⟨w.heap.size, 1, none⟩ = some (.slice (some ⟨b, 0, none⟩) n n) := World.cell?_alloc_at _ _ _ _ rfl
  have c3 : (w.alloc (.cells #[.string s, .slice (some ⟨b, 0, none⟩) n n, .int .i64 (M : Int)] 48)).cell? ⟨w.heap.size, 2, none⟩ = some (.int .i64 (M : Int)) := World.cell?_alloc_at _ _ _ _ rfl
  have hWb : Below w.heap.size w (w.alloc (.cells #[.string s, .slice (some ⟨b, 0, none⟩) n n, .int .i64 (M : Int)] 48)) := (Below.refl _ _).alloc (Nat.le_refl _) _
  have hbW := a0.lt
  have hqW := hWb.size
  have HWB := hid hWb
  clear hWb hr
  have i1 : (0 : Int) ≤ (x : Int) := by omega
  have i2 : (x : Int) < (n : Int) := by omega
  have i3 : (0 : Int) ≤ (y : Int) := by omega
  have i4 : (y : Int) < (n : Int) := by omega
  go_enter Try.func35, Try.ntmps35
  go_wp2
  generalize w.alloc (.cells #[.string s, .slice (some ⟨b, 0, none⟩) n n, .int .i64 (M : Int)] 48) = W at *
  have hS0 := keepS ⟨c1, c2, c3, c4, c5, Below.refl W.heap.size W, Nat.le_refl _⟩ (Below.refl W.heap.size W).drew
  clear c1 c2 c3 c4 c5
  go_region_held3 (fun w' => w'.cell? ⟨w.heap.size, 0, none⟩ = some (.string s) ∧ w'.cell? ⟨w.heap.size, 1, none⟩ = some (.slice (some ⟨b, 0, none⟩) n n) ∧ w'.cell? ⟨w.heap.size, 2, none⟩ = some (.int .i64 (M : Int)) ∧
      w'.cell? ⟨b, x, none⟩ = some (.int .i64 (r x)) ∧ w'.cell? ⟨b, y, none⟩ = some (.int .i64 (r y)) ∧ Below W.heap.size W w' ∧ W.heap.size ≤ w'.heap.size)
    (first
      | with_reducible assumption
      | with_reducible exact keepS (by assumption) (by assumption)
      | with_reducible exact keepS (by assumption) (belowNew _ _))
    (first
      | (go_at_call 41; refine (compare0 _ _ _).mono ?_; rintro e w' ⟨rfl, rfl⟩)
      | (go_at_call_of 42 (Value.int .i64 (x : Int)); refine (HAT.out x _ hx (keepArr a0 hbW (by assumption))).mono ?_; rintro e w' ⟨rfl, hb⟩)
      | (go_at_call_of 42 (Value.int .i64 (y : Int)); refine (HAT.out y _ hy (keepArr a0 hbW (by assumption))).mono ?_; rintro e w' ⟨rfl, hb⟩)
      | (go_at_call 40; refine (or_any _ _ _ _ (rd_lit _ _ [_, _] 2 rfl (by decide))).mono ?_; rintro e w' ⟨rfl, rfl⟩))
  all_goals go_wp2
  all_goals go_ret
  all_goals exact ⟨rfl, keepB HWB.out (by assumption) hqW⟩

/-- The sorter behind the closure's pointer: an interface that holds ranks. -/
def sorterV (s : ByteArray) (b n M : Nat) : Value := .iface 48 (ranksV s b n M)

set_option maxRecDepth 100000 in
set_option maxHeartbeats 800000 in
theorem cmpFn_any (s : ByteArray) (b bx n M x y : Nat) (r : Nat → Int) (w : World) (hs : s.size = n) (hn : n ≤ 1000000) (hM : M ≤ 4000000) (hx : x < n) (hy : y < n) (hr : Arr w b 3 (tab n r)) (hb : w.cell? ⟨bx, 0, none⟩ = some (sorterV s b n M)) :
    Calls Try.prog 39 #[.int .i64 (x : Int), .int .i64 (y : Int), .pointer (some ⟨bx, 0, none⟩)] w fun e w' => e = .returned (.int .i64 (cmpI r n M x y)) ∧ Below w.heap.size w w' := by
  have hcmp := compare_any s b n M x y r w hs hn hM hx hy hr
  unfold sorterV at hb
  unfold ranksV at hcmp hb
  have HC := hid hcmp
  clear hcmp hs hr
  go_enter Try.func39, Try.ntmps39
  go_wp2_with fail
  refine HC.out.mono ?_
  rintro e w1 ⟨rfl, hbl⟩
  go_wp2
  go_ret
  exact ⟨rfl, hbl⟩

end Go.Proofs.Ythjmpiekjfnoiaa
