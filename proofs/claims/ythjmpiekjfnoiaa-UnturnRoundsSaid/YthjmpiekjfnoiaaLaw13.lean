/-
  The first calls of chapter 13's statements, whose answers are fixed.
-/
import Derived.Test.YthjmpiekjfnoiaaLawA
import Derived.Test.YthjmpiekjfnoiaaLaw14
import Derived.Test.YthjmpiekjfnoiaaW13f
namespace Go.Proofs.Ythjmpiekjfnoiaa
open Go.RowKit

/-! ### An order, checked by reckoning. -/
def eqmB (c : Nat → Nat) (m a b : Nat) : Bool := (List.range m).all (fun t => c (a + t) == c (b + t))
def ltmB (c : Nat → Nat) (m a b : Nat) : Bool := (List.range m).any (fun t => eqmB c t a b && decide (c (a + t) < c (b + t)))
def befB (c : Nat → Nat) (m : Nat) (x y : Int) : Bool := ltmB c m x.toNat y.toNat || (eqmB c m x.toNat y.toNat && decide (x < y))
def ordB (c : Nat → Nat) (l : List Int) : Bool := l.all (fun x => decide (0 ≤ x) && decide (x < (l.length : Int))) && (List.range l.length).all (fun j => (List.range j).all (fun i => befB c l.length (l.getD i 0) (l.getD j 0)))
theorem eqmB_iff (c : Nat → Nat) (m a b : Nat) : eqmB c m a b = true ↔ eqm c m a b := by
  simp [eqmB, eqm]
theorem ltmB_iff (c : Nat → Nat) (m a b : Nat) : ltmB c m a b = true ↔ ltm c m a b := by
  simp only [ltmB, ltm, List.any_eq_true, List.mem_range, Bool.and_eq_true, eqmB_iff, decide_eq_true_eq]
  rfl
theorem befB_iff (c : Nat → Nat) (m : Nat) (x y : Int) : befB c m x y = true ↔ bef c m x y := by
  simp only [befB, bef, Bool.or_eq_true, Bool.and_eq_true, eqmB_iff, ltmB_iff, decide_eq_true_eq]
theorem ordB_ord {c : Nat → Nat} {l : List Int} (h : ordB c l = true) : Ord c l.length l.length (fun k => l.getD k 0) := by
  simp only [ordB, Bool.and_eq_true, List.all_eq_true, List.mem_range, decide_eq_true_eq, befB_iff] at h
  refine ⟨fun k hk => h.1 _ ?_, fun i j _ h2 h3 => h.2 j h3 i h2⟩
  simp [List.getD, List.getElem?_eq_getElem hk]

theorem lastTo_congr {s : ByteArray} {o o' : Nat → Int} {n : Nat} (h : ∀ k, k < n → o k = o' k) : lastTo s o n = lastTo s o' n := by
  unfold lastTo
  exact List.map_congr_left (fun k hk => by rw [h k (by simpa using hk)])
theorem origTo_congr {o o' : Nat → Int} : ∀ {n : Nat}, (∀ k, k < n → o k = o' k) → origTo o n = origTo o' n := by
  intro n
  induction n with
  | zero => intro _; rfl
  | succ n ih => intro h; unfold origTo; rw [h n (by omega), ih (fun k hk => h k (by omega))]

theorem fwd_of (d : Array UInt8) (l : List Int) (r : Array UInt8) (q : Int) (w : World) (hl : (ByteArray.mk d).size = l.length) (hs : l.length ≤ 1000000) (ho : ordB (cycf (ByteArray.mk d)) l = true)
    (hr : mkS (lastTo (ByteArray.mk d) (fun k => l.getD k 0) l.length) = ByteArray.mk r) (hq : ((origTo (fun k => l.getD k 0) l.length : Nat) : Int) = q) :
    Calls Try.prog 26 #[.string { data := d }] w fun e w' => e = .returned (.tuple #[.string { data := r }, .int .i64 q]) ∧ Below w.heap.size w w' := by
  refine (forward_any _ w (by rw [hl]; exact hs)).mono ?_
  rintro e w' ⟨o, hO, rfl, hb⟩
  rw [hl] at hO ⊢
  have hu := hO.uniq (ordB_ord ho)
  rw [lastTo_congr hu, origTo_congr hu, hr, hq]
  exact ⟨rfl, hb⟩
theorem ord_of (d : Array UInt8) (l : List Int) (w : World) (hl : (ByteArray.mk d).size = l.length) (hs : l.length ≤ 1000000) (ho : ordB (cycf (ByteArray.mk d)) l = true) :
    Calls Try.prog 28 #[.string { data := d }] w fun e w' => ∃ v, e = .returned v ∧ OwI w' w.heap.size v l ∧ Below w.heap.size w w' := by
  refine (order_any _ w (by rw [hl]; exact hs)).mono ?_
  rintro e w' ⟨v, o, rfl, hO, hown, hb⟩
  rw [hl] at hO hown
  have hu := hO.uniq (ordB_ord ho)
  rw [outL_congr hu, outL_of] at hown
  exact ⟨v, rfl, hown, hb⟩

set_option maxRecDepth 100000 in
set_option maxHeartbeats 800000 in
theorem awake13_any (w : World) : Calls Try.prog 25 #[] w fun e w' => e = .returned (.bool true) ∧ Below w.heap.size w w' := by
  go_enter Try.func25, Try.ntmps25
  go_wp2_with fail
  refine (fwd_of #[98, 97, 110, 97, 110, 97] [5, 3, 1, 0, 4, 2] #[110, 110, 98, 97, 97, 97] 3 _ (by decide +kernel) (by decide) (by decide +kernel) (by decide +kernel) (by decide +kernel)).mono ?_
  rintro e w1 ⟨rfl, h1⟩
  go_wp2_with fail
  refine (fwd_of #[] [] #[] 0 _ (by decide +kernel) (by decide) (by decide +kernel) (by decide +kernel) (by decide +kernel)).mono ?_
  rintro e w2 ⟨rfl, h2⟩
  go_wp2_with fail
  refine (fwd_of #[97, 98, 97, 98] [0, 2, 1, 3] #[98, 98, 97, 97] 0 _ (by decide +kernel) (by decide) (by decide +kernel) (by decide +kernel) (by decide +kernel)).mono ?_
  rintro e w3 ⟨rfl, h3⟩
  go_wp2_with fail
  refine (ord_of #[98, 97, 110, 97, 110, 97] [5, 3, 1, 0, 4, 2] _ (by decide +kernel) (by decide) (by decide +kernel)).mono ?_
  rintro e w4 ⟨v, rfl, hv, h4⟩
  go_wp2_with fail
  refine (ints_same _ _ [5, 3, 1, 0, 4, 2] _ (hv.rd.below ((Below.refl _ _).alloc (Nat.le_refl _) _)) (rd_lit w4 _ [.int .i64 5, .int .i64 3, .int .i64 1, .int .i64 0, .int .i64 4, .int .i64 2] 6 rfl (by decide))).mono ?_
  rintro e w5 ⟨rfl, h5⟩
  go_wp2_with fail
  refine (ord_of #[97, 97] [0, 1] _ (by decide +kernel) (by decide) (by decide +kernel)).mono ?_
  rintro e w6 ⟨v2, rfl, hv2, h6⟩
  go_wp2_with fail
  refine (ints_same _ _ [0, 1] _ (hv2.rd.below ((Below.refl _ _).alloc (Nat.le_refl _) _)) (rd_lit w6 _ [.int .i64 0, .int .i64 1] 2 rfl (by decide))).mono ?_
  rintro e w7 ⟨rfl, h7⟩
  go_wp2_with fail
  go_ret
  exact ⟨rfl, belT (belA (belT (belT (belA (belT (belT (belT h1 h2) h3) h4) _) h5) h6) _) h7⟩

end Go.Proofs.Ythjmpiekjfnoiaa
