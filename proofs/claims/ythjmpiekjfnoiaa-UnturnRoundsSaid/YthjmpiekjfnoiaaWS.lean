/-
  The walks of the library's stable sort over a slice of integers, by a function value that compares: swaps of blocks, rotations, merges.
-/
import Derived.Test.YthjmpiekjfnoiaaLawA
import Derived.Test.YthjmpiekjfnoiaaMS
import Derived.Deep.RegionWith
import Derived.Deep.DeepCutAuto
namespace Go.Proofs.Ythjmpiekjfnoiaa
open Go.RowKit

/-- Block g begins with the n integers f 0, f 1, ..; it has cap cells. -/
def Dat (w : World) (g cap n : Nat) (f : Nat → Int) : Prop :=
  ∃ cur : Array Value, w.heap[g]? = some (.cells cur 3 (0, 0)) ∧ cur.size = cap ∧ n ≤ cap ∧ ∀ k, k < n → cur[k]? = some (.int .i64 (f k))

theorem Dat.lt {w : World} {g cap n : Nat} {f : Nat → Int} (h : Dat w g cap n f) : g < w.heap.size := by
  obtain ⟨cur, h, _⟩ := h; exact (Array.getElem?_eq_some_iff.1 h).1
theorem Dat.cell {w : World} {g cap n : Nat} {f : Nat → Int} (h : Dat w g cap n f) {k : Nat} (hk : k < n) : w.cell? ⟨g, k, none⟩ = some (.int .i64 (f k)) := by
  obtain ⟨cur, h, _, _, hc⟩ := h
  rw [cell_of_row w g k _ _ (0, 0) h]; exact hc k hk
theorem Dat.free {w : World} {g cap n : Nat} {f : Nat → Int} (h : Dat w g cap n f) (k : Nat) : w.frozen? ⟨g, k, none⟩ = false := by
  obtain ⟨cur, h, _⟩ := h; exact frozen_of_row w g k _ _ h
theorem Dat.set {w : World} {g cap n : Nat} {f : Nat → Int} (h : Dat w g cap n f) (k : Nat) (x : Int) : Dat (w.setCell ⟨g, k, none⟩ (.int .i64 x)) g cap n (setF f k x) := by
  obtain ⟨cur, h, hs, hn, hc⟩ := h
  refine ⟨cur.setIfInBounds k (.int .i64 x), heap_setCell_same w g k _ _ _ h, by simpa using hs, hn, fun j hj => ?_⟩
  unfold setF
  by_cases e : j = k
  · subst e; simp [show j < cur.size by omega]
  · rw [if_neg e, Array.getElem?_setIfInBounds_ne (fun h => e h.symm)]; exact hc j hj
theorem Dat.grown {w w' : World} {g cap n : Nat} {f : Nat → Int} {row : Option Nat} (h : Dat w g cap n f) (hg : w.grownBy w' row) (hne : some g ≠ row) : Dat w' g cap n f := by
  have hl := h.lt
  obtain ⟨cur, h, hr⟩ := h
  exact ⟨cur, by rw [hg.block g hl hne]; exact h, hr⟩
theorem Dat.below {w w' : World} {g cap n B : Nat} {f : Nat → Int} (h : Dat w g cap n f) (hb : Below B w w') (hB : g < B) : Dat w' g cap n f := by
  obtain ⟨cur, h, hr⟩ := h
  exact ⟨cur, by rw [hb.block g hB]; exact h, hr⟩
theorem Dat.congr {w : World} {g cap n : Nat} {f f' : Nat → Int} (h : Dat w g cap n f) (e : ∀ k, k < n → f' k = f k) : Dat w g cap n f' := by
  obtain ⟨cur, h, h1, h2, h3⟩ := h
  exact ⟨cur, h, h1, h2, fun k hk => by rw [e k hk]; exact h3 k hk⟩
theorem Dat.drewN {w : World} {g cap n : Nat} {f : Nat → Int} (h : Dat w g cap n f) (k : Nat) : Dat (w.drewN k) g cap n f := h
theorem Dat.drew {w : World} {g cap n : Nat} {f : Nat → Int} (h : Dat w g cap n f) : Dat w.drew g cap n f := h

theorem gRefl (w : World) (row : Option Nat) : w.grownBy w row := ⟨rfl, rfl, rfl, Nat.le_refl _, fun _ _ _ => rfl⟩
theorem gTrans {a b c : World} {row : Option Nat} (h : a.grownBy b row) (k : b.grownBy c row) : a.grownBy c row :=
  ⟨k.os.trans h.os, k.tape.trans h.tape, k.output.trans h.output, Nat.le_trans h.size k.size, fun i hi hne => (k.block i (Nat.lt_of_lt_of_le hi h.size) hne).trans (h.block i hi hne)⟩
theorem gBelow {a b : World} {row : Option Nat} (h : Below a.heap.size a b) : a.grownBy b row := ⟨h.os, h.tape, h.output, h.size, fun i hi _ => h.block i hi⟩
theorem gSet (a : World) (g k : Nat) (v : Value) : a.grownBy (a.setCell ⟨g, k, none⟩ v) (some g) :=
  ⟨rfl, rfl, rfl, by simp [World.setCell], fun i _ hne => Below.heap_setCell _ _ _ _ (fun e => hne (by rw [e]))⟩
theorem gDrew {a b : World} {row : Option Nat} (h : a.grownBy b row) : a.grownBy b.drew row := ⟨h.os, h.tape, h.output, h.size, h.block⟩
theorem gDrewN {a b : World} {row : Option Nat} (h : a.grownBy b row) (n : Nat) : a.grownBy (b.drewN n) row := ⟨h.os, h.tape, h.output, h.size, h.block⟩
theorem gBelowOf {a b : World} {g B : Nat} (h : a.grownBy b (some g)) (hg : B ≤ g) (hB : B ≤ a.heap.size) : Below B a b :=
  ⟨h.os, h.tape, h.output, h.size, fun i hi => h.block i (by omega) (fun e => by have := Option.some.inj e; omega)⟩

set_option maxRecDepth 100000 in
set_option maxHeartbeats 800000 in
theorem swapRange_any (g cap n a b t : Nat) (f : Nat → Int) (cv : Value) (w : World) (hd : Dat w g cap n f) (hn : n ≤ 1000000) (_hcap : cap ≤ maxLen) (hab : a + t ≤ b) (hbn : b + t ≤ n) :
    Calls Try.prog 65 #[.slice (some ⟨g, 0, none⟩) n cap, .int .i64 (a : Int), .int .i64 (b : Int), .int .i64 (t : Int), cv] w fun e w' =>
      e = .returned (.tuple #[]) ∧ Dat w' g cap n (swapF f a b t) ∧ w.grownBy w' (some g) := by
  unfold maxLen at _hcap
  go_enter Try.func65, Try.ntmps65
  go_wp2
  go_loopg [10] t (fun gh i wr => ∃ k : Nat, k ≤ t ∧ gh = t - k ∧ i = .int .i64 k ∧ Dat wr g cap n (swapF f a b k) ∧ w.grownBy wr (some g))
  case atStart => exact ⟨0, Nat.zero_le _, rfl, rfl, by rw [swapF_zero]; exact hd, gRefl _ _⟩
  case round =>
    obtain ⟨k, hk, hg, rfl, hdat, hgr⟩ := hrel
    have HG := hid hg
    clear hg
    by_cases hlt : k < t
    · have c1 := hdat.cell (k := a + k) (by omega)
      have c2 := hdat.cell (k := b + k) (by omega)
      have f1 := hdat.free (a + k)
      have f2 := hdat.free (b + k)
      have hne : a + k ≠ b + k := by omega
      obtain ⟨x, hx⟩ : ∃ x, x = swapF f a b k (a + k) := ⟨_, rfl⟩
      obtain ⟨y, hy⟩ : ∃ y, y = swapF f a b k (b + k) := ⟨_, rfl⟩
      rw [← hx] at c1
      rw [← hy] at c2
      have HX := hid hx
      have HY := hid hy
      clear hx hy
      go_wp2
      go_region
      all_goals go_wp2
      have hg := HG.out
      go_roundg (t - (k + 1))
      case measure => omega
      case rel =>
        refine ⟨k + 1, by omega, rfl, by go_num, ?_, gDrew (gTrans (gTrans hgr (gSet _ _ _ _)) (gSet _ _ _ _))⟩
        have := (hdat.set (a + k) y).set (b + k) x
        rw [HX.out, HY.out, ← swapF_succ f a b k (by omega)] at this
        rw [HX.out, HY.out]
        exact this.drew
    · have hk' : k = t := by omega
      have HK := hid hk'
      clear hk'
      go_wp2
      go_end0
      exact ⟨rfl, by rw [← HK.out]; exact hdat, hgr⟩

set_option maxRecDepth 100000 in
set_option maxHeartbeats 800000 in
theorem rotate_any (g cap n a m b : Nat) (f : Nat → Int) (cv : Value) (w : World) (hd : Dat w g cap n f) (hn : n ≤ 1000000) (hcap : cap ≤ maxLen) (ham : a < m) (hmb : m < b) (hbn : b ≤ n) :
    Calls Try.prog 64 #[.slice (some ⟨g, 0, none⟩) n cap, .int .i64 (a : Int), .int .i64 (m : Int), .int .i64 (b : Int), cv] w fun e w' =>
      e = .returned (.tuple #[]) ∧ Dat w' g cap n (rotF f a m b) ∧ w.grownBy w' (some g) := by
  have hcap' := hcap
  unfold maxLen at hcap'
  go_enter Try.func64, Try.ntmps64
  go_wp2
  go_loopg [10, 11] (b - a) (fun gh i j wr => ∃ (p q : Nat) (h : Nat → Int), 0 < p ∧ 0 < q ∧ p ≤ m ∧ m + q ≤ n ∧ gh = p + q ∧ i = .int .i64 p ∧ j = .int .i64 q ∧ Dat wr g cap n h ∧ Hid (rotF h (m - p) m (m + q) = rotF f a m b) ∧ w.grownBy wr (some g))
  case atStart =>
    refine ⟨m - a, b - m, f, by omega, by omega, by omega, by omega, by omega, congrArg _ (by omega), congrArg _ (by omega), hd, hid ?_, gRefl _ _⟩
    rw [show m - (m - a) = a by omega, show m + (b - m) = b by omega]
  case round =>
    obtain ⟨p, q, h, hp, hq, hpm, hqn, hg, rfl, rfl, hdat, HR, hgr⟩ := hrel
    have HG := hid hg
    clear hg
    rcases Nat.lt_trichotomy p q with hpq | hpq | hpq
    · have t1 : ((p : Int) != (q : Int)) = true := by rw [bne_iff_ne]; omega
      have t2 : decide (q < p) = false := by simp; omega
      go_wp2_with fail
      rw [show ((m : Int) - (p : Int)) = ((m - p : Nat) : Int) from by omega, show ((m : Int) + (q : Int) - (p : Int)) = ((m + q - p : Nat) : Int) from by omega]
      refine (swapRange_any g cap n _ _ _ h cv _ hdat hn hcap (by omega) (by omega)).mono ?_
      rintro e w1 ⟨rfl, hd1, hg1⟩
      go_wp2
      have hg := HG.out
      go_roundg (p + (q - p))
      case measure => omega
      case rel => exact ⟨p, q - p, _, hp, by omega, hpm, by omega, rfl, rfl, congrArg _ (by omega), hd1, hid (by rw [← rot_lt h m p q hpm hpq hp]; exact HR.out), gTrans hgr hg1⟩
    · subst hpq
      have t1 : ((p : Int) != (p : Int)) = false := by simp
      go_wp2_with fail
      rw [show ((m : Int) - (p : Int)) = ((m - p : Nat) : Int) from by omega]
      refine (swapRange_any g cap n _ _ _ h cv _ hdat hn hcap (by omega) (by omega)).mono ?_
      rintro e w1 ⟨rfl, hd1, hg1⟩
      go_wp2
      go_end0
      exact ⟨rfl, by rw [← HR.out, rot_eq h m p hpm]; exact hd1, gTrans hgr hg1⟩
    · have t1 : ((p : Int) != (q : Int)) = true := by rw [bne_iff_ne]; omega
      have t2 : decide (q < p) = true := by simp; omega
      go_wp2_with fail
      rw [show ((m : Int) - (p : Int)) = ((m - p : Nat) : Int) from by omega]
      refine (swapRange_any g cap n _ _ _ h cv _ hdat hn hcap (by omega) (by omega)).mono ?_
      rintro e w1 ⟨rfl, hd1, hg1⟩
      go_wp2
      have hg := HG.out
      go_roundg ((p - q) + q)
      case measure => omega
      case rel => exact ⟨p - q, q, _, by omega, hq, by omega, hqn, rfl, congrArg _ (by omega), rfl, hd1, hid (by rw [← rot_gt h m p q hpm hpq hq]; exact HR.out), gTrans hgr hg1⟩

/-- What the function value answers, whatever the row of block g holds: a number below 0 just where 'klt' says so. -/
def CmpOK (w0 : World) (g n bx : Nat) (klt : Int → Int → Bool) : Prop :=
  ∀ W, w0.grownBy W (some g) → ∀ x y : Int, 0 ≤ x → x < (n : Int) → 0 ≤ y → y < (n : Int) →
    Calls Try.prog 39 #[.int .i64 x, .int .i64 y, .pointer (some ⟨bx, 0, none⟩)] W fun e W' => ∃ c : Int, e = .returned (.int .i64 c) ∧ decide (c < 0) = klt x y ∧ Below W.heap.size W W'

theorem CmpOK.later {w0 w1 : World} {g n bx : Nat} {klt : Int → Int → Bool} (h : CmpOK w0 g n bx klt) (hg : w0.grownBy w1 (some g)) : CmpOK w1 g n bx klt :=
  fun W hW => h W (gTrans hg hW)

def cmpV (bx : Nat) : Value := .func (.func 39) #[] #[.pointer (some ⟨bx, 0, none⟩)]

def InR (n : Nat) (f : Nat → Int) : Prop := ∀ k, k < n → 0 ≤ f k ∧ f k < (n : Int)
theorem InR.from {n a b : Nat} {f g : Nat → Int} (h : InR n f) (hb : b ≤ n) (p : FromOn a b f g) : InR n g := fun k hk => by
  by_cases hc : a ≤ k ∧ k < b
  · obtain ⟨k', h1, h2, h3⟩ := p.1 k hc.1 hc.2; rw [h3]; exact h k' (by omega)
  · rw [p.2 k hc]; exact h k hk

end Go.Proofs.Ythjmpiekjfnoiaa
