/-
  The walks of sort, by ranks; of nothing, too.
-/
import Derived.Test.YthjmpiekjfnoiaaW13
import Derived.Sort.OwnSortedInts
namespace Go.Proofs.Ythjmpiekjfnoiaa
open Go.RowKit

set_option maxRecDepth 100000 in
set_option maxHeartbeats 800000 in
theorem insertion_nil (p : Option Addr) (cap : Nat) (cv : Value) (w : World) :
    Calls Try.prog 61 #[.slice p 0 cap, .int .i64 0, .int .i64 0, cv] w fun e w' => e = .returned (.tuple #[]) ∧ w = w' := by
  go_enter Try.func61, Try.ntmps61
  go_wp2
  go_loopg [8] 0 (fun _gh i wr => i = .int .i64 1 ∧ w = wr)
  case atStart => exact ⟨rfl, rfl⟩
  case round =>
    obtain ⟨rfl, rfl⟩ := hrel
    go_wp2
    go_end0
    exact ⟨rfl, rfl⟩

set_option maxRecDepth 100000 in
set_option maxHeartbeats 800000 in
theorem stable_nil (p : Option Addr) (cap : Nat) (cv : Value) (w : World) :
    Calls Try.prog 54 #[.slice p 0 cap, .int .i64 0, cv] w fun e w' => e = .returned (.tuple #[]) ∧ w = w' := by
  go_enter Try.func54, Try.ntmps54
  go_wp2
  go_loopg [7, 8] 0 (fun _gh i j wr => i = .int .i64 0 ∧ j = .int .i64 20 ∧ w = wr)
  case atStart => exact ⟨rfl, rfl, rfl⟩
  case round =>
    obtain ⟨rfl, rfl, rfl⟩ := hrel
    go_wp2_with fail
    refine (insertion_nil p cap cv w).mono ?_
    rintro e w1 ⟨rfl, rfl⟩
    go_wp2_with fail
    go_loopg [6, 7, 8, 9] 0 (fun _gh s6 _s7 _s8 _s9 wr => s6 = .int .i64 20 ∧ w = wr)
    case atStart => exact ⟨rfl, rfl⟩
    case round =>
      obtain ⟨rfl, rfl⟩ := hrel
      go_wp2_with fail
      go_end0
      exact ⟨rfl, rfl⟩

set_option maxRecDepth 100000 in
theorem sortStable_nil (p : Option Addr) (cap : Nat) (cv : Value) (w : World) :
    Calls Try.prog 38 #[.slice p 0 cap, cv] w fun e w' => e = .returned (.tuple #[]) ∧ w = w' := by
  go_enter Try.func38, Try.ntmps38
  go_wp2_with fail
  refine (stable_nil p cap cv w).mono ?_
  rintro e w1 ⟨rfl, rfl⟩
  go_wp2
  go_end0
  exact ⟨rfl, rfl⟩

set_option maxRecDepth 100000 in
theorem sort_nil (p : Option Addr) (cap : Nat) (t : TypeId) (rv : Value) (w : World) :
    Calls Try.prog 34 #[.slice p 0 cap, .iface t rv] w fun e w' => e = .returned (.tuple #[]) ∧ Below w.heap.size w w' := by
  go_enter Try.func34, Try.ntmps34
  go_wp2_with fail
  refine (sortStable_nil p cap _ _).mono ?_
  rintro e w1 ⟨rfl, rfl⟩
  go_wp2
  go_end0
  exact ⟨rfl, belowNew _ _⟩

/-- What the comparison says: the first of two is less by its first bytes. -/
noncomputable def kltB (c : Nat → Nat) (m : Nat) (x y : Int) : Bool := @decide (ltm c m x.toNat y.toNat) (Classical.propDecidable _)
theorem kltB_iff (c : Nat → Nat) (m : Nat) (x y : Int) : kltB c m x y = true ↔ ltm c m x.toNat y.toNat := by unfold kltB; exact @decide_eq_true_iff _ (Classical.propDecidable _)
theorem kltB_cmp (c : Nat → Nat) (m : Nat) : Cmp (bef c m) (kltB c m) :=
  ⟨bef_strict c m, fun x y hxy => by
    rw [kltB_iff]
    unfold bef
    constructor
    · exact .inl
    · rintro (h | ⟨_, h⟩)
      · exact h
      · omega⟩

theorem cmpOK_of {s : ByteArray} {b g bx n M : Nat} {r : Nat → Int} {w : World} {c : Nat → Nat} (hs : s.size = n) (hn : n ≤ 1000000) (hM : M ≤ 4000000) (hr : Arr w b 3 (tab n r)) (hbg : b ≠ g) (hbx : bx ≠ g) (hb : w.cell? ⟨bx, 0, none⟩ = some (sorterV s b n M))
    (hc : Cyc c n) (hk : RankOK c n (max M 1) r) : CmpOK w g n bx (kltB c (max (2 * M) 1)) := by
  intro W hW x y hx0 hx1 hy0 hy1
  have ex : ((x.toNat : Nat) : Int) = x := by omega
  have ey : ((y.toNat : Nat) : Int) = y := by omega
  have hlt := World.block_lt_of_cell? w _ hb
  have hcell : W.cell? ⟨bx, 0, none⟩ = some (sorterV s b n M) := by
    rw [← hb]
    exact World.cell?_of_block (w := w) (hW.block bx hlt (fun e => hbx (by have := Option.some.inj e; omega)))
  have hA : Arr W b 3 (tab n r) := hr.grown hW (fun e => hbg (by have := Option.some.inj e; omega))
  have := cmpFn_any s b bx n M x.toNat y.toNat r W hs hn hM (by omega) (by omega) hA hcell
  rw [ex, ey] at this
  refine this.mono ?_
  rintro e w' ⟨rfl, hbel⟩
  refine ⟨_, rfl, ?_, hbel⟩
  rw [cmpI_eq]
  have sp := (kcmp_spec (x := x.toNat) (y := y.toNat) hc hk (by omega) (by omega)).1
  by_cases h : ltm c (max (2 * M) 1) x.toNat y.toNat
  · rw [(kltB_iff _ _ _ _).2 h]; exact decide_eq_true (sp.2 h)
  · have : kltB c (max (2 * M) 1) x y = false := by
      cases hk' : kltB c (max (2 * M) 1) x y with
      | false => rfl
      | true => exact absurd ((kltB_iff _ _ _ _).1 hk') h
    rw [this]; exact decide_eq_false (fun h' => h (sp.1 h'))

set_option maxRecDepth 100000 in
theorem sort_any (s : ByteArray) (b g cap n M : Nat) (r : Nat → Int) (w : World) (c : Nat → Nat) (hs : s.size = n) (hn : n ≤ 1000000) (hM : M ≤ 4000000) (hr : Arr w b 3 (tab n r)) (hbg : b ≠ g) (hd : Dat w g cap n (fun k => (k : Int))) (hcap : cap ≤ maxLen)
    (hc : Cyc c n) (hk : RankOK c n (max M 1) r) :
    Calls Try.prog 34 #[.slice (some ⟨g, 0, none⟩) n cap, sorterV s b n M] w fun e w' =>
      e = .returned (.tuple #[]) ∧ (∃ h, Ord c n (max (2 * M) 1) h ∧ Dat w' g cap n h) ∧ w.grownBy w' (some g) := by
  have hg := hd.lt
  have hN := belowNew w (.cells #[sorterV s b n M] 55)
  have hok := cmpOK_of (bx := w.heap.size) hs hn hM (hr.alloc (.cells #[sorterV s b n M] 55)) hbg (by omega) (newc w (sorterV s b n M) 55) hc hk
  have hst := sortStable_any g cap n w.heap.size (fun k => (k : Int)) _ (bef c (max (2 * M) 1)) _ (hd.below hN hg) hn hcap (fun k hk => by show 0 ≤ (k : Int) ∧ (k : Int) < (n : Int); omega) (fun i j _ h2 _ => by show (i : Int) < (j : Int); omega) hok (kltB_cmp c _)
  unfold maxLen at hcap
  unfold cmpV at hst
  have HST := hid hst
  have HN := hid hN
  have HD := hid hd
  clear hst hok hN hk hc hr hd
  unfold sorterV at HST HN ⊢
  obtain ⟨rv, hrv⟩ : ∃ rv, rv = ranksV s b n M := ⟨_, rfl⟩
  rw [← hrv] at HST HN ⊢
  clear hrv
  go_enter Try.func34, Try.ntmps34
  go_wp2_with fail
  refine HST.out.mono ?_
  rintro e w1 ⟨rfl, ⟨h, hB, hD⟩, hG⟩
  go_wp2
  go_end0
  refine ⟨rfl, ⟨h, ⟨fun k hk => ?_, hB.srt⟩, hD⟩, gTrans (gBelow HN.out) hG⟩
  obtain ⟨k', _, p2, p3⟩ := hB.frm k (Nat.zero_le _) hk
  rw [p3]; show 0 ≤ (k' : Int) ∧ (k' : Int) < (n : Int); omega

end Go.Proofs.Ythjmpiekjfnoiaa
