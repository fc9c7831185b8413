/-
  What the walks of chapter 17's statements share.
-/
import Derived.Test.YtpgmbhpbgkljdaaGreatDoorLaw17wZ
set_option linter.unusedVariables false
set_option linter.unusedSimpArgs false
namespace Go.Proofs.YtpgmbhpbgkljdaaGreatDoor
open Go.RowKit Go Go.Shelf

theorem RdP.nil (w : World) : RdP w (.slice none 0 0) [] := ⟨none, 0, rfl, Nat.le_refl _, by simp [maxLen], fun h => absurd h (by simp)⟩
theorem WfP.nil : WfP [] := by intro p hp; simp at hp
/-- A number of a level. -/
theorem lev_any (c : Int) (h1 : -9223372036854775808 ≤ c) (h2 : c ≤ 9223372036854775807) : ∃ q R : Nat, 1 ≤ R ∧ R ≤ 9 ∧ IntKind.i64.wrap (1 + (q : Int)) = (R : Int) ∧ 1 + (q : Int) = (R : Int) ∧ ∀ W, Calls Tryz.prog 18 #[.int .i64 c, .int .i64 9] W fun e w' => e = .returned (.int .i64 (q : Int)) ∧ W = w' := by
  obtain ⟨p1, p2⟩ := vU c 9 (by decide)
  obtain ⟨q, hq⟩ : ∃ q : Nat, gA c 9 = (q : Int) := ⟨_, (Int.toNat_of_nonneg p1).symm⟩
  refine ⟨q, 1 + q, by omega, by omega, by rw [show 1 + (q : Int) = ((1 + q : Nat) : Int) by push_cast; rfl]; exact nat_wI _ (by omega), by push_cast; rfl, fun W => ?_⟩
  have h := pick17_any c 9 W h1 h2 (by decide) (by decide)
  rw [hq] at h
  exact h
/-- A quotient is a number. -/
theorem tdiv_bd (o : Int) (k : Nat) (hk : 2 ≤ k) (h1 : -9223372036854775808 ≤ o) (h2 : o ≤ 9223372036854775807) : -9223372036854775808 ≤ o.tdiv (k : Int) ∧ o.tdiv (k : Int) ≤ 9223372036854775807 ∧ IntKind.i64.wrap (o.tdiv (k : Int)) = o.tdiv (k : Int) := by
  have h := Int.natAbs_tdiv o (k : Int)
  rw [Int.natAbs_natCast] at h
  have h3 : o.natAbs.div k ≤ o.natAbs / 2 := Nat.div_le_div_left hk (by decide)
  rw [← h] at h3
  have h4 : -9223372036854775808 ≤ o.tdiv (k : Int) ∧ o.tdiv (k : Int) ≤ 9223372036854775807 := by omega
  refine ⟨h4.1, h4.2, ?_⟩
  rw [IntKind.wrap_i64]; omega
theorem catT_join (x y : List ByteArray) : catT x ++ catT y = catT (x ++ y) := by
  refine ByteArray.ext (Array.toList_inj.1 ?_)
  rw [catT_append, ByteArray.data_append, Array.toList_append]
theorem catT_size {l : List ByteArray} (hf : fineT l) : (catT l).size ≤ 360 * l.length := by
  induction l with
  | nil => exact Nat.le_refl _
  | cons t l ih =>
    have e := congrArg List.length (catT_append [t] l)
    have h1 := ih (fun u hu => hf u (List.mem_cons_of_mem _ hu))
    have h2 := (hf t (List.mem_cons_self ..)).2.2
    have hs : (catT [t]).data.toList.length = t.size := by unfold catT; simp
    rw [List.length_append, hs] at e
    have e1 : (catT ([t] ++ l)).data.toList.length = (catT (t :: l)).size := by simp
    have e2 : (catT l).data.toList.length = (catT l).size := by simp
    rw [List.length_cons]
    omega

end Go.Proofs.YtpgmbhpbgkljdaaGreatDoor
