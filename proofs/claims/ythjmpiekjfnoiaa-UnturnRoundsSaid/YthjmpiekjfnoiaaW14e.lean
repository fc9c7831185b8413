/-
  The walk of the program's Cycles: its rounds are gone through by a goto.
-/
import Derived.Test.YthjmpiekjfnoiaaW14d
namespace Go.Proofs.Ythjmpiekjfnoiaa
open Go.RowKit

theorem mark_self (s : List UInt8) (f : Nat) : markB s (f + 1) f = true := by
  simp only [markB, decide_eq_true_eq]; exact ⟨f, by omega, 0, rfl⟩

theorem boolRow (n : Nat) (b : Nat → Bool) (k : Nat) (h : k < n) : ((List.range n).map fun j => Value.bool (b j))[k]? = some (.bool (b k)) := by simp [h]
theorem boolRow_set (n : Nat) (b b' : Nat → Bool) (k : Nat) (v : Bool) (h : ∀ j, b' j = if j = k then v else b j) : ((List.range n).map fun j => Value.bool (b j)).set k (.bool v) = (List.range n).map fun j => Value.bool (b' j) := by
  apply List.ext_getElem?
  intro j
  by_cases hj : j < n
  · by_cases hij : k = j
    · subst hij; simp [hj, h]
    · rw [List.getElem?_set_ne hij, boolRow n b j hj, boolRow n b' j hj, h, if_neg (fun e => hij e.symm)]
  · rw [List.getElem?_eq_none (by simp; omega), List.getElem?_eq_none (by simp; omega)]

def CycJ (s : ByteArray) (w : World) (g : Nat) (a : Act) (wr : World) : Prop :=
  ∃ (c fi : Int) (w1 : World) (va : Option Addr) (vc hb first f : Nat) (u5 u7 u8 u9 u10 u11 u12 u13 u14 u15 u16 u17 u18 u19 u20 u21 u22 u23 u24 u25 u26 u27 u28 u29 u30 u31 u32 u33 u34 u35 u36 u37 : Value),
    a = { tmps := #[.string s, undef, .int .i64 c, .slice va s.size vc, .slice (some ⟨hb, 0, none⟩) s.size s.size, u5, .int .i64 fi, u7, u8, u9, u10, u11, u12, u13, u14, u15, u16, u17, u18, u19, u20, u21, u22, u23, u24, u25, u26, u27, u28, u29, u30, u31, u32, u33, u34, u35, u36, u37], defers := [] } ∧
    RdI w1 (.slice va s.size vc) (vecI s.data.toList) ∧ w1.heap.size ≤ hb ∧ w.heap.size ≤ w1.heap.size ∧ Below w.heap.size w wr ∧ Below w1.heap.size w1 wr ∧
    Arr wr hb 4 ((List.range s.size).map fun j => .bool (markB s.data.toList f j)) ∧ f ≤ s.size ∧ (f = first ∨ f = first + 1) ∧ g = 2 * (s.size - first) + (if f = first then 1 else 0) ∧ c = ((cycTo s.data.toList f : Nat) : Int) ∧ fi = (first : Int)

set_option maxRecDepth 100000 in
set_option maxHeartbeats 800000 in
theorem cycles_any (s : ByteArray) (w : World) (hs : s.size ≤ 1000000000) :
    Calls Try.prog 20 #[.string s] w fun e w' =>
      e = .returned (.int .i64 ((cyc s.data.toList : Nat) : Int)) ∧ Below w.heap.size w w' := by
  have hl0 : s.data.toList.length = s.size := by simp
  have HL := hid hl0
  clear hl0
  go_enter Try.func20, Try.ntmps20
  go_wp2
  refine wp_scope_ghost 0 (CycJ s w) rfl ?_ ?_
  · rintro g a wr ⟨_, _, w1, va, vc, hb, first, f, u5, u7, u8, u9, u10, u11, u12, u13, u14, u15, u16, u17, u18, u19, u20, u21, u22, u23, u24, u25, u26, u27, u28, u29, u30, u31, u32, u33, u34, u35, u36, u37, rfl, hv, hh, hh0, hbel, hbel1, harr, hf, hff, hg, rfl, rfl⟩
    have HV := hid hv
    have HFF := hid hff
    have HG := hid hg
    have hff' : first ≤ f := by omega
    clear hv hff hg
    by_cases hend : first = s.size
    · have ht : ((first : Int) == (s.size : Int)) = true := by simp; omega
      have HE := hid hend
      clear hend
      go_wp2
      simp only [Exit.jump]
      go_ret
      have e := HE.out
      have e2 : f = s.size := by omega
      exact ⟨ret_int (by rw [cyc, HL.out, e2]), hbel⟩
    · have ht : ((first : Int) == (s.size : Int)) = false := by simp; omega
      have hlt : first < s.size := by omega
      have c1 := harr.cell (boolRow s.size (markB s.data.toList f) first hlt)
      clear hend
      by_cases hm : markB s.data.toList f first = true
      · rw [hm] at c1
        have HM := hid hm
        clear hm
        go_wp2
        go_step3
        have hff := HFF.out
        have hg := HG.out
        have hf' : f = first + 1 ∨ (cycTo s.data.toList (first + 1) = cycTo s.data.toList f ∧ markB s.data.toList (first + 1) = markB s.data.toList f ∧ f = first) := by
          rcases hff with h | h
          · right
            have hm := HM.out
            rw [h] at hm ⊢
            have hl := mark_least s.data.toList first (by rw [HL.out]; exact hlt)
            rw [hm] at hl
            refine ⟨?_, mark_same _ _ hm, rfl⟩
            rw [cycTo_succ, if_neg]
            · rfl
            · intro h'; rw [h'] at hl; cases hl
          · left; exact h
        have hcnt : cycTo s.data.toList f = cycTo s.data.toList (first + 1) := by
          rcases hf' with h | ⟨h1, h2, h3⟩
          · rw [h]
          · rw [h1]
        have hmrk : markB s.data.toList f = markB s.data.toList (first + 1) := by
          rcases hf' with h | ⟨h1, h2, h3⟩
          · rw [h]
          · rw [h2]
        rw [hcnt]
        rw [hmrk] at harr
        refine ⟨rfl, 2 * (s.size - (first + 1)) + 1, ?_, _, _, w1, va, vc, hb, first + 1, first + 1, _, _, _, _, _, _, _, _, _, _, _, _, _, _, _, _, _, _, _, _, _, _, _, _, _, _, _, _, _, _, _, _, rfl, HV.out, hh, hh0, hbel, hbel1, harr, by omega, .inl rfl, by simp, rfl, by simp⟩
        rcases hff with h | h
        · rw [if_pos h] at hg; omega
        · rw [if_neg (by omega)] at hg; omega
      · have hm0 : markB s.data.toList f first = false := by simpa using hm
        rw [hm0] at c1
        have hf1 : f = first := by
          rcases HFF.out with h | h
          · exact h
          · rw [h, mark_self] at hm0; cases hm0
        subst hf1
        have HM := hid hm0
        have hcl := cycTo_le s.data.toList f
        obtain ⟨p, p1, p2, p3⟩ := period s.data.toList f (by rw [HL.out]; exact hlt)
        have HP := hid p3
        have hfl : f < s.data.toList.length := by rw [HL.out]; exact hlt
        have HFL := hid hfl
        clear hm hm0 p3 hfl
        obtain ⟨wo, rfl⟩ : ∃ wo : World, wo = wr := ⟨_, rfl⟩
        go_wp2
        go_loopg [5] p (fun g at_ wr => ∃ k : Nat, k ≤ p ∧ g = p - k ∧ at_ = .int .i64 ((walkN s.data.toList k f : Nat) : Int) ∧ Arr wr hb 4 ((List.range s.size).map fun j => .bool (markTo s.data.toList f k j)) ∧ Below w.heap.size w wr ∧ Below w1.heap.size w1 wr)
        case atStart => exact ⟨0, Nat.zero_le _, rfl, rfl, by rw [markTo_zero]; exact harr, hbel, hbel1⟩
        case round =>
          clear harr hbel hbel1 c1
          obtain ⟨k, hk, hg2, rfl, harr, hbel, hbel1⟩ := hrel
          have hkl := walkN_lt s.data.toList f HFL.out k
          rw [HL.out] at hkl
          have c1 := harr.cell (boolRow s.size (markTo s.data.toList f k) (walkN s.data.toList k f) hkl)
          have f1 := harr.free (walkN s.data.toList k f)
          by_cases hmk : markTo s.data.toList f k (walkN s.data.toList k f) = true
          · have HA := hid (markTo_all s.data.toList f k HFL.out HM.out hmk)
            rw [hmk] at c1
            have hg := HG.out
            have hle := mark_least s.data.toList f HFL.out
            rw [HM.out] at hle
            have hle' : leastB s.data.toList f = true := by
              cases h : leastB s.data.toList f
              · rw [h] at hle; cases hle
              · rfl
            have HS := hid (show cycTo s.data.toList (f + 1) = cycTo s.data.toList f + 1 from by rw [cycTo_succ, if_pos hle'])
            clear hmk hg hle hle'
            go_wp2
            go_step3
            rw [show (((cycTo s.data.toList f : Nat) : Int) + 1) = ((cycTo s.data.toList (f + 1) : Nat) : Int) from by rw [HS.out]; rfl]
            rw [HA.out] at harr
            refine ⟨rfl, 2 * (s.size - f), ?_, _, _, w1, va, vc, hb, f, f + 1, _, _, _, _, _, _, _, _, _, _, _, _, _, _, _, _, _, _, _, _, _, _, _, _, _, _, _, _, _, _, _, _, rfl, HV.out, hh, hh0, hbel, hbel1, harr, by omega, .inr rfl, by simp, rfl, rfl⟩
            rw [HG.out]; simp
          · have hmk0 : markTo s.data.toList f k (walkN s.data.toList k f) = false := by simpa using hmk
            have hkp : k ≠ p := fun e => by
              rw [e, HP.out] at hmk
              refine hmk ?_
              simp only [markTo, decide_eq_true_eq]
              exact .inr ⟨0, by omega, rfl⟩
            rw [hmk0] at c1
            obtain ⟨b1, o1, rfl, hb1, hc1⟩ : ∃ b off, va = some ⟨b, off, none⟩ ∧ b < w1.heap.size ∧ ∀ j x, (vecI s.data.toList)[j]? = some x → w1.cell? ⟨b, off + j, none⟩ = some (.int .i64 x) := by
              obtain ⟨va', vc', e, _, _, h⟩ := HV.out.open
              obtain ⟨b1, o1, h1, h2⟩ := h (by rw [vecI_length, HL.out]; omega)
              refine ⟨b1, o1, ?_, h2⟩
              simp only [Value.slice.injEq] at e
              rw [e.1]; exact h1
            have c2 : wr.cell? ⟨b1, o1 + walkN s.data.toList k f, none⟩ = some (.int .i64 ((walkN s.data.toList (k + 1) f : Nat) : Int)) := by
              rw [hbel1.cell (p := ⟨b1, o1 + walkN s.data.toList k f, none⟩) hb1]
              exact hc1 _ _ (vecI_get _ _ (by rw [HL.out]; exact hkl))
            have hne : b1 ≠ hb := by omega
            clear hc1 hmk hmk0
            go_wp2
            go_roundg (p - (k + 1))
            case measure => omega
            case rel =>
              refine ⟨k + 1, by omega, rfl, rfl, ?_, hbel.setCell (by simp; omega) _, hbel1.setCell (by simp; omega) _⟩
              have := harr.set (walkN s.data.toList k f) (.bool true)
              rw [boolRow_set s.size _ (markTo s.data.toList f (k + 1)) _ true (fun j => markTo_succ _ _ _ _)] at this
              exact this
  · intro hkey
    go_wp2_with fail
    refine (vector_any s _ hs).mono ?_
    rintro e w1 ⟨v, rfl, hv, hB⟩
    have hv' := hv.rd
    obtain ⟨va, vc, rfl, hvc, hvm, hvA⟩ := hv.rd.open
    rw [vecI_length, HL.out] at hvA hvc hv' ⊢
    simp only [maxLen] at hvm
    clear hv hvA
    have HV := hid hv'
    clear hv'
    go_wp2_with (at_make; refine mkA elBool rfl _ _ rfl s.size rfl rfl ?_ ?_; omega)
    go_step3
    go_step
    go_step
    refine hkey.out (2 * s.size + 1) _ _ ⟨0, 0, w1, va, vc, _, 0, 0, _, _, _, _, _, _, _, _, _, _, _, _, _, _, _, _, _, _, _, _, _, _, _, _, _, _, _, _, _, _, _, _, rfl, HV.out, Nat.le_refl _, hB.size, hB.alloc (by have := hB.size; omega) _, (Below.refl _ _).alloc (Nat.le_refl _) _, ?_, Nat.zero_le _, .inl rfl, by simp, by simp [cycTo], by simp⟩
    have := Arr.made w1 4 (.bool false) s.size
    rwa [show List.replicate s.size (Value.bool false) = (List.range s.size).map fun j => .bool (markB s.data.toList 0 j) from by
      apply List.ext_getElem?
      intro j
      by_cases hj : j < s.size
      · rw [boolRow _ _ _ hj]
        have : markB s.data.toList 0 j = false := by simp [markB, Reached]
        simp [hj, this]
      · rw [List.getElem?_eq_none (by simp; omega), List.getElem?_eq_none (by simp; omega)]] at this
end Go.Proofs.Ythjmpiekjfnoiaa
