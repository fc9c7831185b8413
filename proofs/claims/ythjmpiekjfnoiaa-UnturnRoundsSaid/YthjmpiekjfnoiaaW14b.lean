/-
  The walks of Back, of the program and of the document's own answer.
-/
import Derived.Test.YthjmpiekjfnoiaaW14
import Derived.Test.YthjmpiekjfnoiaaM14b
namespace Go.Proofs.Ythjmpiekjfnoiaa
open Go.RowKit

theorem ret2 {a b c d : Value} (h1 : a = c) (h2 : b = d) : Ending.returned (.tuple #[a, b]) = .returned (.tuple #[c, d]) := by rw [h1, h2]
theorem vecI_get (s : List UInt8) (k : Nat) (h : k < s.length) : (vecI s)[k]? = some ((nxt s k : Nat) : Int) := by
  unfold vecI nxt
  have : k < (vec s).length := by rw [vec_length]; exact h
  simp [List.getD, List.getElem?_eq_getElem this]
theorem vecI_length (s : List UInt8) : (vecI s).length = s.length := by simp [vecI, vec_length]
theorem getD_at (s : ByteArray) (k : Nat) (h : k < s.size) : s.data.toList.getD k 0 = s[k] := by
  simp [List.getD, byteAt s k h]

set_option maxRecDepth 100000 in
set_option maxHeartbeats 800000 in
theorem back_any (s : ByteArray) (o : Int) (w : World) (hs : s.size ≤ 1000000000) (ho1 : -9223372036854775808 ≤ o) (ho2 : o ≤ 9223372036854775807) :
    Calls Try.prog 23 #[.string s, .int .i64 o] w fun e w' =>
      e = .returned (.tuple #[.string (mkS (backText s.data.toList o)), .int .i64 (backErr s.data.toList o)]) ∧ Below w.heap.size w w' := by
  have hl0 : s.data.toList.length = s.size := by simp
  have HL := hid hl0
  by_cases hok : backOk s.data.toList o = true
  case neg =>
    have h0 : backOk s.data.toList o = false := by simpa using hok
    have hfin : backText s.data.toList o = [] ∧ backErr s.data.toList o = 1 := by simp [backText, backErr, h0]
    have HF := hid hfin
    unfold backOk at h0
    rw [hl0] at h0
    clear hfin hok hl0
    by_cases hneg : o < 0
    · clear h0
      have hd : decide (o < 0) = true := by simpa using hneg
      go_enter Try.func23, Try.ntmps23
      go_wp2
      go_ret2
      exact ⟨ret2 (by rw [HF.out.1]; rfl) (by rw [HF.out.2]; rfl), Below.refl _ _⟩
    · have h1 : (max (s.size : Int) 1) ≤ o := by simp at h0; omega
      have h2 : decide (max (s.size : Int) 1 ≤ o) = true := by simpa using h1
      have hd : decide (o < 0) = false := by simpa using hneg
      clear h0 h2
      go_enter Try.func23, Try.ntmps23
      go_wp2
      all_goals go_ret2
      all_goals exact ⟨ret2 (by rw [HF.out.1]; rfl) (by rw [HF.out.2]; rfl), Below.refl _ _⟩
  case pos =>
    have h0 := hok
    unfold backOk at h0
    rw [hl0] at h0
    have h1 : 0 ≤ o ∧ o < max (s.size : Int) 1 := by simpa using h0
    obtain ⟨n, rfl⟩ := Int.eq_ofNat_of_zero_le h1.1
    have hfin : backText s.data.toList n = backTo s.data.toList n s.size ∧ backErr s.data.toList n = 0 := by
      simp [backText, backErr, hok, back_eq]
    have HF := hid hfin
    have hlt : n < s.size ∨ (s.size = 0 ∧ n = 0) := by omega
    clear hfin hok hl0 h0 h1 ho1 ho2
    have hd : decide ((n : Int) < 0) = false := by simp
    have HN := hid (show 0 < s.size → n < s.size from fun h => by omega)
    have hlt' : n < s.size ∨ s.size ≤ 0 ∧ n ≤ 0 := by omega
    clear hlt
    rcases hlt' with hlt | ⟨hlt, hlt2⟩
    · go_enter Try.func23, Try.ntmps23
      go_wp2_with fail
      refine (vector_any s _ hs).mono ?_
      rintro e w1 ⟨v, rfl, hv, hB⟩
      obtain ⟨va, vc, rfl, hvc, hvm, hvA⟩ := hv.rd.open
      rw [vecI_length, HL.out] at hvA hvc ⊢
      simp only [maxLen] at hvm
      clear hv
      go_wp2_with (at_make; refine mkA elByte rfl _ _ rfl s.size rfl rfl ?_ ?_; omega)
      go_loopg [8, 27] s.size (fun g at_ i wr => ∃ k : Nat, k ≤ s.size ∧ g = s.size - k ∧ i = .int .i64 k ∧ at_ = .int .i64 ((walkN s.data.toList k n : Nat) : Int) ∧ Arr wr w1.heap.size 5 (bytesV (fill s.size 0 (backTo s.data.toList n k))) ∧ Below w.heap.size w wr ∧ Below w1.heap.size w1 wr)
      case atStart =>
        refine ⟨0, Nat.zero_le _, rfl, rfl, rfl, ?_, hB.alloc (by have := hB.size; omega) _, (Below.refl _ _).alloc (Nat.le_refl _) _⟩
        have := Arr.made w1 5 (.int .u8 0) s.size
        rwa [show List.replicate s.size (Value.int .u8 0) = bytesV (fill s.size 0 (backTo s.data.toList n 0)) from by simp [bytesV, fill, backTo]] at this
      case round =>
        obtain ⟨k, hk, hg, rfl, rfl, harr, hbel, hbel1⟩ := hrel
        by_cases hlk : k < s.size
        · have hn := HN.out (by omega)
          have hat := walkN_lt s.data.toList n (by rw [HL.out]; exact hn) k
          have hat1 := walkN_lt s.data.toList n (by rw [HL.out]; exact hn) (k + 1)
          rw [HL.out] at hat hat1
          obtain ⟨b1, o1, rfl, hb1, hc1⟩ := hvA (by omega)
          have c1 : wr.cell? ⟨b1, o1 + walkN s.data.toList k n, none⟩ = some (.int .i64 ((walkN s.data.toList (k + 1) n : Nat) : Int)) := by
            rw [hbel1.cell (p := ⟨b1, o1 + walkN s.data.toList k n, none⟩) hb1]
            exact hc1 _ _ (vecI_get _ _ (by rw [HL.out]; exact hat))
          have HBY := hid (byteAt s _ hat1)
          have hb : s[walkN s.data.toList (k + 1) n].toNat < 256 := UInt8.toNat_lt _
          obtain ⟨x, hx⟩ := fill_lt s.size (0 : UInt8) (backTo s.data.toList n k) k hlk (by rw [backTo_length]; omega)
          have c2 := harr.cell (bytesV_get hx)
          have f2 := harr.free k
          have HG := hid hg
          clear hx hvA hc1 hg
          go_wp2
          have hg := HG.out
          go_roundg (s.size - (k + 1))
          case measure => omega
          case rel =>
            refine ⟨k + 1, by omega, rfl, by go_num, rfl, ?_, hbel.setCell (by have := hB.size; simp; omega) _, hbel1.setCell (by simp) _⟩
            have := harr.set k (.int .u8 ((s[walkN s.data.toList (k + 1) n].toNat : Nat) : Int))
            rw [bytesV_set] at this
            have e := fill_set s.size (0 : UInt8) s[walkN s.data.toList (k + 1) n] (backTo s.data.toList n k) (by rw [backTo_length]; exact hlk)
            rw [backTo_length, ← getD_at s _ hat1, ← backTo_succ] at e
            rw [← getD_at s _ hat1, e] at this
            rw [← getD_at s _ hat1]
            exact this
        · have hk' : k = s.size := by omega
          rw [hk', fill_full _ _ _ (by rw [backTo_length]; exact Nat.le_refl _)] at harr
          have hcv := conv_bytes (harr.rdB (n := s.size) (by rw [backTo_length]) (by simp only [maxLen]; omega))
          clear hk' hg
          go_wp2
          go_ret2
          exact ⟨ret2 (by rw [HF.out.1]; rfl) (by rw [HF.out.2]; rfl), hbel⟩

    · go_enter Try.func23, Try.ntmps23
      go_wp2_with fail
      refine (vector_any s _ hs).mono ?_
      rintro e w1 ⟨v, rfl, hv, hB⟩
      obtain ⟨va, vc, rfl, hvc, hvm, hvA⟩ := hv.rd.open
      rw [vecI_length, HL.out] at hvA hvc ⊢
      simp only [maxLen] at hvm
      clear hv
      go_wp2_with (at_make; refine mkA elByte rfl _ _ rfl s.size rfl rfl ?_ ?_; omega)
      go_loopg [8, 27] s.size (fun g at_ i wr => ∃ k : Nat, k ≤ s.size ∧ g = s.size - k ∧ i = .int .i64 k ∧ at_ = .int .i64 ((walkN s.data.toList k n : Nat) : Int) ∧ Arr wr w1.heap.size 5 (bytesV (fill s.size 0 (backTo s.data.toList n k))) ∧ Below w.heap.size w wr ∧ Below w1.heap.size w1 wr)
      case atStart =>
        refine ⟨0, Nat.zero_le _, rfl, rfl, rfl, ?_, hB.alloc (by have := hB.size; omega) _, (Below.refl _ _).alloc (Nat.le_refl _) _⟩
        have := Arr.made w1 5 (.int .u8 0) s.size
        rwa [show List.replicate s.size (Value.int .u8 0) = bytesV (fill s.size 0 (backTo s.data.toList n 0)) from by simp [bytesV, fill, backTo]] at this
      case round =>
        obtain ⟨k, hk, hg, rfl, rfl, harr, hbel, hbel1⟩ := hrel
        have hk' : k = s.size := by omega
        rw [hk', fill_full _ _ _ (by rw [backTo_length]; exact Nat.le_refl _)] at harr
        have hcv := conv_bytes (harr.rdB (n := s.size) (by rw [backTo_length]) (by simp only [maxLen]; omega))
        clear hk' hg
        go_wp2
        go_ret2
        exact ⟨ret2 (by rw [HF.out.1]; rfl) (by rw [HF.out.2]; rfl), hbel⟩

end Go.Proofs.Ythjmpiekjfnoiaa
