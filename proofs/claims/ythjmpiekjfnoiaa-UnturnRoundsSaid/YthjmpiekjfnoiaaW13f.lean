/-
  The walks of a turn, and of Forward.
-/
import Derived.Test.YthjmpiekjfnoiaaW13d
namespace Go.Proofs.Ythjmpiekjfnoiaa
open Go.RowKit

/-- A text's turn at a place. -/
def rot (s : ByteArray) (k : Nat) : List UInt8 := s.data.toList.drop k ++ s.data.toList.take k
theorem rot_length (s : ByteArray) (k : Nat) (h : k ≤ s.size) : (rot s k).length = s.size := by
  simp [rot]; omega
theorem rot_get (s : ByteArray) (k i : Nat) (hk : k < s.size) (hi : i < s.size) : (rot s k)[i]? = some (s.data.toList.getD ((k + i) % s.size) 0) := by
  have hl : s.data.toList.length = s.size := by simp
  unfold rot
  rcases Nat.lt_or_ge i (s.size - k) with h | h
  · rw [List.getElem?_append_left (by rw [List.length_drop]; omega), List.getElem?_drop, Nat.mod_eq_of_lt (by omega), List.getD, List.getElem?_eq_getElem (by omega)]; rfl
  · rw [List.getElem?_append_right (by rw [List.length_drop]; omega), List.length_drop, List.getElem?_take_of_lt (by omega), hl]
    have e : (k + i) % s.size = i - (s.size - k) := by
      rw [Nat.mod_eq_sub_mod (by omega), Nat.mod_eq_of_lt (by omega)]; omega
    rw [e, List.getD, List.getElem?_eq_getElem (by omega)]; rfl
theorem rot_ext (s : ByteArray) (k : Nat) : s.extract k s.size ++ s.extract 0 k = mkS (rot s k) := by
  rw [ext_data, ext_data, mkS_append]
  unfold rot
  rw [List.drop_zero, Nat.sub_zero, List.take_of_length_le (by simp)]

set_option maxRecDepth 100000 in
theorem turn_any (s : ByteArray) (k : Nat) (w : World) (hn : s.size ≤ 1000000) (hk : k ≤ s.size) :
    Calls Try.prog 31 #[.agg #[.string s], .int .i64 (k : Int)] w fun e w' => e = .returned (.string (mkS (rot s k))) ∧ Below w.heap.size w w' := by
  have e := rot_ext s k
  have HE := hid e
  clear e
  go_enter Try.func31, Try.ntmps31
  go_wp2
  go_quiet (fail)
  go_wp2
  go_ret
  exact ⟨ret_str HE.out, bDrewN (belowNew _ _) _⟩

set_option maxRecDepth 100000 in
theorem refTurn_any (s : ByteArray) (k : Nat) (w : World) (hn : s.size ≤ 1000000) (hk : k ≤ s.size) :
    Calls Try.prog 32 #[.string s, .int .i64 (k : Int)] w fun e w' => e = .returned (.string (mkS (rot s k))) ∧ Below w.heap.size w w' := by
  have e := rot_ext s k
  have HE := hid e
  clear e
  go_enter Try.func32, Try.ntmps32
  go_wp2
  go_quiet (fail)
  go_wp2
  go_ret
  exact ⟨ret_str HE.out, bDrewN (Below.refl _ _) _⟩

/-- The bytes ahead of the places of an order. -/
def lastTo (s : ByteArray) (o : Nat → Int) (k : Nat) : List UInt8 := (List.range k).map (fun i => s.data.toList.getD (((o i).toNat + (s.size - 1)) % s.size) 0)
theorem lastTo_length (s : ByteArray) (o : Nat → Int) (k : Nat) : (lastTo s o k).length = k := by simp [lastTo]
theorem lastTo_succ (s : ByteArray) (o : Nat → Int) (k : Nat) : lastTo s o (k + 1) = lastTo s o k ++ [s.data.toList.getD (((o k).toNat + (s.size - 1)) % s.size) 0] := by simp [lastTo, List.range_succ]
/-- Where an order has place 0. -/
def origTo (o : Nat → Int) : Nat → Nat
  | 0 => 0
  | k + 1 => if o k = 0 then k else origTo o k
theorem origTo_le (o : Nat → Int) : ∀ k, origTo o k ≤ k := by
  intro k
  induction k with
  | zero => exact Nat.le_refl _
  | succ k ih => unfold origTo; by_cases h : o k = 0
                 · rw [if_pos h]; omega
                 · rw [if_neg h]; omega

theorem appB {ops : Array Oper} {rest : List Oper} {o : Oper} {a : Act} {Q : Exit → Act → World → Prop} {w : World} (hgd : o.guard = none) (s x : Operand)
    (ho : o.op = .call { callee := .builtin .append, args := #[s, x], argTypes := #[40, 40] }) (base : Nat) (v : Value) (l : List UInt8) (hs : a.eval s = v) (hown : OwB w base v l)
    (g : Nat) (b : UInt8) (hx : a.eval x = .slice (some ⟨g, 0, none⟩) 1 1) (hc : w.cell? ⟨g, 0, none⟩ = some (.int .u8 (b.toNat : Int))) (hroom : (l.length + 1) * 1 ≤ 140737488355328) (hbase : base ≤ w.heap.size)
    (h : ∀ v' w', OwB w' base v' (l ++ [b]) → Below base w w' → w.grownBy w' v.ownBlock → wpList Try.prog ops Q rest (a.put o.dst v') w') : wpList Try.prog ops Q (o :: rest) a w :=
  appO elByte hgd s x ho base v _ hs hown g _ hx hc rfl (by simpa using hroom) hbase (fun v' w' q1 q2 q3 => h v' w' (by unfold OwB; rw [bytesV_append]; exact q1) q2 q3)

set_option maxRecDepth 100000 in
set_option maxHeartbeats 1600000 in
theorem forward_any (s : ByteArray) (w : World) (hn : s.size ≤ 1000000) :
    Calls Try.prog 26 #[.string s] w fun e w' =>
      ∃ o, Ord (cycf s) s.size s.size o ∧ e = .returned (.tuple #[.string (mkS (lastTo s o s.size)), .int .i64 ((origTo o s.size : Nat) : Int)]) ∧ Below w.heap.size w w' := by
  go_enter Try.func26, Try.ntmps26
  go_wp2_with fail
  refine (order_any s _ hn).mono ?_
  rintro e w1 ⟨v, o, rfl, hO, hown, hbel⟩
  obtain ⟨a, cap, rfl, hca, hma, hA⟩ := hown.rd.open
  rw [outL_length] at hca hA ⊢
  unfold maxLen at hma
  have HO := hid hO
  have HA := hid hA
  clear hO hA hown
  go_wp2_with fail
  go_loopg [3, 4, 5, 6, 7, 11] s.size (fun gh s3 s4 _s5 _s6 _s7 s11 wr => ∃ k : Nat, k ≤ s.size ∧ gh = s.size - k ∧ s11 = .int .i64 k ∧ s3 = .int .i64 ((origTo o k : Nat) : Int) ∧ OwB wr w1.heap.size s4 (lastTo s o k) ∧ Below w1.heap.size w1 wr)
  case atStart => exact ⟨0, Nat.zero_le _, rfl, rfl, rfl, Ow.nil _ _ _, Below.refl _ _⟩
  case round =>
    obtain ⟨k, hk, hg, rfl, rfl, hown, hbel1⟩ := hrel
    have HG := hid hg
    clear hg
    by_cases hlt : k < s.size
    · obtain ⟨b, off, rfl, hbl, hc⟩ := HA.out (by omega)
      have hok := HO.out.rng k hlt
      obtain ⟨kk, hkk⟩ : ∃ kk, kk = (o k).toNat := ⟨_, rfl⟩
      have ek : o k = (kk : Int) := by omega
      have hkn : kk < s.size := by omega
      have c1 := (hbel1.cell (p := ⟨b, off + k, none⟩) hbl).trans (hc k _ (outL_get _ _ _ hlt))
      rw [ek] at c1
      have EK := hid ek
      have HKK := hid hkk
      clear ek hkk hok hc
      go_wp2_with fail
      refine (turn_any s kk _ hn (by omega)).mono ?_
      rintro e w2 ⟨rfl, hb2⟩
      obtain ⟨t, ht⟩ : ∃ t, t = mkS (rot s kk) := ⟨_, rfl⟩
      rw [← ht]
      have hts : t.size = s.size := by rw [ht, mkS_size, rot_length _ _ (by omega)]
      obtain ⟨d, hd⟩ : ∃ d, d = s.size - 1 := ⟨_, rfl⟩
      have hdn : d < s.size := by omega
      have hdt : d < t.size := by omega
      have ed : (s.size : Int) - 1 = (d : Int) := by omega
      have hbyte : t[d] = s.data.toList.getD ((kk + d) % s.size) 0 := by
        have h1 := byteAt t d hdt
        rw [show t.data.toList = rot s kk by rw [ht]; rfl, rot_get s kk d hkn hdn] at h1
        exact (Option.some.inj h1).symm
      have HBY := hid hbyte
      have HD := hid hd
      have hb := t[d].toNat_lt
      have hown2 := hown.below hb2 (Nat.le_refl _)
      have hbel2 := hbel1.trans (hb2.mono hbel1.size)
      clear hown hbel1 hbyte ht hd
      by_cases h0 : kk = 0
      · have t1 : ((kk : Int) == 0) = true := by rw [beq_iff_eq]; omega
        go_wp2_with (at_builtin; refine appB rfl _ _ rfl w1.heap.size _ _ rfl (hown2.alloc _) w2.heap.size t[d] rfl ?_ ?_ ?_ ?_; (exact newc _ _ _); (rw [lastTo_length]; omega); (have := hbel2.size; simp; omega); intro v' w3 hown' hB hgrow)
        have hg := HG.out
        go_roundg (s.size - (k + 1))
        case measure => omega
        case rel =>
          refine ⟨k + 1, by omega, rfl, by go_num, ?_, ?_, (hbel2.alloc hbel2.size _).trans hB⟩
          · unfold origTo; rw [if_pos (by rw [EK.out]; omega)]
          · rw [lastTo_succ, ← HKK.out, ← HD.out, ← HBY.out]; exact hown'
      · have t1 : ((kk : Int) == 0) = false := by rw [beq_eq_false_iff_ne]; omega
        go_wp2_with (at_builtin; refine appB rfl _ _ rfl w1.heap.size _ _ rfl (hown2.alloc _) w2.heap.size t[d] rfl ?_ ?_ ?_ ?_; (exact newc _ _ _); (rw [lastTo_length]; omega); (have := hbel2.size; simp; omega); intro v' w3 hown' hB hgrow)
        have hg := HG.out
        go_roundg (s.size - (k + 1))
        case measure => omega
        case rel =>
          refine ⟨k + 1, by omega, rfl, by go_num, ?_, ?_, (hbel2.alloc hbel2.size _).trans hB⟩
          · show _ = Value.int .i64 (((if o k = 0 then k else origTo o k : Nat)) : Int)
            rw [if_neg (by rw [EK.out]; omega)]
          · rw [lastTo_succ, ← HKK.out, ← HD.out, ← HBY.out]; exact hown'
    · have hke : k = s.size := by omega
      subst hke
      have hcv := conv_bytes hown.rd
      go_wp2_with fail
      go_ret2
      exact ⟨o, HO.out, rfl, hbel.trans (hbel1.mono hbel.size)⟩

end Go.Proofs.Ythjmpiekjfnoiaa
