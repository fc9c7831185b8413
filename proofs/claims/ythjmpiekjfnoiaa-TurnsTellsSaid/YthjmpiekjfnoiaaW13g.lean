/-
  The walks of the document's own answer for chapter 13.
-/
import Derived.Test.YthjmpiekjfnoiaaW13f
import Derived.Deep.AppendLies
namespace Go.Proofs.Ythjmpiekjfnoiaa
open Go.RowKit

set_option maxRecDepth 100000 in
theorem refTurnQ (s : ByteArray) (k : Nat) (w : World) (hn : s.size ≤ 1000000) (hk : k ≤ s.size) :
    Calls Try.prog 32 #[.string s, .int .i64 (k : Int)] w fun e w' => e = .returned (.string (mkS (rot s k))) ∧ ∃ m, w' = w.drewN m := by
  have e := rot_ext s k
  have HE := hid e
  clear e
  go_enter Try.func32, Try.ntmps32
  go_wp2
  go_quiet (fail)
  go_wp2
  go_ret
  exact ⟨ret_str HE.out, _, rfl⟩

set_option maxRecDepth 100000 in
set_option maxHeartbeats 1600000 in
theorem refForward_any (s : ByteArray) (w : World) (hn : s.size ≤ 1000000)
    (hord : ∀ w, Calls Try.prog 29 #[.string s] w fun e w' => ∃ v o, e = .returned v ∧ Ord (cycf s) s.size s.size o ∧ OwI w' w.heap.size v (outL s.size o) ∧ Below w.heap.size w w') :
    Calls Try.prog 27 #[.string s] w fun e w' =>
      ∃ o, Ord (cycf s) s.size s.size o ∧ e = .returned (.tuple #[.string (mkS (lastTo s o s.size)), .int .i64 ((origTo o s.size : Nat) : Int)]) ∧ Below w.heap.size w w' := by
  have HORD := hid hord
  clear hord
  go_enter Try.func27, Try.ntmps27
  go_wp2_with fail
  refine (HORD.out _).mono ?_
  rintro e w1 ⟨v, o, rfl, hO, hown, hbel⟩
  obtain ⟨a, cap, rfl, hca, hma, hA⟩ := hown.rd.open
  rw [outL_length] at hca hA ⊢
  unfold maxLen at hma
  have HO := hid hO
  have HA := hid hA
  clear hO hA hown
  go_wp2_with fail
  go_loopg [5, 6, 7, 8] s.size (fun gh s5 s6 s7 _s8 wr => ∃ k : Nat, k ≤ s.size ∧ gh = s.size - k ∧ s7 = .int .i64 k ∧ s6 = .int .i64 ((origTo o k : Nat) : Int) ∧ s5 = .string (mkS (lastTo s o k)) ∧ Below w1.heap.size w1 wr)
  case atStart => exact ⟨0, Nat.zero_le _, rfl, rfl, rfl, rfl, Below.refl _ _⟩
  case round =>
    obtain ⟨k, hk, hg, rfl, rfl, rfl, hbel1⟩ := hrel
    have HG := hid hg
    clear hg
    by_cases hlt : k < s.size
    · obtain ⟨b, off, rfl, hbl, hc⟩ := HA.out (by omega)
      have hok := HO.out.rng k hlt
      obtain ⟨kk, hkk⟩ : ∃ kk, kk = (o k).toNat := ⟨_, rfl⟩
      have ek : o k = (kk : Int) := by omega
      have hkn : kk < s.size := by omega
      have c1 := (hbel1.cell (p := ⟨b, off + k, none⟩) hbl).trans (hc k _ (outL_get _ _ _ hlt))
      rw [ek] at c1
      have EK := hid ek
      have HKK := hid hkk
      clear ek hkk hok hc
      go_wp2_with fail
      refine (refTurn_any s kk _ hn (by omega)).mono ?_
      rintro e w2 ⟨rfl, hb2⟩
      obtain ⟨t, ht⟩ : ∃ t, t = mkS (rot s kk) := ⟨_, rfl⟩
      rw [← ht]
      have hts : t.size = s.size := by rw [ht, mkS_size, rot_length _ _ (by omega)]
      obtain ⟨d, hd⟩ : ∃ d, d = s.size - 1 := ⟨_, rfl⟩
      have hdn : d < s.size := by omega
      have hdt : d < t.size := by omega
      have ed : (s.size : Int) - 1 = (d : Int) := by omega
      obtain ⟨C, hC⟩ : ∃ C, C = mkS [s.data.toList.getD ((kk + d) % s.size) 0] := ⟨_, rfl⟩
      have hbyte : t.extract d s.size = C := by
        have h1 := rot_get s kk d hkn hdn
        have h2 := ext_one t d hdt
        rw [show d + 1 = s.size by omega] at h2
        rw [h2, hC, show t.data.toList = rot s kk by rw [ht]; rfl, List.getD, h1]; rfl
      have hCs : C.size = 1 := by rw [hC]; rfl
      obtain ⟨S, hS⟩ : ∃ S, S = mkS (lastTo s o k) := ⟨_, rfl⟩
      rw [← hS]
      have hSs : S.size ≤ 1000000 := by rw [hS, mkS_size, lastTo_length]; omega
      have hnext : mkS (lastTo s o (k + 1)) = S ++ C := by
        rw [hS, hC, mkS_append, lastTo_succ, ← HKK.out, ← hd]
      have HN := hid hnext
      have HD := hid hd
      have hbel2 := hbel1.trans (hb2.mono hbel1.size)
      have c1' := (hb2.cell (p := ⟨b, off + k, none⟩) (World.block_lt_of_cell? wr _ c1)).trans c1
      have hle : d ≤ s.size := by omega
      clear hbel1 ht hd hC hS hnext c1
      by_cases h0 : kk = 0
      · have t1 : ((kk : Int) == 0) = true := by rw [beq_iff_eq]; omega
        go_wp2_with fail
        have hg := HG.out
        go_roundg (s.size - (k + 1))
        case measure => omega
        case rel =>
          refine ⟨k + 1, by omega, rfl, by go_num, ?_, by rw [HN.out], hbel2⟩
          unfold origTo; rw [if_pos (by rw [EK.out]; omega)]
      · have t1 : ((kk : Int) == 0) = false := by rw [beq_eq_false_iff_ne]; omega
        go_wp2_with fail
        have hg := HG.out
        go_roundg (s.size - (k + 1))
        case measure => omega
        case rel =>
          refine ⟨k + 1, by omega, rfl, by go_num, ?_, by rw [HN.out], hbel2⟩
          show _ = Value.int .i64 (((if o k = 0 then k else origTo o k : Nat)) : Int)
          rw [if_neg (by rw [EK.out]; omega)]
    · have hke : k = s.size := by omega
      subst hke
      go_wp2_with fail
      go_ret2
      exact ⟨o, HO.out, rfl, hbel.trans (hbel1.mono hbel.size)⟩

end Go.Proofs.Ythjmpiekjfnoiaa
