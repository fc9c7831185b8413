/-
  The walk of the statement UnturnNext.
-/
import Derived.Test.YthjmpiekjfnoiaaLaw14
namespace Go.Proofs.Ythjmpiekjfnoiaa
open Go.RowKit

set_option maxRecDepth 100000 in
set_option maxHeartbeats 800000 in
theorem unturnNext_any (s : ByteArray) (v : Value) (raw : List Int) (o : Int) (w : World) (_hs : s.size ≤ maxLen) (hr : RdI w v raw) (hwf : WfI raw) (ho1 : -9223372036854775808 ≤ o) (ho2 : o ≤ 9223372036854775807) :
    Calls Try.prog 5 #[.string s, v, .int .i64 o] w fun e w' => e = .returned (.bool true) ∧ Below w.heap.size w w' := by
  unfold maxLen at _hs
  go_enter Try.func5, Try.ntmps5
  go_wp2_with fail
  refine (awake14_any _).mono ?_
  rintro e w1 ⟨rfl, h1⟩
  have hr1 := hr.below h1
  go_upto_region 2 with fail
  go_cut [25, 26, 27] (fun s25 s26 s27 wx => Pair w wx s25 60 100 ∧ s26 = .int .i64 2 ∧ s27 = .int .i64 0)
  case first =>
    obtain ⟨m, hmi, hm1, hm2⟩ := minOf s.size 60 (by decide)
    go_region_with (go_at_call 16; refine (text13_any _ raw _ _ _ ?_ hwf ?_ ?_ ?_ ?_).mono ?_; (first | exact hr1 | exact hr1.below ((Below.refl _ _).drew)); decide; decide; decide; decide; rintro e w2 ⟨t, rfl, ht, h2⟩)
    all_goals go_wp2_with fail
    all_goals go_meet
    all_goals have h2' : Below w1.heap.size w1 w2 := by first | exact h2 | exact (Below.refl _ _).drew.trans h2
    all_goals exact ⟨⟨w2.heap.size, s.extract 0 m, t, rfl, Arr.new w2 _ [.string _, .string _], by simp; omega, by omega, belA (belT h1 h2') _, (belT h1 h2').size⟩, rfl, rfl⟩
  case rest =>
    obtain ⟨⟨pb, t0, t1, rfl, harr, hz0, hz1, hbel, hpb⟩, rfl, rfl⟩ := hcut
    clear hr hr1 h1 hwf _hs
    have hp0 := harr.cell (i := 0) rfl
    have hp1 := harr.cell (i := 1) rfl
    have hpl := harr.lt
    clear harr
    go_wp2
    go_loopg [27] 2 (fun g i wr => ∃ k : Nat, k ≤ 2 ∧ g = 2 - k ∧ i = .int .i64 k ∧ Below w.heap.size w wr ∧ Below wc.heap.size wc wr)
    case atStart => exact ⟨0, by omega, rfl, rfl, hbel, Below.refl _ _⟩
    case round =>
      clear hbel
      obtain ⟨k, hk, hg, rfl, hbel, hbel1⟩ := hrel
      by_cases hlt : k < 2
      · obtain ⟨t, ht, hc⟩ : ∃ t : ByteArray, t.size ≤ 100 ∧ wr.cell? ⟨pb, k, none⟩ = some (.string t) := by
          rcases (show k = 0 ∨ k = 1 by omega) with rfl | rfl
          · exact ⟨t0, by omega, by rw [hbel1.cell (p := ⟨pb, 0, none⟩) hpl]; exact hp0⟩
          · exact ⟨t1, by omega, by rw [hbel1.cell (p := ⟨pb, 1, none⟩) hpl]; exact hp1⟩
        have hd : decide ((k : Int) < 2) = true := by simp; omega
        clear hp0 hp1 hz0 hz1
        by_cases hemp : t.toList.isEmpty = true
        · go_wp2
          go_roundg (2 - (k + 1))
          case measure => omega
          case rel => exact ⟨k + 1, by omega, rfl, by go_num, hbel, hbel1⟩
        · have hemp0 : t.toList.isEmpty = false := by simpa using hemp
          have htp := ne_empty hemp0
          clear hemp
          obtain ⟨hq1, hq2⟩ := Pick_bd o t.size (by omega)
          obtain ⟨q, hq⟩ := Int.eq_ofNat_of_zero_le hq1
          have HQ := hid hq
          rw [hq] at hq2
          clear hq hq1
          have HL := hid (show t.data.toList.length = t.size by simp)
          have hnl := nxt_lt t.data.toList q (by rw [HL.out]; omega)
          rw [HL.out] at hnl
          go_wp2_with (go_at_call 22; refine (pick14_any _ _ _ ?_ ?_ ?_ ?_).mono ?_; omega; omega; omega; omega; rintro e w' ⟨rfl, rfl⟩; rw [HQ.out])
          refine (vector_any t _ (by omega)).mono ?_
          rintro e w3 ⟨v, rfl, hv, h3⟩
          obtain ⟨va, vc, rfl, hvc, hvm, hvA⟩ := hv.rd.open
          obtain ⟨b1, o1, rfl, hb1, hc1⟩ := hvA (by rw [vecI_length, HL.out]; omega)
          have c1 := hc1 q _ (vecI_get _ _ (by rw [HL.out]; omega))
          have hnp : Pick ((nxt t.data.toList q : Nat) : Int) t.size = ((nxt t.data.toList q : Nat) : Int) := by
            unfold Pick; rw [if_neg (by omega), Int.emod_eq_of_lt (by omega) (by omega)]
          have HNP := hid hnp
          rw [vecI_length, HL.out] at hvc ⊢
          simp only [maxLen] at hvm
          clear hv hvA hc1 hnp
          go_wp2_with (go_at_call 22; refine (pick14_any _ _ _ ?_ ?_ ?_ ?_).mono ?_; omega; omega; omega; omega; rintro e w' ⟨rfl, rfl⟩; rw [HNP.out])
          refine (back_valid t q _ (by omega) (by omega)).mono ?_
          rintro e w4 ⟨rfl, h4⟩
          go_wp2_with fail
          refine (back_valid t (nxt t.data.toList q) _ (by omega) hnl).mono ?_
          rintro e w5 ⟨rfl, h5⟩
          go_wp2_with fail
          generalize hA : mkS (back t.data.toList q) = A at *
          generalize hB : mkS (back t.data.toList (nxt t.data.toList q)) = B at *
          have hAs : A.size = t.size := by rw [← hA, mkS_size, back_length]; exact HL.out
          have hBs : B.size = t.size := by rw [← hB, mkS_size, back_length]; exact HL.out
          have f1 : ((A.size : Int) != (t.size : Int)) = false := by rw [hAs]; simp
          have f2 : ((B.size : Int) != (t.size : Int)) = false := by rw [hBs]; simp
          have i1 : 1 ≤ A.size := by omega
          have i2 : 1 ≤ B.size := by omega
          have j1 : (1 : Int) ≤ (A.size : Int) := by omega
          have j2 : (1 : Int) ≤ (B.size : Int) := by omega
          have k1 : 0 < A.size := by omega
          have k2 : 0 < B.size := by omega
          have l2 : (B.size : Int) - 1 ≤ (B.size : Int) := by omega
          have l3 : (0 : Int) ≤ (B.size : Int) - 1 := by omega
          have l4 : IntKind.i64.wrap ((B.size : Int) - 1) = (B.size : Int) - 1 := IntWalk.i64_in _ (by omega)
          have l5 : ((B.size : Int) - 1).toNat = B.size - 1 := by omega
          have HAs := hid hAs
          have HBs := hid hBs
          have HA := hid (show A.data.toList = back t.data.toList q from by rw [← hA]; rfl)
          have HB := hid (show B.data.toList = back t.data.toList (nxt t.data.toList q) from by rw [← hB]; rfl)
          clear hA hB hAs hBs
          have f3 : ((A.extract 1 A.size).toList == (B.extract 0 (B.size - 1)).toList) = true := by
            rw [beq_iff_eq, ByteArray.toList_eq, ByteArray.toList_eq, Lib.extract_data, Lib.extract_data, List.drop_zero, Nat.sub_zero, HAs.out, HBs.out, HA.out, HB.out]
            rw [back_next, List.take_take, HL.out, Nat.min_self]
          have f4 : (((A[0]'k1).toNat : Int) != ((t[nxt t.data.toList q]'hnl).toNat : Int)) = false := by
            have e1 := byteAt A 0 k1
            rw [HA.out, back_get _ _ _ (by rw [HL.out]; omega)] at e1
            have e2 := byteAt t _ hnl
            have e3 : t.data.toList.getD (walkN t.data.toList (0 + 1) q) 0 = t[nxt t.data.toList q]'hnl := by
              show t.data.toList.getD (nxt t.data.toList q) 0 = _
              rw [List.getD, e2]; rfl
            rw [e3] at e1
            rw [← Option.some.inj e1]; simp
          go_quiet (fail)
          go_wp2
          go_roundg (2 - (k + 1))
          case measure => omega
          case rel =>
            exact ⟨k + 1, by omega, rfl, by go_num, below_drewN (belT (belT (belT hbel h3) h4) h5) _, below_drewN (belT (belT (belT hbel1 h3) h4) h5) _⟩
      · have hd : decide ((k : Int) < 2) = false := by simp; omega
        go_wp2
        go_ret
        exact ⟨rfl, hbel⟩

end Go.Proofs.Ythjmpiekjfnoiaa
