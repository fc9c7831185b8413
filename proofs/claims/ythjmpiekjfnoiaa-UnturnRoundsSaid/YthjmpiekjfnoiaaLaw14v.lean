/-
  The walk of the statement UnturnVector.
-/
import Derived.Test.YthjmpiekjfnoiaaLaw14
namespace Go.Proofs.Ythjmpiekjfnoiaa
open Go.RowKit

theorem boolRow_set' (n : Nat) (b b' : Nat → Bool) (k : Nat) (v : Bool) (h : ∀ j, j < n → b' j = if j = k then v else b j) : ((List.range n).map fun j => Value.bool (b j)).set k (.bool v) = (List.range n).map fun j => Value.bool (b' j) := by
  rw [boolRow_set n b (fun j => if j = k then v else b j) k v (fun j => rfl)]
  apply List.map_congr_left
  intro j hj
  rw [h j (by simpa using hj)]

set_option maxRecDepth 100000 in
set_option maxHeartbeats 800000 in
theorem unturnVector_any (s : ByteArray) (v : Value) (raw : List Int) (w : World) (_hs : s.size ≤ maxLen) (hr : RdI w v raw) (hwf : WfI raw) :
    Calls Try.prog 4 #[.string s, v] w fun e w' => e = .returned (.bool true) ∧ Below w.heap.size w w' := by
  unfold maxLen at _hs
  go_enter Try.func4, Try.ntmps4
  go_wp2_with fail
  refine (awake14_any _).mono ?_
  rintro e w1 ⟨rfl, h1⟩
  have hr1 := hr.below h1
  go_upto_region 2 with fail
  go_cut [19, 20, 21] (fun s19 s20 s21 wx => Pair w wx s19 60 100 ∧ s20 = .int .i64 2 ∧ s21 = .int .i64 0)
  case first =>
    obtain ⟨m, hmi, hm1, hm2⟩ := minOf s.size 60 (by decide)
    go_region_with (go_at_call 16; refine (text13_any _ raw _ _ _ ?_ hwf ?_ ?_ ?_ ?_).mono ?_; (first | exact hr1 | exact hr1.below ((Below.refl _ _).drew)); decide; decide; decide; decide; rintro e w2 ⟨t, rfl, ht, h2⟩)
    all_goals go_wp2_with fail
    all_goals go_meet
    all_goals have h2' : Below w1.heap.size w1 w2 := by first | exact h2 | exact (Below.refl _ _).drew.trans h2
    all_goals exact ⟨⟨w2.heap.size, s.extract 0 m, t, rfl, Arr.new w2 _ [.string _, .string _], by simp; omega, by omega, belA (belT h1 h2') _, (belT h1 h2').size⟩, rfl, rfl⟩
  case rest =>
    obtain ⟨⟨pb, t0, t1, rfl, harr, hz0, hz1, hbel, hpb⟩, rfl, rfl⟩ := hcut
    clear hr hr1 h1 hwf _hs
    have hp0 := harr.cell (i := 0) rfl
    have hp1 := harr.cell (i := 1) rfl
    have hpl := harr.lt
    clear harr
    go_wp2
    go_loopg [21] 2 (fun g i wr => ∃ k : Nat, k ≤ 2 ∧ g = 2 - k ∧ i = .int .i64 k ∧ Below w.heap.size w wr ∧ Below wc.heap.size wc wr)
    case atStart => exact ⟨0, by omega, rfl, rfl, hbel, Below.refl _ _⟩
    case round =>
      clear hbel
      obtain ⟨k, hk, hg, rfl, hbel, hbel1⟩ := hrel
      by_cases hlt : k < 2
      · obtain ⟨t, ht, hc⟩ : ∃ t : ByteArray, t.size ≤ 100 ∧ wr.cell? ⟨pb, k, none⟩ = some (.string t) := by
          rcases (show k = 0 ∨ k = 1 by omega) with rfl | rfl
          · exact ⟨t0, by omega, by rw [hbel1.cell (p := ⟨pb, 0, none⟩) hpl]; exact hp0⟩
          · exact ⟨t1, by omega, by rw [hbel1.cell (p := ⟨pb, 1, none⟩) hpl]; exact hp1⟩
        have hd : decide ((k : Int) < 2) = true := by simp; omega
        clear hp0 hp1 hz0 hz1
        have HL := hid (show t.data.toList.length = t.size by simp)
        have HG := hid hg
        clear hg
        go_wp2_with fail
        refine (vector_any t _ (by omega)).mono ?_
        rintro e w3 ⟨v, rfl, hv, h3⟩
        obtain ⟨va, vc, rfl, hvc, hvm, hvA⟩ := hv.rd.open
        rw [vecI_length, HL.out] at hvA hvc ⊢
        simp only [maxLen] at hvm
        have f0 : ((t.size : Int) != (t.size : Int)) = false := by simp
        clear hv
        go_wp2_with (at_make; refine mkA elBool rfl _ _ rfl t.size rfl rfl ?_ ?_; omega)
        have hB3 := belT hbel h3
        have hB3c := belT hbel1 h3
        go_loopg [10] t.size (fun g i wr => ∃ k : Nat, k ≤ t.size ∧ g = t.size - k ∧ i = .int .i64 k ∧ Arr wr w3.heap.size 4 ((List.range t.size).map fun j => .bool (hadTo t.data.toList k j)) ∧ Below w.heap.size w wr ∧ Below wc.heap.size wc wr ∧ Below w3.heap.size w3 wr)
        case atStart =>
          refine ⟨0, Nat.zero_le _, rfl, rfl, ?_, belA hB3 _, belA hB3c _, (Below.refl _ _).alloc (Nat.le_refl _) _⟩
          have := Arr.made w3 4 (.bool false) t.size
          rwa [show List.replicate t.size (Value.bool false) = (List.range t.size).map fun j => .bool (hadTo t.data.toList 0 j) from by
            apply List.ext_getElem?
            intro j
            by_cases hj : j < t.size <;> simp [hj, hadTo]] at this
        case round =>
          clear hbel hbel1 hc
          obtain ⟨i, hi, hg, rfl, harr, hbel, hbel1, hbel3⟩ := hrel
          have HG2 := hid hg
          clear hg
          by_cases hil : i < t.size
          · obtain ⟨b1, o1, rfl, hb1, hc1⟩ := hvA (by omega)
            have hnl := nxt_lt t.data.toList i (by rw [HL.out]; exact hil)
            rw [HL.out] at hnl
            have hb1' := hbel3.size
            have c1 : wr.cell? ⟨b1, o1 + i, none⟩ = some (.int .i64 ((nxt t.data.toList i : Nat) : Int)) := by
              rw [hbel3.cell (p := ⟨b1, o1 + i, none⟩) hb1]
              exact hc1 _ _ (vecI_get _ _ (by rw [HL.out]; exact hil))
            have c2 := harr.cell (boolRow t.size (hadTo t.data.toList i) _ hnl)
            rw [hadTo_nxt _ _ (by rw [HL.out]; exact hil)] at c2
            have f2 := harr.free (nxt t.data.toList i)
            have d1 : decide (((nxt t.data.toList i : Nat) : Int) < 0) = false := by simp
            have d2 : decide (t.size ≤ nxt t.data.toList i) = false := by simp; omega
            have hne : b1 ≠ w3.heap.size := by omega
            obtain ⟨q, hq⟩ : ∃ q, q = nxt t.data.toList i := ⟨_, rfl⟩
            rw [← hq] at c1 c2 f2 d1 d2 hnl
            have HQ := hid hq
            clear hq
            have hclose := hid (show Arr (wr.setCell ⟨w3.heap.size, q, none⟩ (.bool true)) w3.heap.size 4 ((List.range t.size).map fun j => .bool (hadTo t.data.toList (i + 1) j)) from by
              have := harr.set q (.bool true)
              rwa [boolRow_set' t.size _ (hadTo t.data.toList (i + 1)) _ true (fun j hj => by rw [HQ.out]; exact hadTo_succ _ _ _ (by rw [HL.out]; exact hil) (by rw [HL.out]; exact hj))] at this)
            rcases Nat.eq_zero_or_pos i with h0 | h0
            · have d3 : decide (0 < i) = false := by simp; omega
              clear h0
              go_wp2
              go_quiet (fail)
              go_wp2
              have hg2 := HG2.out
              go_roundg (t.size - (i + 1))
              case measure => omega
              case rel => exact ⟨i + 1, by omega, rfl, by go_num, hclose.out, below_drewN (hbel.setCell (by simp; have := hB3.size; omega) _) _, below_drewN (hbel1.setCell (by simp; have := hB3c.size; omega) _) _, below_drewN (hbel3.setCell (by simp) _) _⟩
            · have d3 : decide (0 < i) = true := by simp; omega
              have hpl1 := nxt_lt t.data.toList (i - 1) (by rw [HL.out]; omega)
              rw [HL.out] at hpl1
              have c3 : wr.cell? ⟨b1, o1 + (i - 1), none⟩ = some (.int .i64 ((nxt t.data.toList (i - 1) : Nat) : Int)) := by
                rw [hbel3.cell (p := ⟨b1, o1 + (i - 1), none⟩) hb1]
                exact hc1 _ _ (vecI_get _ _ (by rw [HL.out]; omega))
              have hso := vec_sorted t.data.toList (i - 1) (by rw [HL.out]; omega)
              rw [show i - 1 + 1 = i by omega, ← HQ.out] at hso
              obtain ⟨p, hp⟩ : ∃ p, p = nxt t.data.toList (i - 1) := ⟨_, rfl⟩
              rw [← hp] at c3 hpl1 hso
              clear hp
              rw [getD_at t p hpl1, getD_at t q hnl] at hso
              obtain ⟨s1, s2⟩ := hso
              have S2 := hid s2
              have e1 : IntKind.i64.wrap ((i : Int) - 1) = (i : Int) - 1 := IntWalk.i64_in _ (by omega)
              have e2 : ((i : Int) - 1).toNat = i - 1 := by omega
              have e3 : (0 : Int) ≤ (i : Int) - 1 := by omega
              have e4 : (i : Int) - 1 < (t.size : Int) := by omega
              have e5 : decide (t[q].toNat < t[p].toNat) = false := by simpa using s1
              clear s2 s1 hc1 hvA
              by_cases heq : t[p].toNat = t[q].toNat
              · have e6 : ((t[p].toNat : Int) == (t[q].toNat : Int)) = true := by rw [heq]; simp
                have e7 : decide (q < p) = false := by have := S2.out heq; simp; omega
                clear heq
                go_wp2
                go_quiet (fail)
                go_wp2
                have hg2 := HG2.out
                go_roundg (t.size - (i + 1))
                case measure => omega
                case rel => exact ⟨i + 1, by omega, rfl, by go_num, hclose.out, below_drewN (hbel.setCell (by simp; have := hB3.size; omega) _) _, below_drewN (hbel1.setCell (by simp; have := hB3c.size; omega) _) _, below_drewN (hbel3.setCell (by simp) _) _⟩
              · have e6 : ((t[p].toNat : Int) == (t[q].toNat : Int)) = false := by rw [beq_eq_false_iff_ne]; omega
                clear heq
                go_wp2
                go_quiet (fail)
                go_wp2
                have hg2 := HG2.out
                go_roundg (t.size - (i + 1))
                case measure => omega
                case rel => exact ⟨i + 1, by omega, rfl, by go_num, hclose.out, below_drewN (hbel.setCell (by simp; have := hB3.size; omega) _) _, below_drewN (hbel1.setCell (by simp; have := hB3c.size; omega) _) _, below_drewN (hbel3.setCell (by simp) _) _⟩
          · go_wp2
            have hg := HG.out
            go_roundg (2 - (k + 1))
            case measure => omega
            case rel => exact ⟨k + 1, by omega, rfl, by go_num, hbel, hbel1⟩
      · have hd : decide ((k : Int) < 2) = false := by simp; omega
        go_wp2
        go_ret
        exact ⟨rfl, hbel⟩

end Go.Proofs.Ythjmpiekjfnoiaa
