/-
  The walk of the statement TurnsLast.
-/
import Derived.Test.YthjmpiekjfnoiaaLaw13
import Derived.Test.YthjmpiekjfnoiaaM13c
namespace Go.Proofs.Ythjmpiekjfnoiaa
open Go.RowKit

theorem zeroCells256 : Try.zeroCells38 = (tab 256 (fun _ => 0)).toArray := by kernel_rfl

theorem pick_prev {n kk : Nat} (h : kk < n) : Pick ((kk : Int) + (n : Int) - 1) (n : Int) = (((kk + (n - 1)) % n : Nat) : Int) := by
  unfold Pick
  rw [if_neg (by omega), show (kk : Int) + (n : Int) - 1 = ((kk + (n - 1) : Nat) : Int) by omega, Int.natCast_emod]

set_option maxRecDepth 100000 in
set_option maxHeartbeats 1600000 in
theorem turnsLast_any (s : ByteArray) (v : Value) (raw : List Int) (o : Int) (w : World) (_hs : s.size ≤ maxLen) (hr : RdI w v raw) (hwf : WfI raw) (ho1 : -9223372036854775808 ≤ o) (ho2 : o ≤ 9223372036854775807) :
    Calls Try.prog 8 #[.string s, v, .int .i64 o] w fun e w' => e = .returned (.bool true) ∧ Below w.heap.size w w' := by
  unfold maxLen at _hs
  go_enter Try.func8, Try.ntmps8
  go_wp2_with fail
  refine (awake13_any _).mono ?_
  rintro e w1 ⟨rfl, h1⟩
  have hr1 := hr.below h1
  go_upto_region 2 with fail
  go_cut [26, 27, 28] (fun s26 s27 s28 wx => Pair w wx s26 60 100 ∧ s27 = .int .i64 2 ∧ s28 = .int .i64 0)
  case first =>
    obtain ⟨m, hmi, hm1, hm2⟩ := minOf s.size 60 (by decide)
    have hmi2 : min (s.size : Int) 60 = (m : Int) := by rw [← hmi, Int.min_def]; split <;> split <;> omega
    go_region_with (go_at_call 16; refine (text13_any _ raw _ _ _ ?_ hwf ?_ ?_ ?_ ?_).mono ?_; (first | exact hr1 | exact hr1.below ((Below.refl _ _).drew)); decide; decide; exact ho1; exact ho2; rintro e w2 ⟨t, rfl, ht, h2⟩)
    all_goals go_wp2_with fail
    all_goals go_meet
    all_goals have h2' : Below w1.heap.size w1 w2 := by first | exact h2 | exact (Below.refl _ _).drew.trans h2
    all_goals exact ⟨⟨w2.heap.size, s.extract 0 m, t, rfl, Arr.new w2 _ [.string _, .string _], by simp; omega, by omega, belA (belT h1 h2') _, (belT h1 h2').size⟩, rfl, rfl⟩
  case rest =>
    obtain ⟨⟨pb, t0, t1, rfl, harr, hz0, hz1, hbel, hpb⟩, rfl, rfl⟩ := hcut
    clear hr hr1 h1 hwf _hs
    have hp0 := harr.cell (i := 0) rfl
    have hp1 := harr.cell (i := 1) rfl
    have hpl := harr.lt
    clear harr
    go_wp2
    go_loopg [28] 2 (fun g i wr => ∃ k : Nat, k ≤ 2 ∧ g = 2 - k ∧ i = .int .i64 k ∧ Below w.heap.size w wr ∧ Below wc.heap.size wc wr)
    case atStart => exact ⟨0, by omega, rfl, rfl, hbel, Below.refl _ _⟩
    case round =>
      clear hbel
      obtain ⟨k, hk, hg, rfl, hbel, hbel1⟩ := hrel
      by_cases hlt : k < 2
      · obtain ⟨t, ht, hc⟩ : ∃ t : ByteArray, t.size ≤ 100 ∧ wr.cell? ⟨pb, k, none⟩ = some (.string t) := by
          rcases (show k = 0 ∨ k = 1 by omega) with rfl | rfl
          · exact ⟨t0, by omega, by rw [hbel1.cell (p := ⟨pb, 0, none⟩) hpl]; exact hp0⟩
          · exact ⟨t1, by omega, by rw [hbel1.cell (p := ⟨pb, 1, none⟩) hpl]; exact hp1⟩
        have hd : decide ((k : Int) < 2) = true := by simp; omega
        clear hp0 hp1 hz0 hz1
        have HG := hid hg
        clear hg
        go_wp2_with fail
        refine (order_any t _ (by omega)).mono ?_
        rintro e w3 ⟨v, oo, rfl, hO, hv, h3⟩
        obtain ⟨va, vc, rfl, hvc, hvm, hvA⟩ := hv.rd.open
        rw [outL_length] at hvA hvc ⊢
        simp only [maxLen] at hvm
        have f0 : ((t.size : Int) != (t.size : Int)) = false := by simp
        have HO := hid hO
        have HV := hid hvA
        clear hv hO hvA
        go_wp2_with fail
        refine (forward_any t _ (by omega)).mono ?_
        rintro e w4 ⟨oo', hO', rfl, h4⟩
        have hu := hO'.uniq HO.out
        rw [lastTo_congr hu, origTo_congr hu]
        have HF := hid hbel
        obtain ⟨q, hq⟩ : ∃ q, q = origTo oo t.size := ⟨_, rfl⟩
        obtain ⟨L, hL⟩ : ∃ L, L = mkS (lastTo t oo t.size) := ⟨_, rfl⟩
        rw [← hq, ← hL]
        have hLs : L.size = t.size := by rw [hL, mkS_size, lastTo_length]
        have hLd : L.data.toList = lastTo t oo t.size := by rw [hL]; rfl
        have g0 : ((L.size : Int) != (t.size : Int)) = false := by rw [hLs]; simp
        have HLD := hid hLd
        have HLS := hid hLs
        have HQ := hid hq
        clear hq hL hLd hLs hO' hu
        have hb3 := h3.size
        have hb4 := h4.size
        go_upto_region 7 with fail
        go_cut [81] (fun s81 wx => s81 = .bool false ∧ w4 = wx)
        case first =>
          rcases Nat.eq_zero_or_pos t.size with h0 | h0
          · have q0 : q = 0 := by rw [HQ.out, h0]; rfl
            have t1 : decide (0 < t.size) = false := decide_eq_false (by omega)
            have t2 : ((q : Int) != 0) = false := by rw [q0]; simp
            have t3 : ((t.size : Int) == 0) = true := by rw [beq_iff_eq]; omega
            clear h0 q0
            go_wp2_with fail
            go_meet
            exact ⟨rfl, rfl⟩
          · obtain ⟨b1, o1, rfl, hb1, hc1⟩ := HV.out h0
            obtain ⟨q1, q2⟩ := orig_spec HO.out h0
            rw [← HQ.out] at q1 q2
            have c1 : w4.cell? ⟨b1, o1 + q, none⟩ = some (.int .i64 0) := by
              rw [h4.cell (p := ⟨b1, o1 + q, none⟩) hb1]
              exact hc1 _ _ (by rw [outL_get _ _ _ q1, q2])
            have t1 : decide (0 < t.size) = true := decide_eq_true h0
            have t2 : decide ((q : Int) < 0) = false := by simp
            have t4 : decide (t.size ≤ q) = false := decide_eq_false (by omega)
            have t3 : ((t.size : Int) == 0) = false := by rw [beq_eq_false_iff_ne]; omega
            clear h0 q2
            go_wp2_with fail
            go_meet
            exact ⟨rfl, rfl⟩
        case rest =>
        obtain ⟨rfl, rfl⟩ := hcut
        go_wp2_with fail
        have hB4 := belT (belT hbel h3) h4
        have hB4c := belT (belT hbel1 h3) h4
        have HTL := hid (show t.data.toList.length = t.size by simp)
        go_loopg [14] t.size (fun g i wr => ∃ k : Nat, k ≤ t.size ∧ g = t.size - k ∧ i = .int .i64 k ∧ Arr wr w4.heap.size 38 (tab 256 (cntD t.data.toList L.data.toList k)) ∧ Below w.heap.size w wr ∧ Below wc.heap.size wc wr ∧ Below w4.heap.size w4 wr)
        case atStart =>
          refine ⟨0, Nat.zero_le _, rfl, rfl, ?_, belA hB4 _, belA hB4c _, (Below.refl _ _).alloc (Nat.le_refl _) _⟩
          rw [cntD_zero, zeroCells256]
          exact Arr.new w4 _ _
        case round =>
          clear hbel hbel1 hc HF
          obtain ⟨i, hi, hg, rfl, harr, hbel, hbel1, hbel3⟩ := hrel
          have HG2 := hid hg
          clear hg
          have hs1 := hB4.size
          have hs2 := hB4c.size
          by_cases hil : i < t.size
          · obtain ⟨b1, o1, rfl, hb1, hc1⟩ := HV.out (by omega)
            have hrg := HO.out.rng i hil
            obtain ⟨kk, hq⟩ : ∃ kk : Nat, oo i = (kk : Int) := ⟨(oo i).toNat, by omega⟩
            have hnl : kk < t.size := by omega
            have c1 : wr.cell? ⟨b1, o1 + i, none⟩ = some (.int .i64 (kk : Int)) := by
              rw [hbel3.cell (p := ⟨b1, o1 + i, none⟩) (by show b1 < w4.heap.size; omega), h4.cell (p := ⟨b1, o1 + i, none⟩) hb1]
              exact hc1 _ _ (by rw [outL_get _ _ _ hil, hq])
            obtain ⟨j, hj⟩ : ∃ j, j = (kk + (t.size - 1)) % t.size := ⟨_, rfl⟩
            have hjn : j < t.size := by rw [hj]; exact Nat.mod_lt _ (by omega)
            have hpick := pick_prev hnl
            rw [← hj] at hpick
            have HP := hid hpick
            have hiL : i < L.size := by rw [HLS.out]; exact hil
            have hlast : L[i] = t[j] := by
              have e1 := byteAt L i hiL
              rw [HLD.out] at e1
              have e2 : (lastTo t oo t.size)[i]? = some (t.data.toList.getD j 0) := by
                rw [hj]; unfold lastTo; rw [List.getElem?_map, List.getElem?_range hil, Option.map_some, hq, Int.toNat_natCast]
              rw [e2] at e1
              have e3 := byteAt t j hjn
              rw [← Option.some.inj e1, List.getD, e3]; rfl
            have f4 : ((L[i].toNat : Int) != (t[j].toNat : Int)) = false := by rw [hlast]; simp
            have HSUC := hid (cntD_succ t.data.toList L.data.toList i t[i] L[i] (byteAt t i hil) (byteAt L i hiL))
            have bdx := cntD_bd t.data.toList L.data.toList i (t[i].toNat)
            have bdy := cntD_bd t.data.toList L.data.toList i (L[i].toNat)
            rw [HTL.out, show L.data.toList.length = t.size by rw [HLD.out, lastTo_length]] at bdx bdy
            have hbt := t[i].toNat_lt
            have hbL := L[i].toNat_lt
            have c2 := harr.cell (tab_get 256 (cntD t.data.toList L.data.toList i) t[i].toNat (by omega))
            have c3 := harr.cell (tab_get 256 (cntD t.data.toList L.data.toList i) L[i].toNat (by omega))
            have fr1 := harr.free t[i].toNat
            have fr2 := harr.free L[i].toNat
            obtain ⟨x, hx⟩ : ∃ x, x = cntD t.data.toList L.data.toList i t[i].toNat := ⟨_, rfl⟩
            obtain ⟨y, hy⟩ : ∃ y, y = cntD t.data.toList L.data.toList i L[i].toNat := ⟨_, rfl⟩
            rw [← hx] at c2 bdx
            rw [← hy] at c3 bdy
            obtain ⟨bn, hbn⟩ : ∃ bn, t[i].toNat = bn := ⟨_, rfl⟩
            obtain ⟨en, hen⟩ : ∃ en, L[i].toNat = en := ⟨_, rfl⟩
            rw [hbn] at c2 fr1 hbt hx
            rw [hen] at c3 fr2 hbL hy
            have HX := hid hx
            have HY := hid hy
            have HBN := hid hbn
            have HEN := hid hen
            have w1' : IntKind.i64.wrap (x + 1) = x + 1 := IntWalk.i64_in _ (by omega)
            have w2' : IntKind.i64.wrap (y - 1) = y - 1 := IntWalk.i64_in _ (by omega)
            have hne3 : b1 ≠ w4.heap.size := by omega
            clear hx hy hq hrg hj hpick hlast hc1
            by_cases hbe : bn = en
            · subst hbe
              go_wp2_with (go_at_call 30; refine (pick13_any _ _ _ ?_ ?_ ?_ ?_).mono ?_; omega; omega; omega; omega; rintro e w' ⟨rfl, rfl⟩; rw [HP.out])
              go_quiet (fail)
              go_wp2_with fail
              have hg2 := HG2.out
              go_roundg (t.size - (i + 1))
              case measure => omega
              case rel =>
                refine ⟨i + 1, by omega, rfl, by go_num, ?_, ((below_drewN hbel _).setCell (by show w.heap.size ≤ w4.heap.size; omega) _).setCell (by show w.heap.size ≤ w4.heap.size; omega) _,
                  ((below_drewN hbel1 _).setCell (by show wc.heap.size ≤ w4.heap.size; omega) _).setCell (by show wc.heap.size ≤ w4.heap.size; omega) _, ((below_drewN hbel3 _).setCell (Nat.le_refl _) _).setCell (Nat.le_refl _) _⟩
                have e1 := tab_set 256 (cntD t.data.toList L.data.toList i) (setF (cntD t.data.toList L.data.toList i) bn (x + 1)) bn (x + 1) (fun d _ => rfl)
                have e2 := tab_set 256 (setF (cntD t.data.toList L.data.toList i) bn (x + 1)) (cntD t.data.toList L.data.toList (i + 1)) bn (x) (fun d _ => by
                  have hx := HX.out
                  have hy := HY.out
                  rw [HSUC.out d, HBN.out, HEN.out]
                  unfold setF
                  by_cases h1 : d = bn
                  · rw [if_pos h1, if_pos h1.symm, h1]; omega
                  · rw [if_neg h1, if_neg h1, if_neg (fun e => h1 e.symm)]; omega)
                rw [← e2, ← e1]
                exact ((harr.drewN _).set bn (.int .i64 (x + 1))).set bn (.int .i64 x)
            · have hbe' : en ≠ bn := fun e => hbe e.symm
              go_wp2_with (go_at_call 30; refine (pick13_any _ _ _ ?_ ?_ ?_ ?_).mono ?_; omega; omega; omega; omega; rintro e w' ⟨rfl, rfl⟩; rw [HP.out])
              go_quiet (fail)
              go_wp2_with fail
              have hg2 := HG2.out
              go_roundg (t.size - (i + 1))
              case measure => omega
              case rel =>
                refine ⟨i + 1, by omega, rfl, by go_num, ?_, ((below_drewN hbel _).setCell (by show w.heap.size ≤ w4.heap.size; omega) _).setCell (by show w.heap.size ≤ w4.heap.size; omega) _,
                  ((below_drewN hbel1 _).setCell (by show wc.heap.size ≤ w4.heap.size; omega) _).setCell (by show wc.heap.size ≤ w4.heap.size; omega) _, ((below_drewN hbel3 _).setCell (Nat.le_refl _) _).setCell (Nat.le_refl _) _⟩
                have e1 := tab_set 256 (cntD t.data.toList L.data.toList i) (setF (cntD t.data.toList L.data.toList i) bn (x + 1)) bn (x + 1) (fun d _ => rfl)
                have e2 := tab_set 256 (setF (cntD t.data.toList L.data.toList i) bn (x + 1)) (cntD t.data.toList L.data.toList (i + 1)) en (y - 1) (fun d _ => by
                  have hx := HX.out
                  have hy := HY.out
                  rw [HSUC.out d, HBN.out, HEN.out]
                  unfold setF
                  by_cases h1 : d = en
                  · rw [if_pos h1, if_neg (fun e => hbe (e.trans h1)), if_pos h1.symm, h1]; omega
                  · rw [if_neg h1]
                    by_cases h2 : d = bn
                    · rw [if_pos h2, if_pos h2.symm, if_neg (fun e => h1 e.symm), h2]; omega
                    · rw [if_neg h2, if_neg (fun e => h2 e.symm), if_neg (fun e => h1 e.symm)]; omega)
                rw [← e2, ← e1]
                exact ((harr.drewN _).set bn (.int .i64 (x + 1))).set en (.int .i64 (y - 1))
          · have hie : i = t.size := by omega
            subst hie
            have hz : ∀ c, cntD t.data.toList L.data.toList t.size c = 0 := by
              intro c
              unfold cntD
              rw [List.take_of_length_le (by rw [HTL.out]; exact Nat.le_refl _), List.take_of_length_le (by rw [HLD.out, lastTo_length]; exact Nat.le_refl _), HLD.out, lastTo_eqc t HO.out]
              omega
            have harr0 : Arr wr w4.heap.size 38 (tab 256 (fun _ => 0)) := by
              rw [tab_congr (f' := cntD t.data.toList L.data.toList t.size) (fun d _ => (hz d).symm)]; exact harr
            clear harr hz
            obtain ⟨wp, rfl⟩ : ∃ wp : World, wp = wr := ⟨_, rfl⟩
            go_wp2_with fail
            go_loopg [16] 256 (fun g i wr => ∃ k : Nat, k ≤ 256 ∧ g = 256 - k ∧ i = .int .i64 k ∧ wp = wr)
            case atStart => exact ⟨0, Nat.zero_le _, rfl, rfl, rfl⟩
            case round =>
              obtain ⟨c, hc, hg, rfl, rfl⟩ := hrel
              have HG3 := hid hg
              clear hg
              by_cases hlc : c < 256
              · have c1 := harr0.cell (tab_get 256 (fun _ => 0) c hlc)
                have t1 : decide ((c : Int) < 256) = true := by simp; omega
                go_wp2_with fail
                have hg := HG3.out
                go_roundg (256 - (c + 1))
                case measure => omega
                case rel => exact ⟨c + 1, by omega, rfl, by go_num, rfl⟩
              · have t1 : decide ((c : Int) < 256) = false := by simp; omega
                go_wp2_with fail
                have hg := HG.out
                go_roundg (2 - (k + 1))
                case measure => omega
                case rel => exact ⟨k + 1, by omega, rfl, by go_num, hbel, hbel1⟩
      · have hd : decide ((k : Int) < 2) = false := by simp; omega
        go_wp2
        go_ret
        exact ⟨rfl, hbel⟩

end Go.Proofs.Ythjmpiekjfnoiaa
