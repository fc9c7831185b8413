/-
  The walk of Order: ranks by the first byte, and then by twice as many ones again and again.
-/
import Derived.Test.YthjmpiekjfnoiaaW13e
namespace Go.Proofs.Ythjmpiekjfnoiaa
open Go.RowKit

theorem tab_congr {n : Nat} {f f' : Nat → Int} (h : ∀ d, d < n → f d = f' d) : tab n f = tab n f' := List.map_congr_left (fun d hd => by rw [h d (by simpa using hd)])

theorem cycf_at (s : ByteArray) {k : Nat} (h : k < s.size) : cycf s k = s[k].toNat := by
  rw [cycf_small s h]; simp [List.getD, byteAt s k h]

set_option maxRecDepth 100000 in
set_option maxHeartbeats 1600000 in
theorem order_some (s : ByteArray) (w : World) (hn : s.size ≤ 1000000) (hpos : 0 < s.size) :
    Calls Try.prog 28 #[.string s] w fun e w' => ∃ v o, e = .returned v ∧ Ord (cycf s) s.size s.size o ∧ OwI w' w.heap.size v (outL s.size o) ∧ Below w.heap.size w w' := by
  go_enter Try.func28, Try.ntmps28
  go_wp2_with (at_make; refine mkA elInt rfl _ _ rfl s.size rfl rfl ?_ ?_; omega)
  go_loopg [2, 4, 15] s.size (fun gh s2 _s4 s15 wr => ∃ k : Nat, k ≤ s.size ∧ gh = s.size - k ∧ s15 = .int .i64 k ∧ (k = 0 → s2 = .slice none 0 0) ∧ OwI wr (w.heap.size + 2) s2 (outL k (fun d => (d : Int))) ∧
      Arr wr w.heap.size 3 (tab s.size (fun d => if d < k then (cycf s d : Int) else 0)) ∧ Arr wr (w.heap.size + 1) 48 [.string s, .slice (some ⟨w.heap.size, 0, none⟩) s.size s.size, .int .i64 0] ∧
      Below w.heap.size w wr ∧ w.heap.size + 2 ≤ wr.heap.size)
  case atStart =>
    refine ⟨0, Nat.zero_le _, rfl, rfl, fun _ => rfl, OwI.nil _ _, ?_, ?_, (belowNew _ _).trans ((Below.refl _ _).alloc (by simp) _), by simp⟩
    · have := (Arr.made w 3 (.int .i64 0) s.size).alloc (.cells #[.string s, .slice (some ⟨w.heap.size, 0, none⟩) s.size s.size, .int .i64 0] 48)
      rw [tab_zero] at this
      have e : (fun d => if d < 0 then (cycf s d : Int) else 0) = fun _ => (0 : Int) := by funext d; simp
      rw [e]; exact this
    · have := Arr.new (w.alloc (.cells (zeros (.int .i64 0) s.size) 3)) 48 [.string s, .slice (some ⟨w.heap.size, 0, none⟩) s.size s.size, .int .i64 0]
      rwa [World.size_alloc] at this
  case round =>
    obtain ⟨k, hk, hg, rfl, hnil, hown, hrk, hst, hbel, hsz⟩ := hrel
    have HG := hid hg
    have HNIL := hid hnil
    clear hg hnil
    by_cases hlt : k < s.size
    · have hb : s[k].toNat < 256 := s[k].toNat_lt
      have HB := hid (cycf_at s hlt)
      go_wp2_with (at_builtin; refine appI rfl _ _ rfl (w.heap.size + 2) _ _ rfl (hown.alloc _) wr.heap.size (k : Int) rfl ?_ ?_ ?_ ?_; (exact newc _ _ _); (rw [outL_length]; omega); (simp; omega); intro v' w1 hown' hB hgrow; (have hrk1 := (hrk.alloc (.cells #[.int .i64 (k : Int)] 3)).below hB (by omega)); (have hst1 := (hst.alloc (.cells #[.int .i64 (k : Int)] 3)).below hB (by omega)))
      have c1 : w1.cell? ⟨w.heap.size + 1, 1, none⟩ = some (.slice (some ⟨w.heap.size, 0, none⟩) s.size s.size) := hst1.cell rfl
      have c2 := hrk1.cell (tab_get s.size (fun d => if d < k then (cycf s d : Int) else 0) k hlt)
      have f1 := hrk1.free k
      have hsz1 := hB.size
      rw [World.size_alloc] at hsz1
      go_region
      all_goals go_wp2
      have hg := HG.out
      go_roundg (s.size - (k + 1))
      case measure => omega
      case rel =>
        refine ⟨k + 1, by omega, rfl, by go_num, fun h => by omega, ?_, ?_, ?_, ?_, ?_⟩
        · rw [outL_succ]
          exact Ow.drewN (ownsRow_setCell_below hown' (by show w.heap.size < _; omega) _) 1
        · have e := tab_set s.size (fun d => if d < k then (cycf s d : Int) else 0) (fun d => if d < k + 1 then (cycf s d : Int) else 0) k (s[k].toNat : Int) (fun d _ => by
            by_cases h1 : d = k
            · rw [if_pos h1, h1]; show (if k < k + 1 then (cycf s k : Int) else 0) = _; rw [if_pos (by omega), HB.out]
            · rw [if_neg h1]
              by_cases h2 : d < k
              · show (if d < k + 1 then (cycf s d : Int) else 0) = (if d < k then (cycf s d : Int) else 0); rw [if_pos (by omega), if_pos h2]
              · show (if d < k + 1 then (cycf s d : Int) else 0) = (if d < k then (cycf s d : Int) else 0); rw [if_neg (by omega), if_neg h2])
          rw [← e]
          exact (hrk1.set k _).drewN 1
        · exact (hst1.other ⟨w.heap.size, k, none⟩ (by simp) _).drewN 1
        · exact (((hbel.alloc (by omega) _).trans (hB.mono (by omega))).setCell (Nat.le_refl _) _).drew
        · show w.heap.size + 2 ≤ (w1.setCell _ _).heap.size
          exact Nat.le_trans (by omega) (gSet w1 _ _ _).size
    · have hke : k = s.size := by omega
      subst hke
      have hrk' : Arr wr w.heap.size 3 (tab s.size (fun d => (cycf s d : Int))) := by
        rw [tab_congr (f' := fun d => if d < s.size then (cycf s d : Int) else 0) (fun d hd => (if_pos hd).symm)]; exact hrk
      clear hrk hlt
      rcases Nat.eq_zero_or_pos s.size with h0 | h0
      · omega
      · obtain ⟨g, cap, hv, hBg, hd, hcap⟩ := dat_of_own hown (by intro e; have := congrArg List.length e; rw [outL_length, List.length_nil] at this; omega)
        subst hv
        rw [outL_length] at hd ⊢
        have hd' : Dat wr g cap s.size (fun d => (d : Int)) := hd.congr (fun d hd => by simp [List.getD, outL_get _ _ _ hd])
        clear hd hown hk
        obtain ⟨wo, rfl⟩ : ∃ wo : World, wo = wr := ⟨_, rfl⟩
        go_wp2_with fail
        go_loopg [2, 5, 6] s.size (fun gh s2 _s5 _s6 wr => ∃ (M b : Nat) (r o : Nat → Int), M < s.size ∧ gh = s.size - M ∧ s2 = .slice (some ⟨g, 0, none⟩) s.size cap ∧ Dat wr g cap s.size o ∧
          Hid ((∀ k, k < s.size → 0 ≤ o k ∧ o k < (s.size : Int)) ∧ ∀ i j, i < j → j < s.size → o i ≠ o j) ∧ Arr wr b 3 (tab s.size r) ∧
          Arr wr (w.heap.size + 1) 48 [.string s, .slice (some ⟨b, 0, none⟩) s.size s.size, .int .i64 (M : Int)] ∧ Hid (RankOK (cycf s) s.size (max M 1) r) ∧ b ≠ g ∧ w.heap.size ≤ b ∧ b ≠ w.heap.size + 1 ∧
          Below w.heap.size w wr)
        case atStart => exact ⟨0, w.heap.size, _, _, h0, rfl, rfl, hd', hid ⟨fun k hk => by show 0 ≤ (k : Int) ∧ (k : Int) < (s.size : Int); omega, fun i j h1 h2 => by show (i : Int) ≠ (j : Int); omega⟩, hrk', hst, hid (rank0 s), by omega, Nat.le_refl _, by omega, hbel⟩
        case round =>
          clear hd' hst hbel hrk' hsz
          obtain ⟨M, b, r, o, hMn, hg, rfl, hd, HO, hr, hst, HK, hbg, hbB, hbq, hbel⟩ := hrel
          have HG2 := hid hg
          clear hg
          obtain ⟨wp, rfl⟩ : ∃ wp : World, wp = wr := ⟨_, rfl⟩
          go_wp2_with fail
          refine (sortInts_any g cap s.size o _ hd hn HO.out.1 HO.out.2).mono ?_
          rintro e w1 ⟨rfl, hd1, hg1⟩
          have hr1 := hr.grown hg1 (fun e => hbg (Option.some.inj e))
          have hst1 := hst.grown hg1 (fun e => by have := Option.some.inj e; omega)
          have hbel1 := hbel.trans (gBelowOf hg1 (B := w.heap.size) (by omega) hbel.size)
          clear hd hr hst hbel hg1
          have c0 := hst1.cell (i := 0) rfl
          have c1 := hst1.cell (i := 1) rfl
          have c2 := hst1.cell (i := 2) rfl
          have hsrt := sort_any s b g cap s.size M r w1 (cycf s) rfl hn (by omega) hr1 hbg hd1 hcap (cycf_cyc s) HK.out
          unfold sorterV ranksV at hsrt
          have HS := hid hsrt
          clear hsrt
          go_wp2_with fail
          refine HS.out.mono ?_
          rintro e w2 ⟨rfl, ⟨h, hO, hd2⟩, hg2⟩
          have hr2 := hr1.grown hg2 (fun e => hbg (Option.some.inj e))
          have hst2 := hst1.grown hg2 (fun e => by have := Option.some.inj e; omega)
          have hbel2 := hbel1.trans (gBelowOf hg2 (B := w.heap.size) (by omega) hbel1.size)
          have HORD := hid hO
          clear HS HO hO hd1 hr1 hst1 hbel1 hg2 c0 c1 c2
          go_wp2_with (at_make; refine mkA elInt rfl _ _ rfl s.size rfl rfl ?_ ?_; omega)
          go_loopg [6] (s.size - 1) (fun gh s6 wr => ∃ (p : Nat) (f : Nat → Int), 1 ≤ p ∧ p ≤ s.size ∧ gh = s.size - p ∧ s6 = .int .i64 p ∧ Dat wr g cap s.size h ∧ Arr wr b 3 (tab s.size r) ∧
            Arr wr (w.heap.size + 1) 48 [.string s, .slice (some ⟨b, 0, none⟩) s.size s.size, .int .i64 (M : Int)] ∧ Arr wr w2.heap.size 3 (tab s.size f) ∧
            Hid (∀ j, j < p → f (h j).toNat = vr (cycf s) (max (2 * M) 1) h j) ∧ Below w.heap.size w wr)
          case atStart =>
            refine ⟨1, fun _ => 0, Nat.le_refl _, h0, ?_, rfl, hd2.below (belowNew _ _) hd2.lt, hr2.alloc _, hst2.alloc _, ?_, hid (fun j hj => ?_), hbel2.alloc hbel2.size _⟩
            · rfl
            · have := Arr.made w2 3 (.int .i64 0) s.size
              rwa [tab_zero] at this
            · have : j = 0 := by omega
              subst this; rfl
          case round =>
            have hw2 := hbel2.size
            have hgw2 := hd2.lt
            have hbw2 := hr2.lt
            have hqw2 := hst2.lt
            clear hd2 hr2 hst2 hbel2
            obtain ⟨p, f, hp1, hpn, hg, rfl, hd, hr, hst, hnx, HV, hbel⟩ := hrel
            have HG3 := hid hg
            clear hg
            by_cases hlt : p < s.size
            · obtain ⟨x, hx⟩ : ∃ x, x = (h p).toNat := ⟨_, rfl⟩
              obtain ⟨y, hy⟩ : ∃ y, y = (h (p - 1)).toNat := ⟨_, rfl⟩
              have bx := HORD.out.rng p hlt
              have by' := HORD.out.rng (p - 1) (by omega)
              have ex : h p = (x : Int) := by omega
              have ey : h (p - 1) = (y : Int) := by omega
              have hxn : x < s.size := by omega
              have hyn : y < s.size := by omega
              have c1 := hd.cell (k := p) hlt
              have c2 := hd.cell (k := p - 1) (by omega)
              rw [ex] at c1
              rw [ey] at c2
              have c3 := hnx.cell (tab_get s.size f y hyn)
              have c4 := hnx.cell (tab_get s.size f x hxn)
              have f1 := hnx.free x
              have hz := HV.out (p - 1) (by omega)
              rw [← hy] at hz
              have vb := vr_bd (cycf s) (max (2 * M) 1) h (p - 1)
              rw [← hz] at vb
              obtain ⟨z, hzz⟩ : ∃ z, z = f y := ⟨_, rfl⟩
              rw [← hzz] at c3 vb hz
              have HX := hid hx
              have HY := hid hy
              have EX := hid ex
              have EY := hid ey
              have HZ := hid hz
              clear hx hy ex ey hz hzz bx by'
              have s1 : IntKind.i64.wrap ((p : Int) - 1) = (p : Int) - 1 := IntWalk.i64_in _ (by omega)
              have s2 : ((p : Int) - 1).toNat = p - 1 := by omega
              have s3 : (0 : Int) ≤ (p : Int) - 1 := by omega
              have s4 : (p : Int) - 1 < (s.size : Int) := by omega
              have s6 : (1 : Int) ≤ (p : Int) := by omega
              have s11 : (p : Int) < (s.size : Int) := by omega
              have s12 : (0 : Int) ≤ (p : Int) := by omega
              have s7 : 1 ≤ p := hp1
              have s8 : 0 < p := by omega
              have s9 : (p : Int) ≤ (s.size : Int) := by omega
              go_wp2_with fail
              go_cut [] (fun wx => Dat wx g cap s.size h ∧ Arr wx b 3 (tab s.size r) ∧ Arr wx (w.heap.size + 1) 48 [.string s, .slice (some ⟨b, 0, none⟩) s.size s.size, .int .i64 (M : Int)] ∧
                Arr wx w2.heap.size 3 (tab s.size (setF f x z)) ∧ Below w.heap.size w wx)
              case first => as_aux_lemma =>
                go_region
                all_goals go_wp2_with fail
                all_goals go_meet
                exact ⟨(hd.other _ (by show w2.heap.size ≠ g; omega) _).drew, (hr.other _ (by show w2.heap.size ≠ b; omega) _).drewN 1, (hst.other _ (by show w2.heap.size ≠ w.heap.size + 1; omega) _).drewN 1,
                  (by have e := tab_set s.size f (setF f x z) x z (fun d _ => rfl); rw [← e]; exact (hnx.set x _).drewN 1), (hbel.setCell (by show w.heap.size ≤ w2.heap.size; omega) _).drew⟩
              case rest =>
                obtain ⟨hd', hr', hst', hnx', hbel'⟩ := hcut
                clear hd hr hst hnx hbel c1 c2 c3 c4 f1
                have c1 := hd'.cell (k := p) hlt
                have c2 := hd'.cell (k := p - 1) (by omega)
                rw [EX.out] at c1
                rw [EY.out] at c2
                have d0 := hst'.cell (i := 0) rfl
                have d1 := hst'.cell (i := 1) rfl
                have d2 := hst'.cell (i := 2) rfl
                obtain ⟨wq, hwq⟩ : ∃ wq : World, wq = wc := ⟨_, rfl⟩
                rw [← hwq] at hd' hr' hst' hnx' hbel' c1 c2 d0 d1 d2
                rw [← hwq]
                clear hwq
                go_wp2_with fail
                go_cut [71] (fun s71 wx => s71 = .bool (cmpI r s.size M y x != 0) ∧ Dat wx g cap s.size h ∧ Arr wx b 3 (tab s.size r) ∧ Arr wx (w.heap.size + 1) 48 [.string s, .slice (some ⟨b, 0, none⟩) s.size s.size, .int .i64 (M : Int)] ∧
                  Arr wx w2.heap.size 3 (tab s.size (setF f x z)) ∧ Below w.heap.size w wx)
                case first => as_aux_lemma =>
                  have hcmp : ∀ W, Arr W b 3 (tab s.size r) → Calls Try.prog 35 #[ranksV s b s.size M, .int .i64 (y : Int), .int .i64 (x : Int)] W fun e w' => e = .returned (.int .i64 (cmpI r s.size M y x)) ∧ Below W.heap.size W w' :=
                    fun W hW => compare_any s b s.size M y x r W rfl hn (by omega) hyn hxn hW
                  unfold ranksV at hcmp
                  have HC := hid hcmp
                  clear hcmp
                  have hbq' := hr'.lt
                  have hS0 := keepS ⟨d0, d1, d2, c2, c1, Below.refl wq.heap.size wq, Nat.le_refl _⟩ (Below.refl wq.heap.size wq).drew
                  clear c1 c2 d0 d1 d2
                  go_region_held3 (fun w' => w'.cell? ⟨w.heap.size + 1, 0, none⟩ = some (.string s) ∧ w'.cell? ⟨w.heap.size + 1, 1, none⟩ = some (.slice (some ⟨b, 0, none⟩) s.size s.size) ∧ w'.cell? ⟨w.heap.size + 1, 2, none⟩ = some (.int .i64 (M : Int)) ∧
                      w'.cell? ⟨g, p - 1, none⟩ = some (.int .i64 (y : Int)) ∧ w'.cell? ⟨g, p, none⟩ = some (.int .i64 (x : Int)) ∧ Below wq.heap.size wq w' ∧ wq.heap.size ≤ w'.heap.size)
                    (first
                      | with_reducible assumption
                      | with_reducible exact keepS (by assumption) (by assumption))
                    (first
                      | (go_at_call 35; refine (HC.out _ (keepArr hr' hbq' (by assumption))).mono ?_; rintro e w' ⟨rfl, hb⟩))
                  all_goals go_wp2_with fail
                  all_goals go_meet
                  all_goals (have hb := keepB (Below.refl wq.heap.size wq) (by assumption) (Nat.le_refl _); exact ⟨rfl, hd'.below hb hd'.lt, hr'.below hb hr'.lt, hst'.below hb hst'.lt, hnx'.below hb hnx'.lt, hbel'.trans (hb.mono hbel'.size)⟩)
                case rest =>
                  obtain ⟨rfl, hd, hr, hst, hnx, hbel⟩ := hcut
                  clear hd' hr' hst' hnx' hbel' c1 c2 d0 d1 d2
                  have hcs := (kcmp_spec (x := y) (y := x) (cycf_cyc s) HK.out hyn hxn).2
                  rw [← cmpI_eq] at hcs
                  have hvs := vr_step (cycf s) (max (2 * M) 1) h (p - 1)
                  rw [show p - 1 + 1 = p by omega, ← HX.out, ← HY.out, ← HZ.out] at hvs
                  by_cases hne : cmpI r s.size M y x = 0
                  · have t1 : (cmpI r s.size M y x != 0) = false := by simp [hne]
                    have hvp : vr (cycf s) (max (2 * M) 1) h p = z := (hvs.resolve_right (fun q => q.1 (hcs.1 hne))).2
                    have HVP := hid hvp
                    clear hvp hvs hcs hne
                    rw [t1]
                    clear t1
                    go_wp2_with fail
                    have hg := HG3.out
                    go_roundg (s.size - (p + 1))
                    case measure => omega
                    case rel =>
                      refine ⟨p + 1, setF f x z, by omega, by omega, rfl, by go_num, hd, hr, hst, hnx, hid (fun j hj => ?_), hbel⟩
                      unfold setF
                      rcases Nat.lt_or_ge j p with q | q
                      · have hnj := HORD.out.ne (i := j) (j := p) (by omega) hlt (by omega)
                        have bj := HORD.out.rng j (by omega)
                        have ep := EX.out
                        rw [if_neg (by omega)]; exact HV.out j q
                      · have : j = p := by omega
                        subst this
                        rw [if_pos HX.out.symm, HVP.out]
                  · have t1 : (cmpI r s.size M y x != 0) = true := by simp [hne]
                    have hvp : vr (cycf s) (max (2 * M) 1) h p = z + 1 := (hvs.resolve_left (fun q => hne (hcs.2 q.1))).2
                    have HVP := hid hvp
                    have c1 := hd.cell (k := p) hlt
                    rw [EX.out] at c1
                    have c4 := hnx.cell (tab_get s.size (setF f x z) x hxn)
                    have f1 := hnx.free x
                    have ez : setF f x z x = z := by unfold setF; rw [if_pos rfl]
                    rw [ez] at c4
                    have s10 : IntKind.i64.wrap (z + 1) = z + 1 := IntWalk.i64_in _ (by omega)
                    clear hvp hvs hcs hne ez
                    rw [t1]
                    clear t1
                    go_wp2_with fail
                    have hg := HG3.out
                    go_roundg (s.size - (p + 1))
                    case measure => omega
                    case rel =>
                      refine ⟨p + 1, setF (setF f x z) x (z + 1), by omega, by omega, rfl, by go_num, hd.other _ (by show w2.heap.size ≠ g; omega) _, hr.other _ (by show w2.heap.size ≠ b; omega) _, hst.other _ (by show w2.heap.size ≠ w.heap.size + 1; omega) _, ?_, hid (fun j hj => ?_), hbel.setCell (by show w.heap.size ≤ w2.heap.size; omega) _⟩
                      · have e := tab_set s.size (setF f x z) (setF (setF f x z) x (z + 1)) x (z + 1) (fun d _ => rfl)
                        rw [← e]; exact hnx.set x _
                      · unfold setF
                        rcases Nat.lt_or_ge j p with q | q
                        · have hnj := HORD.out.ne (i := j) (j := p) (by omega) hlt (by omega)
                          have bj := HORD.out.rng j (by omega)
                          have ep := EX.out
                          rw [if_neg (by omega), if_neg (by omega)]; exact HV.out j q
                        · have : j = p := by omega
                          subst this
                          rw [if_pos HX.out.symm, HVP.out]
            · have hpe : p = s.size := by omega
              subst hpe
              have c0 := hst.cell (i := 0) rfl
              have c1 := hst.cell (i := 1) rfl
              have c2 := hst.cell (i := 2) rfl
              have f1 := hst.free 1
              have f2 := hst.free 2
              have hrk := rank_of HORD.out (v := vr (cycf s) (max (2 * M) 1) h) (r := f) (fun i _ => vr_step _ _ _ i) (fun i hi => HV.out i hi)
              have HRK := hid hrk
              clear hrk
              obtain ⟨m', hm'⟩ : ∃ m', m' = max (2 * M) 1 := ⟨_, rfl⟩
              rw [← hm'] at HRK HORD
              have e1 : max (2 * (M : Int)) 1 = ((m' : Nat) : Int) := by omega
              have hM1 : M < m' := by omega
              have hM2 : m' ≤ 2 * s.size := by omega
              have hM3 : 1 ≤ m' := by omega
              clear hm'
              by_cases hend : s.size ≤ m'
              · have t1 : decide ((s.size : Int) ≤ (m' : Int)) = true := by simp; omega
                have t2 : decide (s.size ≤ m') = true := by simpa using hend
                go_wp2_with fail
                go_ret
                exact ⟨_, h, rfl, HORD.out.full (cycf_cyc s) h0 hend, own_of_dat ((hd.other _ (by show w.heap.size + 1 ≠ g; omega) _).other _ (by show w.heap.size + 1 ≠ g; omega) _) (by omega) hcap,
                  (hbel.setCell (by show w.heap.size ≤ w.heap.size + 1; omega) _).setCell (by show w.heap.size ≤ w.heap.size + 1; omega) _⟩
              · have t1 : decide ((s.size : Int) ≤ (m' : Int)) = false := by simp; omega
                have t2 : decide (s.size ≤ m') = false := by simpa using hend
                go_wp2_with fail
                have hg := HG2.out
                go_roundg (s.size - m')
                case measure => omega
                case rel =>
                  exact ⟨m', w2.heap.size, f, h, by omega, rfl, rfl, (hd.other _ (by show w.heap.size + 1 ≠ g; omega) _).other _ (by show w.heap.size + 1 ≠ g; omega) _, hid ⟨HORD.out.rng, fun i j h1 h2 => HORD.out.ne (by omega) h2 (by omega)⟩,
                    (hnx.other _ (by show w.heap.size + 1 ≠ w2.heap.size; omega) _).other _ (by show w.heap.size + 1 ≠ w2.heap.size; omega) _, (hst.set 1 _).set 2 _, hid (by rw [show max m' 1 = m' by omega]; exact HRK.out), by omega, by omega, by omega,
                    (hbel.setCell (by show w.heap.size ≤ w.heap.size + 1; omega) _).setCell (by show w.heap.size ≤ w.heap.size + 1; omega) _⟩

/-- Order: the places of the text's turns, in order, in a row of the call's own. -/
theorem order_any (s : ByteArray) (w : World) (hn : s.size ≤ 1000000) :
    Calls Try.prog 28 #[.string s] w fun e w' => ∃ v o, e = .returned v ∧ Ord (cycf s) s.size s.size o ∧ OwI w' w.heap.size v (outL s.size o) ∧ Below w.heap.size w w' := by
  rcases Nat.eq_zero_or_pos s.size with h0 | h0
  · have e := empty_of h0
    subst e
    refine (order_nil w).mono ?_
    rintro e w' ⟨rfl, hb⟩
    exact ⟨_, fun _ => 0, rfl, ⟨fun k hk => by simp at hk, fun i j _ _ h => by simp at h⟩, OwI.nil _ _, hb⟩
  · exact order_some s w hn h0

end Go.Proofs.Ythjmpiekjfnoiaa
