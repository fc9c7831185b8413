/-
  The walk of the statement SqueezeMost.
-/
import Derived.Test.YthjmpiekjfnoiaaGreatDoorZ7
namespace Go.Proofs.YthjmpiekjfnoiaaGreatDoor
open Go.RowKit Go.Shelf

theorem zeroCellsM : Tryz.zeroCells47 = (tab 256 (fun _ => 0)).toArray := by kernel_rfl
theorem rot_eqc (s : ByteArray) (k c : Nat) : eqc (rot s k) c = eqc s.data.toList c := by
  unfold rot eqc
  have : s.data.toList.drop k ++ s.data.toList.take k |>.Perm s.data.toList := (List.perm_append_comm).trans (by rw [List.take_append_drop])
  exact this.countP_eq _
theorem box15m {w1 : World} {a : ByteArray} {o : Int} {ad : Option Addr} {c : Nat} {l : List Int} (hr : RdI w1 (.slice ad l.length c) l) :
    Arr (w1.alloc (.cells #[.string a, .int .i64 o, .slice ad l.length c] 25)) w1.heap.size 25 [.string a, .int .i64 o, .slice ad l.length c] ∧
      RdI (w1.alloc (.cells #[.string a, .int .i64 o, .slice ad l.length c] 25)) (.slice ad l.length c) l ∧
      Below w1.heap.size w1 (w1.alloc (.cells #[.string a, .int .i64 o, .slice ad l.length c] 25)) :=
  ⟨Arr.new w1 25 [.string a, .int .i64 o, .slice ad l.length c], hr.below ((Below.refl _ _).alloc (Nat.le_refl _) _), (Below.refl _ _).alloc (Nat.le_refl _) _⟩

set_option maxRecDepth 100000 in
set_option maxHeartbeats 1600000 in
theorem squeezeMost_any (s : ByteArray) (more origin : Int) (w : World) (hE : ErrVar w) (_hs : s.size ≤ maxLen) (hm1 : -9223372036854775808 ≤ more) (hm2 : more ≤ 9223372036854775807) (ho1 : -9223372036854775808 ≤ origin) (ho2 : origin ≤ 9223372036854775807) :
    Calls Tryz.prog 8 #[.string s, .int .i64 more, .int .i64 origin] w fun e w' => e = .returned (.bool true) ∧ Below w.heap.size w w' := by
  unfold maxLen at _hs
  obtain ⟨m, hmi, hm3, hm4⟩ := minOf s.size 40 (by decide)
  have hmi2 : min (s.size : Int) 40 = (m : Int) := by rw [← hmi, Int.min_def]; split <;> split <;> omega
  obtain ⟨T, hT⟩ : ∃ T, T = s.extract 0 m := ⟨_, rfl⟩
  have hTs : T.size ≤ 40 := by rw [hT]; simp; omega
  have HT := hT.symm
  clear hT
  go_enter Tryz.func8, Tryz.ntmps8
  go_wp2_with fail
  refine (awake15_any _ hE).mono ?_
  rintro e w1 ⟨rfl, h1⟩
  have hE1 := hE.below h1
  by_cases h0 : T.size = 0
  · have z2 := str_nil (s := T) (List.length_eq_zero_iff.1 (by simpa using h0))
    clear h0
    go_wp2_with fail
    go_ret
    exact ⟨rfl, h1⟩
  · have h0p : 0 < T.size := by omega
    have z2 := str_full h0p
    clear h0
    go_wp2_with fail
    clear HT hmi hmi2 hm3 hm4 hE
    refine (sq_any T _ (by omega)).mono ?_
    rintro e w4 ⟨v4, rfl, hr4, h4, hO⟩
    have hO := hO h0p
    have z1 : sqE T = 0 := sqE_pos h0p
    rw [z1]
    obtain ⟨a4, c4, rfl, _, _, _⟩ := hr4.open
    obtain ⟨ha5, hr5, h5⟩ := box15m (a := sqA T) (o := sqO T) hr4
    have hB5 := belT (belT h1 h4) h5
    have hE5 := (hE1.below h4).below h5
    clear hr4 z1 h4
    go_upto_region 6 with fail
    generalize w4.alloc (.cells #[.string (sqA T), .int .i64 (sqO T), .slice a4 (sqS T).length c4] 25) = w5 at *
    have hl5 := ha5.lt
    have hA1 := sqA_le T
    have hL1 := (sqS_len T).1
    have hO1 : 0 ≤ sqO T ∧ sqO T < (T.size : Int) := by have := orig_lt h0p hO; rw [sqO_pos h0p]; omega
    obtain ⟨hp1, hp2⟩ := Pick_bd more 100 (by decide)
    have HO := hid hO
    go_cut [11, 12] (fun s11 s12 wx => s11 = .string T ∧ s12 = .int .i64 0 ∧ Below w5.heap.size w5 wx)
    case first =>
      have q1 : IntKind.i64.wrap ((T.size : Int) + Pick more 100) = (T.size : Int) + Pick more 100 := by rw [IntKind.wrap_i64]; omega
      have d0 := ha5.cell (i := 0) rfl
      have d1 := ha5.cell (i := 1) rfl
      have d2 := ha5.cell (i := 2) rfl
      have HR := hid (rest_sq h0p hO (most := (T.size : Int) + Pick more 100) (by omega))
      have hE5d : ErrVar w5.drew := hE5
      have hr5d : RdI w5.drew (.slice a4 (sqS T).length c4) (sqS T) := hr5
      clear hO
      go_region_with (first
        | (go_at_call 17; refine (pick15_any _ _ _ hm1 hm2 (by decide) (by decide)).mono ?_; rintro e w' ⟨rfl, rfl⟩)
        | (go_at_call 18; refine (restore_any _ _ _ (sqS T) ((T.size : Int) + Pick more 100) _ (by assumption) (by omega) (by assumption) (by omega) (by omega) (by omega) (by omega) (by omega)).mono ?_; rintro e w6 ⟨rfl, h6⟩; rw [HR.out]; have hB6 : Below w5.heap.size w5 w6 := (Below.refl _ _).drew.trans h6))
      all_goals go_wp2_with fail
      all_goals go_meet
      all_goals exact ⟨rfl, rfl, hB6⟩
    case rest =>
      obtain ⟨rfl, rfl, h6⟩ := hcut
      have ha6 := ha5.below h6 hl5
      have hr6 := hr5.below h6
      have hE6 := hE5.below h6
      have hB6 := belT hB5 h6
      have d0 := ha6.cell (i := 0) rfl
      have d1 := ha6.cell (i := 1) rfl
      have d2 := ha6.cell (i := 2) rfl
      obtain ⟨hq1, hq2⟩ := Pick_bd origin T.size (by omega)
      obtain ⟨q, hq⟩ := Int.eq_ofNat_of_zero_le hq1
      have hqT : q < T.size := by omega
      have HQ := hid hq
      obtain ⟨B, hB⟩ : ∃ B, B = mkS (rot T (oOf T q).toNat) := ⟨_, rfl⟩
      have hBs : B.size = T.size := by
        rw [hB, mkS_size, rot_length]
        have := (Ord.nat hO hqT).2
        omega
      have hBc : ∀ c, eqc B.data.toList c = eqc T.data.toList c := fun c => by rw [hB, mkS_toList, rot_eqc]
      have HR1 := hid (rest_turn h0p hO hqT (Int.le_refl _))
      rw [← hB] at HR1
      have HR2 := hid (rest_out h0p hO (o := (T.size : Int)) (Int.le_refl _) (by omega))
      have HR3 := hid (rest_out h0p hO (o := -1) (Int.le_refl _) (by omega))
      have HBC := hid hBc
      have HBS := hid hBs
      clear hq hq1 hq2 hp1 hp2 hB hBc ha5 hr5 hE5 hB5 h6 h5 hE1 h1 hO
      go_wp2_with (go_at_call 17; refine (pick15_any _ _ _ ?_ ?_ ?_ ?_).mono ?_; omega; omega; omega; omega; rintro e w' ⟨rfl, rfl⟩; rw [HQ.out])
      have hb7 := (box15m (a := sqA T) (o := (q : Int)) hr6).1
      have hW7 := (box15m (a := sqA T) (o := (q : Int)) hr6).2.2
      clear ha6 d0 d1 d2
      generalize wc.alloc (.cells #[.string (sqA T), .int .i64 (q : Int), .slice a4 (sqS T).length c4] 25) = w7 at *
      refine (restore_any _ _ _ (sqS T) (T.size : Int) w7 (hE6.below hW7) (by omega) (hr6.below hW7) (by omega) (by omega) (by omega) (by omega) (by omega)).mono ?_
      rintro e w8 ⟨rfl, h8⟩
      rw [HR1.out]
      have hb8 := hb7.below h8 hb7.lt
      have hW8 := belT hW7 h8
      have d0 := hb8.cell (i := 0) rfl
      have d1 := hb8.cell (i := 1) rfl
      have d2 := hb8.cell (i := 2) rfl
      have f0 := hb8.free
      clear hb7 hW7 h8
      go_wp2_with fail
      have hb9 := hb8.set 1 (.int .i64 (T.size : Int))
      have hW9 := hW8.setCell (p := ⟨wc.heap.size, 1, none⟩) (Nat.le_refl _) (.int .i64 (T.size : Int))
      clear hb8 hW8 d0 d1 d2 f0
      generalize w8.setCell ⟨wc.heap.size, 1, none⟩ (.int .i64 (T.size : Int)) = w9 at *
      refine (restore_any _ _ _ (sqS T) (T.size : Int) w9 (hE6.below hW9) (by omega) (hr6.below hW9) (by omega) (by omega) (by omega) (by omega) (by omega)).mono ?_
      rintro e wA ⟨rfl, hA⟩
      rw [HR2.out]
      have hbA := hb9.below hA hb9.lt
      have hWA := belT hW9 hA
      have d0 := hbA.cell (i := 0) rfl
      have d1 := hbA.cell (i := 1) rfl
      have d2 := hbA.cell (i := 2) rfl
      have f0 := hbA.free
      clear hb9 hW9 hA
      go_wp2_with fail
      have hbB := hbA.set 1 (.int .i64 (-1))
      have hWB := hWA.setCell (p := ⟨wc.heap.size, 1, none⟩) (Nat.le_refl _) (.int .i64 (-1))
      clear hbA hWA d0 d1 d2 f0
      generalize wA.setCell ⟨wc.heap.size, 1, none⟩ (.int .i64 (-1)) = wB at *
      refine (restore_any _ _ _ (sqS T) (T.size : Int) wB (hE6.below hWB) (by omega) (hr6.below hWB) (by omega) (by omega) (by omega) (by omega) (by omega)).mono ?_
      rintro e wC ⟨rfl, hC⟩
      rw [HR3.out]
      have hBC := belT hB6 (belT hWB hC)
      have g0 : ((B.size : Int) != (T.size : Int)) = false := by rw [HBS.out]; simp
      have g1 : (T.toList != T.toList) = false := by simp
      clear hbB hWB hC hr6 hE6 hB6 HR1 HR2 HR3
      go_wp2_with fail
      have HTL := hid (show T.data.toList.length = T.size by simp)
      have HBL := hid (show B.data.toList.length = T.size by rw [← HBS.out]; simp)
      have hsC := hBC.size
      go_loopg [21] T.size (fun g i wr => ∃ k : Nat, k ≤ T.size ∧ g = T.size - k ∧ i = .int .i64 k ∧ Arr wr wC.heap.size 47 (tab 256 (cntD T.data.toList B.data.toList k)) ∧ Below w.heap.size w wr)
      case atStart =>
        refine ⟨0, Nat.zero_le _, rfl, rfl, ?_, belA hBC _⟩
        rw [cntD_zero, zeroCellsM]
        exact Arr.new wC _ _
      case round =>
        obtain ⟨i, hi, hg, rfl, harr, hbel⟩ := hrel
        have HG2 := hid hg
        clear hg
        by_cases hil : i < T.size
        · have hiL : i < B.size := by rw [HBS.out]; exact hil
          have HSUC := hid (cntD_succ T.data.toList B.data.toList i T[i] B[i] (byteAt T i hil) (byteAt B i hiL))
          have bdx := cntD_bd T.data.toList B.data.toList i (T[i].toNat)
          have bdy := cntD_bd T.data.toList B.data.toList i (B[i].toNat)
          rw [HTL.out, HBL.out] at bdx bdy
          have hbt := T[i].toNat_lt
          have hbL := B[i].toNat_lt
          have c2 := harr.cell (tab_get 256 (cntD T.data.toList B.data.toList i) T[i].toNat (by omega))
          have c3 := harr.cell (tab_get 256 (cntD T.data.toList B.data.toList i) B[i].toNat (by omega))
          have fr1 := harr.free T[i].toNat
          have fr2 := harr.free B[i].toNat
          obtain ⟨x, hx⟩ : ∃ x, x = cntD T.data.toList B.data.toList i T[i].toNat := ⟨_, rfl⟩
          obtain ⟨y, hy⟩ : ∃ y, y = cntD T.data.toList B.data.toList i B[i].toNat := ⟨_, rfl⟩
          rw [← hx] at c2 bdx
          rw [← hy] at c3 bdy
          obtain ⟨bn, hbn⟩ : ∃ bn, T[i].toNat = bn := ⟨_, rfl⟩
          obtain ⟨en, hen⟩ : ∃ en, B[i].toNat = en := ⟨_, rfl⟩
          rw [hbn] at c2 fr1 hbt hx
          rw [hen] at c3 fr2 hbL hy
          have HX := hid hx
          have HY := hid hy
          have HBN := hid hbn
          have HEN := hid hen
          have w1' : IntKind.i64.wrap (x + 1) = x + 1 := IntWalk.i64_in _ (by omega)
          have w2' : IntKind.i64.wrap (y - 1) = y - 1 := IntWalk.i64_in _ (by omega)
          clear hx hy
          by_cases hbe : bn = en
          · subst hbe
            go_wp2_with fail
            have hg2 := HG2.out
            go_roundg (T.size - (i + 1))
            case measure => omega
            case rel =>
              refine ⟨i + 1, by omega, rfl, by go_num, ?_, (hbel.setCell (by show w.heap.size ≤ wC.heap.size; omega) _).setCell (by show w.heap.size ≤ wC.heap.size; omega) _⟩
              have e1 := tab_set 256 (cntD T.data.toList B.data.toList i) (setF (cntD T.data.toList B.data.toList i) bn (x + 1)) bn (x + 1) (fun d _ => rfl)
              have e2 := tab_set 256 (setF (cntD T.data.toList B.data.toList i) bn (x + 1)) (cntD T.data.toList B.data.toList (i + 1)) bn (x) (fun d _ => by
                have hx := HX.out
                have hy := HY.out
                rw [HSUC.out d, HBN.out, HEN.out]
                unfold setF
                by_cases h1 : d = bn
                · rw [if_pos h1, if_pos h1.symm, h1]; omega
                · rw [if_neg h1, if_neg h1, if_neg (fun e => h1 e.symm)]; omega)
              rw [← e2, ← e1]
              exact (harr.set bn (.int .i64 (x + 1))).set bn (.int .i64 x)
          · have hbe' : en ≠ bn := fun e => hbe e.symm
            go_wp2_with fail
            have hg2 := HG2.out
            go_roundg (T.size - (i + 1))
            case measure => omega
            case rel =>
              refine ⟨i + 1, by omega, rfl, by go_num, ?_, (hbel.setCell (by show w.heap.size ≤ wC.heap.size; omega) _).setCell (by show w.heap.size ≤ wC.heap.size; omega) _⟩
              have e1 := tab_set 256 (cntD T.data.toList B.data.toList i) (setF (cntD T.data.toList B.data.toList i) bn (x + 1)) bn (x + 1) (fun d _ => rfl)
              have e2 := tab_set 256 (setF (cntD T.data.toList B.data.toList i) bn (x + 1)) (cntD T.data.toList B.data.toList (i + 1)) en (y - 1) (fun d _ => by
                have hx := HX.out
                have hy := HY.out
                rw [HSUC.out d, HBN.out, HEN.out]
                unfold setF
                by_cases h1 : d = en
                · rw [if_pos h1, if_neg (fun e => hbe (e.trans h1)), if_pos h1.symm, h1]; omega
                · rw [if_neg h1]
                  by_cases h2 : d = bn
                  · rw [if_pos h2, if_pos h2.symm, if_neg (fun e => h1 e.symm), h2]; omega
                  · rw [if_neg h2, if_neg (fun e => h2 e.symm), if_neg (fun e => h1 e.symm)]; omega)
              rw [← e2, ← e1]
              exact (harr.set bn (.int .i64 (x + 1))).set en (.int .i64 (y - 1))
        · have hie : i = T.size := by omega
          subst hie
          have hz : ∀ c, cntD T.data.toList B.data.toList T.size c = 0 := by
            intro c
            unfold cntD
            rw [List.take_of_length_le (by rw [HTL.out]; exact Nat.le_refl _), List.take_of_length_le (by rw [HBL.out]; exact Nat.le_refl _), HBC.out]
            omega
          have harr0 : Arr wr wC.heap.size 47 (tab 256 (fun _ => 0)) := by
            rw [tab_congr (f' := cntD T.data.toList B.data.toList T.size) (fun d _ => (hz d).symm)]; exact harr
          clear harr hz
          obtain ⟨wp, rfl⟩ : ∃ wp : World, wp = wr := ⟨_, rfl⟩
          go_wp2_with fail
          go_loopg [22] 256 (fun g i wr => ∃ k : Nat, k ≤ 256 ∧ g = 256 - k ∧ i = .int .i64 k ∧ wp = wr)
          case atStart => exact ⟨0, Nat.zero_le _, rfl, rfl, rfl⟩
          case round =>
            obtain ⟨c, hc, hg, rfl, rfl⟩ := hrel
            have HG3 := hid hg
            clear hg
            by_cases hlc : c < 256
            · have c1 := harr0.cell (tab_get 256 (fun _ => 0) c hlc)
              have t1 : decide ((c : Int) < 256) = true := by simp; omega
              go_wp2_with fail
              have hg := HG3.out
              go_roundg (256 - (c + 1))
              case measure => omega
              case rel => exact ⟨c + 1, by omega, rfl, by go_num, rfl⟩
            · have t1 : decide ((c : Int) < 256) = false := by simp; omega
              go_wp2_with fail
              go_ret
              exact ⟨rfl, hbel⟩

end Go.Proofs.YthjmpiekjfnoiaaGreatDoor
