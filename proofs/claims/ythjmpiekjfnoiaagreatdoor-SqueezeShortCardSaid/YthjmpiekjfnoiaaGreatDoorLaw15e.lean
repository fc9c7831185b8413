/-
  The walk of the statement SqueezeShort.
-/
import Derived.Test.YthjmpiekjfnoiaaGreatDoorZ7
namespace Go.Proofs.YthjmpiekjfnoiaaGreatDoor
open Go.RowKit Go.Shelf

theorem mtf_one (z : UInt8) : ∀ k, mtfL [z] (List.replicate k z) = List.replicate k 0 := by
  intro k
  induction k with
  | zero => rfl
  | succ k ih =>
    have hp : plc [z] z = 0 := by simp [plc]
    have ht : toFront [z] 0 = [z] := by simp [toFront]
    rw [List.replicate_succ, List.replicate_succ, mtfL, hp, ht, ih]; rfl
theorem one_facts {k : Nat} (hk : 0 < k) {s : ByteArray} (hs : s.data.toList = List.replicate k 122) (hO : OrdS s) : sqA s = ⟨#[122]⟩ ∧ sqO s = 0 ∧ (sqS s).length = (dig k).length + 1 := by
  have hz : s.size = k := by
    have : s.data.toList.length = s.size := by simp
    rw [← this, hs, List.length_replicate]
  have h0 : 0 < s.size := by omega
  have ha : alph s.data.toList = [122] := by
    rw [alph_congr (t := [122]) (fun b => by rw [hs, List.mem_replicate, List.mem_singleton]; exact ⟨fun h => h.2, fun h => ⟨by omega, h⟩⟩)]
    decide +kernel
  have hl : lastS s = List.replicate k 122 := by
    have := lastS_perm hO
    rw [hs] at this
    exact List.perm_replicate.1 this
  have hc : ∀ i, cycf s i = 122 := fun i => by
    have hm : i % s.size < s.data.toList.length := by
      have : s.data.toList.length = s.size := by simp
      rw [this]; exact Nat.mod_lt _ h0
    unfold cycf
    simp only [List.getD, List.getElem?_eq_getElem hm, Option.getD_some]
    have : s.data.toList[i % s.size] = 122 := List.eq_of_mem_replicate (by rw [← hs]; exact List.getElem_mem hm)
    rw [this]; rfl
  have hO' : Ord (cycf s) s.size s.size (oOf s) := hO
  have hinc : ∀ i, i + 1 < s.size → oOf s i < oOf s (i + 1) := fun i hi => by
    rcases hO'.srt i (i + 1) (Nat.zero_le _) (Nat.lt_succ_self _) hi with ⟨t, _, _, h⟩ | ⟨_, h⟩
    · rw [hc, hc] at h; omega
    · exact h
  have hid := rise_id hO'.rng hinc
  obtain ⟨q1, q2⟩ := orig_lt h0 hO
  rw [hid _ q1] at q2
  refine ⟨by rw [sqA_pos h0, ha]; rfl, by rw [sqO_pos h0]; exact q2, ?_⟩
  rw [sqS_pos h0, ha, hl, mtf_one, List.length_append]
  have := zenc_run (List.replicate k 0) 0 [] (fun x hx => List.eq_of_mem_replicate hx)
  rw [List.append_nil, List.length_replicate, Nat.zero_add] at this
  rw [this]; rfl

/-- A symbol of a squeezed text: in its bounds, and the end's just at the end. -/
theorem sym_at {t : ByteArray} (h0 : 0 < t.size) (hO : OrdS t) {i : Nat} {x : Int} (hx : (sqS t)[i]? = some x) : 0 ≤ x ∧ x < ((sqA t).size : Int) + 2 ∧ ((x == ((sqA t).size : Int) + 2 - 1) = ((i : Int) == ((sqS t).length : Int) - 1)) := by
  obtain ⟨m1, m2, m3⟩ := sq_may h0 hO
  have hi : i < (sqS t).length := (List.getElem?_eq_some_iff.1 hx).1
  by_cases he : i = (sqS t).length - 1
  · rw [← he, hx] at m2
    have := Option.some.inj m2
    refine ⟨by omega, by omega, ?_⟩
    have e1 : (x == ((sqA t).size : Int) + 2 - 1) = true := by rw [beq_iff_eq]; omega
    have e2 : ((i : Int) == ((sqS t).length : Int) - 1) = true := by rw [beq_iff_eq]; omega
    rw [e1, e2]
  · have hm := m3 x (List.mem_of_getElem? (i := i) (by rw [List.getElem?_take, if_pos (by omega)]; exact hx))
    refine ⟨by omega, by omega, ?_⟩
    have e1 : (x == ((sqA t).size : Int) + 2 - 1) = false := by rw [beq_eq_false_iff_ne]; omega
    have e2 : ((i : Int) == ((sqS t).length : Int) - 1) = false := by rw [beq_eq_false_iff_ne]; omega
    rw [e1, e2]

theorem box15s {w1 : World} {a : ByteArray} {o : Int} {ad : Option Addr} {c : Nat} {l : List Int} (hr : RdI w1 (.slice ad l.length c) l) :
    Arr (w1.alloc (.cells #[.string a, .int .i64 o, .slice ad l.length c] 25)) w1.heap.size 25 [.string a, .int .i64 o, .slice ad l.length c] ∧
      RdI (w1.alloc (.cells #[.string a, .int .i64 o, .slice ad l.length c] 25)) (.slice ad l.length c) l ∧
      Below w1.heap.size w1 (w1.alloc (.cells #[.string a, .int .i64 o, .slice ad l.length c] 25)) :=
  ⟨Arr.new w1 25 [.string a, .int .i64 o, .slice ad l.length c], hr.below ((Below.refl _ _).alloc (Nat.le_refl _) _), (Below.refl _ _).alloc (Nat.le_refl _) _⟩

/-- What the regions read: the squeezed text in its variable, and one symbol. -/
abbrev ShortS (W : World) (bx b q : Nat) (A : ByteArray) (o : Int) (v : Value) (x : Int) (w' : World) : Prop :=
  w'.cell? ⟨bx, 0, none⟩ = some (.string A) ∧ w'.cell? ⟨bx, 1, none⟩ = some (.int .i64 o) ∧ w'.cell? ⟨bx, 2, none⟩ = some v ∧ w'.cell? ⟨b, q, none⟩ = some (.int .i64 x) ∧ Below W.heap.size W w'
theorem ShortS.keep {W w w' : World} {bx b q : Nat} {A : ByteArray} {o : Int} {v : Value} {x : Int} (h : ShortS W bx b q A o v x w) (h1 : bx < W.heap.size) (h2 : b < W.heap.size) (hb : Below w.heap.size w w') : ShortS W bx b q A o v x w' := by
  obtain ⟨k1, k2, k3, k4, k5⟩ := h
  have hz := k5.size
  refine ⟨?_, ?_, ?_, ?_, k5.trans (hb.mono hz)⟩
  · rw [hb.cell (p := ⟨bx, 0, none⟩) (Nat.lt_of_lt_of_le h1 hz)]; exact k1
  · rw [hb.cell (p := ⟨bx, 1, none⟩) (Nat.lt_of_lt_of_le h1 hz)]; exact k2
  · rw [hb.cell (p := ⟨bx, 2, none⟩) (Nat.lt_of_lt_of_le h1 hz)]; exact k3
  · rw [hb.cell (p := ⟨b, q, none⟩) (Nat.lt_of_lt_of_le h2 hz)]; exact k4
theorem ShortS.drew {W w : World} {bx b q : Nat} {A : ByteArray} {o : Int} {v : Value} {x : Int} (h : ShortS W bx b q A o v x w) : ShortS W bx b q A o v x w.drew := ⟨h.1, h.2.1, h.2.2.1, h.2.2.2.1, h.2.2.2.2.drew⟩

set_option maxRecDepth 100000 in
set_option maxHeartbeats 1600000 in
theorem squeezeShort_any (s : ByteArray) (v : Value) (raw : List (Int × Int)) (n : Int) (w : World) (hE : ErrVar w) (_hs : s.size ≤ maxLen) (hr : RdP w v raw) (hwf : WfP raw) (hn1 : -9223372036854775808 ≤ n) (hn2 : n ≤ 9223372036854775807) :
    Calls Tryz.prog 6 #[.string s, v, .int .i64 n] w fun e w' => e = .returned (.bool true) ∧ Below w.heap.size w w' := by
  unfold maxLen at _hs
  go_enter Tryz.func6, Tryz.ntmps6
  go_wp2_with fail
  refine (awake15_any _ hE).mono ?_
  rintro e w1 ⟨rfl, h1⟩
  have hr1 := hr.below h1
  go_upto_region 2 with fail
  go_cut [26, 27, 28] (fun s26 s27 s28 wx => Pair w wx s26 50 100 ∧ s27 = .int .i64 2 ∧ s28 = .int .i64 0)
  case first =>
    obtain ⟨m, hmi, hm1, hm2⟩ := minOf s.size 50 (by decide)
    have hmi2 : min (s.size : Int) 50 = (m : Int) := by rw [← hmi, Int.min_def]; split <;> split <;> omega
    go_region_with (go_at_call 10; refine (runs_any _ raw _ _ ?_ hwf ?_ ?_).mono ?_; (first | exact hr1 | exact hr1.below ((Below.refl _ _).drew)); decide; decide; rintro e w2 ⟨t, rfl, ht, h2⟩)
    all_goals go_wp2_with fail
    all_goals go_meet
    all_goals have h2' : Below w1.heap.size w1 w2 := by first | exact h2 | exact (Below.refl _ _).drew.trans h2
    all_goals exact ⟨⟨w2.heap.size, s.extract 0 m, t, rfl, Arr.new w2 _ [.string _, .string _], by simp; omega, by omega, belA (belT h1 h2') _, (belT h1 h2').size⟩, rfl, rfl⟩
  case rest =>
    obtain ⟨⟨pb, t0, t1, rfl, harr, hz0, hz1, hbel, hpb⟩, rfl, rfl⟩ := hcut
    clear hr hr1 h1 hwf _hs
    go_wp2
    go_loopg [28] 2 (fun g i wr => ∃ k : Nat, k ≤ 2 ∧ g = 2 - k ∧ i = .int .i64 k ∧ Below wc.heap.size wc wr)
    case atStart => exact ⟨0, by omega, rfl, rfl, Below.refl _ _⟩
    case round =>
      obtain ⟨k, hk, hg, rfl, hbr⟩ := hrel
      have HG := hid hg
      clear hg
      by_cases hlt : k < 2
      · obtain ⟨t, ht, hc⟩ : ∃ t : ByteArray, t.size ≤ 100 ∧ wr.cell? ⟨pb, k, none⟩ = some (.string t) := by
          have har := harr.below hbr harr.lt
          rcases (show k = 0 ∨ k = 1 by omega) with rfl | rfl
          · exact ⟨t0, by omega, har.cell (i := 0) rfl⟩
          · exact ⟨t1, by omega, har.cell (i := 1) rfl⟩
        have hd : decide ((k : Int) < 2) = true := by simp; omega
        go_wp2_with fail
        refine (sq_any t _ (by omega)).mono ?_
        rintro e w4 ⟨v4, rfl, hr4, h4, hO⟩
        obtain ⟨a4, c4, rfl, hcc, hcm, _⟩ := hr4.open
        unfold maxLen at hcm
        obtain ⟨ha5, hr5, h5⟩ := box15s (a := sqA t) (o := sqO t) hr4
        have hB5 := belT (belT hbr h4) h5
        obtain ⟨w5, hw5⟩ : ∃ w5, w5 = w4.alloc (.cells #[.string (sqA t), .int .i64 (sqO t), .slice a4 (sqS t).length c4] 25) := ⟨_, rfl⟩
        rw [← hw5] at ha5 hr5 h5 hB5
        have HW := hid hw5
        clear hr4 h4 hc hw5
        by_cases h0 : t.size = 0
        · have z2 := str_nil (s := t) (List.length_eq_zero_iff.1 (by simpa using h0))
          clear h0
          go_wp2_with fail
          rw [← HW.out]
          have hg := HG.out
          go_roundg (2 - (k + 1))
          case measure => omega
          case rel => exact ⟨k + 1, by omega, rfl, by go_num, hB5⟩
        · have h0p : 0 < t.size := by omega
          have z2 := str_full h0p
          have hO := hO h0p
          have z1 : sqE t = 0 := sqE_pos h0p
          rw [z1]
          obtain ⟨hL1, hL2⟩ := sqS_len t
          have hL2 := hL2 h0p
          have HSY := hid (fun i x h => sym_at (i := i) (x := x) h0p hO h)
          have hA1 := sqA_le t
          obtain ⟨L, hL⟩ : ∃ L, L = sqS t := ⟨_, rfl⟩
          rw [← hL] at ha5 hr5 HW HSY hL1 hL2 hcc ⊢
          obtain ⟨A, hA⟩ : ∃ A, A = sqA t := ⟨_, rfl⟩
          rw [← hA] at ha5 HW HSY hA1 ⊢
          have t1 : decide ((t.size : Int) + 1 < (L.length : Int)) = false := decide_eq_false (by omega)
          have t2 : decide ((L.length : Int) < 2) = false := decide_eq_false (by omega)
          have t3 : decide (t.size + 1 < L.length) = false := decide_eq_false (by omega)
          clear hL hA h0 hO
          have hl5 := ha5.lt
          have d0 := ha5.cell (i := 0) rfl
          have d1 := ha5.cell (i := 1) rfl
          have d2 := ha5.cell (i := 2) rfl
          go_wp2_with fail
          rw [← HW.out]
          go_loopg [12] L.length (fun g i wr => ∃ j : Nat, j ≤ L.length ∧ g = L.length - j ∧ i = .int .i64 j ∧ Below w5.heap.size w5 wr)
          case atStart => exact ⟨0, Nat.zero_le _, rfl, rfl, Below.refl _ _⟩
          case round =>
            obtain ⟨j, hj, hg2, rfl, hb6⟩ := hrel
            have HG2 := hid hg2
            clear hg2
            have ha6 := ha5.below hb6 hl5
            have e0 := ha6.cell (i := 0) rfl
            have e1 := ha6.cell (i := 1) rfl
            have e2 := ha6.cell (i := 2) rfl
            clear d0 d1 d2
            by_cases hjl : j < L.length
            · obtain ⟨x, hx⟩ := getI hjl
              obtain ⟨s1, s2, s3⟩ := HSY.out j x hx
              obtain ⟨b1, o1, rfl, hb1, hc1⟩ := open2 hr5 (by omega)
              have cx := hc1 j x hx
              have f1 : decide (x < 0) = false := decide_eq_false (by omega)
              have f2 : decide ((A.size : Int) + 2 ≤ x) = false := decide_eq_false (by omega)
              have f3 : ((x == ((A.size : Int) + 2 - 1)) != ((j : Int) == ((L.length : Int) - 1))) = false := by rw [s3]; simp
              have f4 : (!((x == ((A.size : Int) + 2 - 1)) == ((j : Int) == ((L.length : Int) - 1)))) = false := by rw [s3]; simp
              have q1 : IntKind.i64.wrap ((A.size : Int) + 2 - 1) = (A.size : Int) + 2 - 1 := by rw [IntKind.wrap_i64]; omega
              have q2 : IntKind.i64.wrap ((L.length : Int) - 1) = (L.length : Int) - 1 := by rw [IntKind.wrap_i64]; omega
              have q3 : (0 : Int) ≤ (j : Int) := by omega
              have q4 : (j : Int) < (L.length : Int) := by omega
              have hl6 : w4.heap.size < wr.heap.size := ha6.lt
              have hb1' : b1 < wr.heap.size := Nat.lt_of_lt_of_le hb1 hb6.size
              have z0 : ShortS wr w4.heap.size b1 (o1 + j) A (sqO t) (.slice (some ⟨b1, o1, none⟩) L.length c4) x wr := ⟨e0, e1, e2, by rw [hb6.cell (p := ⟨b1, o1 + j, none⟩) hb1]; exact cx, Below.refl _ _⟩
              clear hc1 hx cx s1 s2 s3
              go_upto_region 12 with fail
              refine wp_region_held_drew (S := (fun w' => w'.cell? ⟨w4.heap.size, 0, none⟩ = some (.string A) ∧ w'.cell? ⟨w4.heap.size, 1, none⟩ = some (.int .i64 (sqO t)) ∧ w'.cell? ⟨w4.heap.size, 2, none⟩ = some (.slice (some ⟨b1, o1, none⟩) L.length c4) ∧ w'.cell? ⟨b1, o1 + j, none⟩ = some (.int .i64 x) ∧ Below wr.heap.size wr w')) (by kernel_rfl) (ShortS.drew z0) (fun hHeld => ?_)
              refine wpAnyH_take (i := 0) (oi := ?oi0) (v := ?v0) ?hi0 (by kernel_rfl) (by kernel_rfl) (by kernel_rfl) ?hq0 ?hy0 (by assumption) ?_
              case hi0 => (simp only [List.getElem?_toArray, List.getElem?_cons_zero]; rfl)
              case hq0 => exact fun _ _ _ h => h
              case hy0 => (refine Or.inl ⟨by rfl, ?_⟩; intro w' hSw; (try dsimp only at hSw); (try go_simp); try with_reducible rfl)
              try simp only [Act.put, List.setIfInBounds_toArray, List.set_cons_zero, List.set_cons_succ]
              refine wpAnyH_take (i := 1) (oi := ?oi1) (v := ?v1) ?hi1 (by kernel_rfl) (by kernel_rfl) (by kernel_rfl) ?hq1 ?hy1 (by assumption) ?_
              case hi1 => (simp only [List.getElem?_toArray, List.getElem?_cons_succ, List.getElem?_cons_zero]; rfl)
              case hq1 => exact fun _ _ _ h => h
              case hy1 => (refine Or.inl ⟨by rfl, ?_⟩; intro w' hSw; (try dsimp only at hSw); (try go_simp); try with_reducible rfl)
              try simp only [Act.put, List.setIfInBounds_toArray, List.set_cons_zero, List.set_cons_succ]
              refine wpAnyH_take (i := 2) (oi := ?oi2) (v := ?v2) ?hi2 (by kernel_rfl) (by kernel_rfl) (by kernel_rfl) ?hq2 ?hy2 (by assumption) ?_
              case hi2 => (simp only [List.getElem?_toArray, List.getElem?_cons_succ, List.getElem?_cons_zero]; rfl)
              case hq2 => exact fun _ _ _ h => h
              case hy2 => (refine Or.inl ⟨by rfl, ?_⟩; intro w' hSw; (try dsimp only at hSw); (try go_simp); try with_reducible rfl)
              try simp only [Act.put, List.setIfInBounds_toArray, List.set_cons_zero, List.set_cons_succ]
              refine wpAnyH_take (i := 3) (oi := ?oi3) (v := ?v3) ?hi3 (by kernel_rfl) (by kernel_rfl) (by kernel_rfl) ?hq3 ?hy3 (by assumption) ?_
              case hi3 => (simp only [List.getElem?_toArray, List.getElem?_cons_succ, List.getElem?_cons_zero]; rfl)
              case hq3 => exact fun _ _ _ h => h
              case hy3 => (refine Or.inl ⟨by rfl, ?_⟩; intro w' hSw; (try dsimp only at hSw); (try go_simp); try with_reducible rfl)
              try simp only [Act.put, List.setIfInBounds_toArray, List.set_cons_zero, List.set_cons_succ]
              refine wpAnyH_take (i := 4) (oi := ?oi4) (v := ?v4) ?hi4 (by kernel_rfl) (by kernel_rfl) (by kernel_rfl) ?hq4 ?hy4 (by assumption) ?_
              case hi4 => (simp only [List.getElem?_toArray, List.getElem?_cons_succ, List.getElem?_cons_zero]; rfl)
              case hq4 => exact fun _ _ _ h => h
              case hy4 => (refine Or.inl ⟨by rfl, ?_⟩; intro w' hSw; (try dsimp only at hSw); (try go_simp); try with_reducible rfl)
              try simp only [Act.put, List.setIfInBounds_toArray, List.set_cons_zero, List.set_cons_succ]
              refine wpAnyH_take (i := 5) (oi := ?oi5) (v := ?v5) ?hi5 (by kernel_rfl) (by kernel_rfl) (by kernel_rfl) ?hq5 ?hy5 (by assumption) ?_
              case hi5 => (simp only [List.getElem?_toArray, List.getElem?_cons_succ, List.getElem?_cons_zero]; rfl)
              case hq5 => exact fun _ _ _ h => h
              case hy5 => (refine Or.inl ⟨by rfl, ?_⟩; intro w' hSw; (try dsimp only at hSw); (try go_simp); try with_reducible rfl)
              try simp only [Act.put, List.setIfInBounds_toArray, List.set_cons_zero, List.set_cons_succ]
              refine wpAnyH_take (i := 6) (oi := ?oi6) (v := ?v6) ?hi6 (by kernel_rfl) (by kernel_rfl) (by kernel_rfl) ?hq6 ?hy6 (by assumption) ?_
              case hi6 => (simp only [List.getElem?_toArray, List.getElem?_cons_succ, List.getElem?_cons_zero]; rfl)
              case hq6 => exact fun _ _ _ h => h
              case hy6 => (refine Or.inl ⟨by rfl, ?_⟩; intro w' hSw; (try dsimp only at hSw); (try go_simp); try with_reducible rfl)
              try simp only [Act.put, List.setIfInBounds_toArray, List.set_cons_zero, List.set_cons_succ]
              refine wpAnyH_take (i := 7) (oi := ?oi7) (v := ?v7) ?hi7 (by kernel_rfl) (by kernel_rfl) (by kernel_rfl) ?hq7 ?hy7 (by assumption) ?_
              case hi7 => (simp only [List.getElem?_toArray, List.getElem?_cons_succ, List.getElem?_cons_zero]; rfl)
              case hq7 => exact fun _ _ _ h => h
              case hy7 => (refine Or.inl ⟨by rfl, ?_⟩; intro w' hSw; (try dsimp only at hSw); (try go_simp); try with_reducible rfl)
              try simp only [Act.put, List.setIfInBounds_toArray, List.set_cons_zero, List.set_cons_succ]
              refine wpAnyH_take (i := 8) (oi := ?oi8) (v := ?v8) ?hi8 (by kernel_rfl) (by kernel_rfl) (by kernel_rfl) ?hq8 ?hy8 (by assumption) ?_
              case hi8 => (simp only [List.getElem?_toArray, List.getElem?_cons_succ, List.getElem?_cons_zero]; rfl)
              case hq8 => exact fun _ _ _ h => h
              case hy8 => (refine Or.inl ⟨by rfl, ?_⟩; intro w' hSw; (try dsimp only at hSw); (try go_simp); try with_reducible rfl)
              try simp only [Act.put, List.setIfInBounds_toArray, List.set_cons_zero, List.set_cons_succ]
              refine wpAnyH_take (i := 9) (oi := ?oi9) (v := ?v9) ?hi9 (by kernel_rfl) (by kernel_rfl) (by kernel_rfl) ?hq9 ?hy9 (by assumption) ?_
              case hi9 => (simp only [List.getElem?_toArray, List.getElem?_cons_succ, List.getElem?_cons_zero]; rfl)
              case hq9 => exact fun _ _ _ h => h
              case hy9 => (refine Or.inl ⟨by rfl, ?_⟩; intro w' hSw; (try dsimp only at hSw); (try go_simp); try with_reducible rfl)
              try simp only [Act.put, List.setIfInBounds_toArray, List.set_cons_zero, List.set_cons_succ]
              refine wpAnyH_take (i := 10) (oi := ?oi10) (v := ?v10) ?hi10 (by kernel_rfl) (by kernel_rfl) (by kernel_rfl) ?hq10 ?hy10 (by assumption) ?_
              case hi10 => (simp only [List.getElem?_toArray, List.getElem?_cons_succ, List.getElem?_cons_zero]; rfl)
              case hq10 => exact fun _ _ _ h => h
              case hy10 => (refine Or.inl ⟨by rfl, ?_⟩; intro w' hSw; (try dsimp only at hSw); (try go_simp); try with_reducible rfl)
              try simp only [Act.put, List.setIfInBounds_toArray, List.set_cons_zero, List.set_cons_succ]
              refine wpAnyH_take (i := 11) (oi := ?oi11) (v := ?v11) ?hi11 (by kernel_rfl) (by kernel_rfl) (by kernel_rfl) ?hq11 ?hy11 (by assumption) ?_
              case hi11 => (simp only [List.getElem?_toArray, List.getElem?_cons_succ, List.getElem?_cons_zero]; rfl)
              case hq11 => exact fun _ _ _ h => h
              case hy11 => (refine Or.inl ⟨by rfl, ?_⟩; intro w' hSw; (try dsimp only at hSw); (try go_simp); try with_reducible rfl)
              try simp only [Act.put, List.setIfInBounds_toArray, List.set_cons_zero, List.set_cons_succ]
              refine wpAnyH_take (i := 12) (oi := ?oi12) (v := ?v12) ?hi12 (by kernel_rfl) (by kernel_rfl) (by kernel_rfl) ?hq12 ?hy12 (by assumption) ?_
              case hi12 => (simp only [List.getElem?_toArray, List.getElem?_cons_succ, List.getElem?_cons_zero]; rfl)
              case hq12 => exact fun _ _ _ h => h
              case hy12 => (refine Or.inl ⟨by rfl, ?_⟩; intro w' hSw; (try dsimp only at hSw); (try go_simp); try with_reducible rfl)
              try simp only [Act.put, List.setIfInBounds_toArray, List.set_cons_zero, List.set_cons_succ]
              refine wpAnyH_ready (rs := [13]) (by kernel_rfl) (by simp) ?_
              refine AllReadyH.cons rfl (fun K hK => ?_) ?_
              rotate_left
              · exact AllReadyH.nil
              go_simp
              go_at_call 15
              refine (codes_any A _ _ rfl _ (by omega)).mono ?_
              rintro e w7 ⟨rfl, h7⟩
              (try go_wp2_with fail)
              refine hK.out _ _ (ShortS.keep hHeld hl6 hb1' h7) (fun hHeld2 => ?_)
              clear hK K
              try simp only [Act.put, List.setIfInBounds_toArray, List.set_cons_zero, List.set_cons_succ]
              refine wpAnyH_take (i := 14) (oi := ?oi14) (v := ?v14) ?hi14 (by kernel_rfl) (by kernel_rfl) (by kernel_rfl) ?hq14 ?hy14 (by assumption) ?_
              case hi14 => (simp only [List.getElem?_toArray, List.getElem?_cons_succ, List.getElem?_cons_zero]; rfl)
              case hq14 => exact fun _ _ _ h => h
              case hy14 => (refine Or.inl ⟨by rfl, ?_⟩; intro w' hSw; (try dsimp only at hSw); (try go_simp); try with_reducible rfl)
              try simp only [Act.put, List.setIfInBounds_toArray, List.set_cons_zero, List.set_cons_succ]
              refine wpAnyH_take (i := 15) (oi := ?oi15) (v := ?v15) ?hi15 (by kernel_rfl) (by kernel_rfl) (by kernel_rfl) ?hq15 ?hy15 (by assumption) ?_
              case hi15 => (simp only [List.getElem?_toArray, List.getElem?_cons_succ, List.getElem?_cons_zero]; rfl)
              case hq15 => exact fun _ _ _ h => h
              case hy15 => (refine Or.inl ⟨by rfl, ?_⟩; intro w' hSw; (try dsimp only at hSw); (try go_simp); try with_reducible rfl)
              try simp only [Act.put, List.setIfInBounds_toArray, List.set_cons_zero, List.set_cons_succ]
              refine wpAnyH_take (i := 16) (oi := ?oi16) (v := ?v16) ?hi16 (by kernel_rfl) (by kernel_rfl) (by kernel_rfl) ?hq16 ?hy16 (by assumption) ?_
              case hi16 => (simp only [List.getElem?_toArray, List.getElem?_cons_succ, List.getElem?_cons_zero]; rfl)
              case hq16 => exact fun _ _ _ h => h
              case hy16 => (refine Or.inl ⟨by rfl, ?_⟩; intro w' hSw; (try dsimp only at hSw); (try go_simp); try with_reducible rfl)
              try simp only [Act.put, List.setIfInBounds_toArray, List.set_cons_zero, List.set_cons_succ]
              refine wpAnyH_take (i := 17) (oi := ?oi17) (v := ?v17) ?hi17 (by kernel_rfl) (by kernel_rfl) (by kernel_rfl) ?hq17 ?hy17 (by assumption) ?_
              case hi17 => (simp only [List.getElem?_toArray, List.getElem?_cons_succ, List.getElem?_cons_zero]; rfl)
              case hq17 => exact fun _ _ _ h => h
              case hy17 => (refine Or.inl ⟨by rfl, ?_⟩; intro w' hSw; (try dsimp only at hSw); (try go_simp); try with_reducible rfl)
              try simp only [Act.put, List.setIfInBounds_toArray, List.set_cons_zero, List.set_cons_succ]
              refine wpAnyH_take (i := 18) (oi := ?oi18) (v := ?v18) ?hi18 (by kernel_rfl) (by kernel_rfl) (by kernel_rfl) ?hq18 ?hy18 (by assumption) ?_
              case hi18 => (simp only [List.getElem?_toArray, List.getElem?_cons_succ, List.getElem?_cons_zero]; rfl)
              case hq18 => exact fun _ _ _ h => h
              case hy18 => (refine Or.inl ⟨by rfl, ?_⟩; intro w' hSw; (try dsimp only at hSw); (try go_simp); try with_reducible rfl)
              try simp only [Act.put, List.setIfInBounds_toArray, List.set_cons_zero, List.set_cons_succ]
              refine wpAnyH_take (i := 19) (oi := ?oi19) (v := ?v19) ?hi19 (by kernel_rfl) (by kernel_rfl) (by kernel_rfl) ?hq19 ?hy19 (by assumption) ?_
              case hi19 => (simp only [List.getElem?_toArray, List.getElem?_cons_succ, List.getElem?_cons_zero]; rfl)
              case hq19 => exact fun _ _ _ h => h
              case hy19 => (refine Or.inl ⟨by rfl, ?_⟩; intro w' hSw; (try dsimp only at hSw); (try go_simp); try with_reducible rfl)
              try simp only [Act.put, List.setIfInBounds_toArray, List.set_cons_zero, List.set_cons_succ]
              refine wpAnyH_take (i := 20) (oi := ?oi20) (v := ?v20) ?hi20 (by kernel_rfl) (by kernel_rfl) (by kernel_rfl) ?hq20 ?hy20 (by assumption) ?_
              case hi20 => (simp only [List.getElem?_toArray, List.getElem?_cons_succ, List.getElem?_cons_zero]; rfl)
              case hq20 => exact fun _ _ _ h => h
              case hy20 => (refine Or.inl ⟨by rfl, ?_⟩; intro w' hSw; (try dsimp only at hSw); (try go_simp); try with_reducible rfl)
              try simp only [Act.put, List.setIfInBounds_toArray, List.set_cons_zero, List.set_cons_succ]
              refine wpAnyH_take (i := 21) (oi := ?oi21) (v := ?v21) ?hi21 (by kernel_rfl) (by kernel_rfl) (by kernel_rfl) ?hq21 ?hy21 (by assumption) ?_
              case hi21 => (simp only [List.getElem?_toArray, List.getElem?_cons_succ, List.getElem?_cons_zero]; rfl)
              case hq21 => exact fun _ _ _ h => h
              case hy21 => (refine Or.inl ⟨by rfl, ?_⟩; intro w' hSw; (try dsimp only at hSw); (try go_simp); try with_reducible rfl)
              try simp only [Act.put, List.setIfInBounds_toArray, List.set_cons_zero, List.set_cons_succ]
              refine wpAnyH_take (i := 22) (oi := ?oi22) (v := ?v22) ?hi22 (by kernel_rfl) (by kernel_rfl) (by kernel_rfl) ?hq22 ?hy22 (by assumption) ?_
              case hi22 => (simp only [List.getElem?_toArray, List.getElem?_cons_succ, List.getElem?_cons_zero]; rfl)
              case hq22 => exact fun _ _ _ h => h
              case hy22 => (refine Or.inl ⟨by rfl, ?_⟩; intro w' hSw; (try dsimp only at hSw); (try go_simp); try with_reducible rfl)
              try simp only [Act.put, List.setIfInBounds_toArray, List.set_cons_zero, List.set_cons_succ]
              refine wpAnyH_take (i := 26) (oi := ?oi26) (v := ?v26) ?hi26 (by kernel_rfl) (by kernel_rfl) (by kernel_rfl) ?hq26 ?hy26 (by assumption) ?_
              case hi26 => (simp only [List.getElem?_toArray, List.getElem?_cons_succ, List.getElem?_cons_zero]; rfl)
              case hq26 => exact fun _ _ _ h => h
              case hy26 => (refine Or.inl ⟨by rfl, ?_⟩; intro w' hSw; (try dsimp only at hSw); (try go_simp); try with_reducible rfl)
              try simp only [Act.put, List.setIfInBounds_toArray, List.set_cons_zero, List.set_cons_succ]
              refine wpAnyH_take (i := 27) (oi := ?oi27) (v := ?v27) ?hi27 (by kernel_rfl) (by kernel_rfl) (by kernel_rfl) ?hq27 ?hy27 (by assumption) ?_
              case hi27 => (simp only [List.getElem?_toArray, List.getElem?_cons_succ, List.getElem?_cons_zero]; rfl)
              case hq27 => exact fun _ _ _ h => h
              case hy27 => (refine Or.inl ⟨by rfl, ?_⟩; intro w' hSw; (try dsimp only at hSw); (try go_simp); try with_reducible rfl)
              try simp only [Act.put, List.setIfInBounds_toArray, List.set_cons_zero, List.set_cons_succ]
              refine wpAnyH_take (i := 28) (oi := ?oi28) (v := ?v28) ?hi28 (by kernel_rfl) (by kernel_rfl) (by kernel_rfl) ?hq28 ?hy28 (by assumption) ?_
              case hi28 => (simp only [List.getElem?_toArray, List.getElem?_cons_succ, List.getElem?_cons_zero]; rfl)
              case hq28 => exact fun _ _ _ h => h
              case hy28 => (refine Or.inl ⟨by rfl, ?_⟩; intro w' hSw; (try dsimp only at hSw); (try go_simp); try with_reducible rfl)
              try simp only [Act.put, List.setIfInBounds_toArray, List.set_cons_zero, List.set_cons_succ]
              refine wpAnyH_take (i := 29) (oi := ?oi29) (v := ?v29) ?hi29 (by kernel_rfl) (by kernel_rfl) (by kernel_rfl) ?hq29 ?hy29 (by assumption) ?_
              case hi29 => (simp only [List.getElem?_toArray, List.getElem?_cons_succ, List.getElem?_cons_zero]; rfl)
              case hq29 => exact fun _ _ _ h => h
              case hy29 => (refine Or.inl ⟨by rfl, ?_⟩; intro w' hSw; (try dsimp only at hSw); (try go_simp); try with_reducible rfl)
              try simp only [Act.put, List.setIfInBounds_toArray, List.set_cons_zero, List.set_cons_succ]
              refine wpAnyH_take (i := 30) (oi := ?oi30) (v := ?v30) ?hi30 (by kernel_rfl) (by kernel_rfl) (by kernel_rfl) ?hq30 ?hy30 (by assumption) ?_
              case hi30 => (simp only [List.getElem?_toArray, List.getElem?_cons_succ, List.getElem?_cons_zero]; rfl)
              case hq30 => exact fun _ _ _ h => h
              case hy30 => (refine Or.inl ⟨by rfl, ?_⟩; intro w' hSw; (try dsimp only at hSw); (try go_simp); try with_reducible rfl)
              try simp only [Act.put, List.setIfInBounds_toArray, List.set_cons_zero, List.set_cons_succ]
              refine wpAnyH_take (i := 31) (oi := ?oi31) (v := ?v31) ?hi31 (by kernel_rfl) (by kernel_rfl) (by kernel_rfl) ?hq31 ?hy31 (by assumption) ?_
              case hi31 => (simp only [List.getElem?_toArray, List.getElem?_cons_succ, List.getElem?_cons_zero]; rfl)
              case hq31 => exact fun _ _ _ h => h
              case hy31 => (refine Or.inl ⟨by rfl, ?_⟩; intro w' hSw; (try dsimp only at hSw); (try go_simp); try with_reducible rfl)
              try simp only [Act.put, List.setIfInBounds_toArray, List.set_cons_zero, List.set_cons_succ]
              refine wpAnyH_ready (rs := [23]) (by kernel_rfl) (by simp) ?_
              refine AllReadyH.cons rfl (fun K hK => ?_) ?_
              rotate_left
              · exact AllReadyH.nil
              go_simp
              go_at_call 15
              refine (codes_any A _ _ rfl _ (by omega)).mono ?_
              rintro e w8 ⟨rfl, h8⟩
              (try go_wp2_with fail)
              refine hK.out _ _ (ShortS.keep hHeld2 hl6 hb1' h8) (fun hHeld3 => ?_)
              clear hK K
              try simp only [Act.put, List.setIfInBounds_toArray, List.set_cons_zero, List.set_cons_succ]
              refine wpAnyH_take (i := 24) (oi := ?oi24) (v := ?v24) ?hi24 (by kernel_rfl) (by kernel_rfl) (by kernel_rfl) ?hq24 ?hy24 (by assumption) ?_
              case hi24 => (simp only [List.getElem?_toArray, List.getElem?_cons_succ, List.getElem?_cons_zero]; rfl)
              case hq24 => exact fun _ _ _ h => h
              case hy24 => (refine Or.inl ⟨by rfl, ?_⟩; intro w' hSw; (try dsimp only at hSw); (try go_simp); try with_reducible rfl)
              try simp only [Act.put, List.setIfInBounds_toArray, List.set_cons_zero, List.set_cons_succ]
              refine wpAnyH_take (i := 25) (oi := ?oi25) (v := ?v25) ?hi25 (by kernel_rfl) (by kernel_rfl) (by kernel_rfl) ?hq25 ?hy25 (by assumption) ?_
              case hi25 => (simp only [List.getElem?_toArray, List.getElem?_cons_succ, List.getElem?_cons_zero]; rfl)
              case hq25 => exact fun _ _ _ h => h
              case hy25 => (refine Or.inl ⟨by rfl, ?_⟩; intro w' hSw; (try dsimp only at hSw); (try go_simp); try with_reducible rfl)
              try simp only [Act.put, List.setIfInBounds_toArray, List.set_cons_zero, List.set_cons_succ]
              refine wpAnyH_take (i := 32) (oi := ?oi32) (v := ?v32) ?hi32 (by kernel_rfl) (by kernel_rfl) (by kernel_rfl) ?hq32 ?hy32 (by assumption) ?_
              case hi32 => (simp only [List.getElem?_toArray, List.getElem?_cons_succ, List.getElem?_cons_zero]; rfl)
              case hq32 => exact fun _ _ _ h => h
              case hy32 => (refine Or.inl ⟨by rfl, ?_⟩; intro w' hSw; (try dsimp only at hSw); (try go_simp); try with_reducible rfl)
              try simp only [Act.put, List.setIfInBounds_toArray, List.set_cons_zero, List.set_cons_succ]
              refine wpAnyH_take (i := 33) (oi := ?oi33) (v := ?v33) ?hi33 (by kernel_rfl) (by kernel_rfl) (by kernel_rfl) ?hq33 ?hy33 (by assumption) ?_
              case hi33 => (simp only [List.getElem?_toArray, List.getElem?_cons_succ, List.getElem?_cons_zero]; rfl)
              case hq33 => exact fun _ _ _ h => h
              case hy33 => (refine Or.inl ⟨by rfl, ?_⟩; intro w' hSw; (try dsimp only at hSw); (try go_simp); try with_reducible rfl)
              try simp only [Act.put, List.setIfInBounds_toArray, List.set_cons_zero, List.set_cons_succ]
              refine wpAnyH_done (by kernel_rfl) ?_ _
              have hbN := hb6.trans (hHeld3.2.2.2.2.mono hb6.size)
              clear hHeld hHeld2 hHeld3 z0
              go_wp2_with fail
              have hg2 := HG2.out
              go_roundg (L.length - (j + 1))
              case measure => omega
              case rel => exact ⟨j + 1, by omega, rfl, by go_num, hbN⟩
            · go_wp2_with fail
              have hg := HG.out
              go_roundg (2 - (k + 1))
              case measure => omega
              case rel => exact ⟨k + 1, by omega, rfl, by go_num, belT hB5 hb6⟩
      · have hd : decide ((k : Int) < 2) = false := by simp; omega
        obtain ⟨hp1, hp2⟩ := Pick_bd n 300 (by decide)
        obtain ⟨q, hq⟩ := Int.eq_ofNat_of_zero_le hp1
        have hq3 : q < 300 := by omega
        have HQ := hid hq
        clear hq hp1 hp2
        have hbx := hbel.trans (hbr.mono hbel.size)
        go_wp2_with (go_at_call 17; refine (pick15_any _ _ _ hn1 hn2 (by decide) (by decide)).mono ?_; rintro e w' ⟨rfl, rfl⟩; rw [HQ.out])
        have hE2 := hE.below hbx
        have hL0 : ∀ j : Nat, (mkS (List.replicate j 122)) ++ { data := #[122] } = mkS (List.replicate (j + 1) 122) := fun j => by
          rw [show ({ data := #[122] } : ByteArray) = mkS [122] from rfl, mkS_append, List.replicate_succ']
        have HL0 := hid hL0
        clear hL0
        go_loopg [14, 15] (q + 1) (fun g s14 s15 wy => ∃ j : Nat, j ≤ q + 1 ∧ g = q + 1 - j ∧ s15 = .int .i64 j ∧ s14 = .string (mkS (List.replicate j 122)) ∧ wy = wr)
        case atStart => exact ⟨0, by omega, rfl, rfl, rfl, rfl⟩
        case round =>
          obtain ⟨j, hj, hg2, rfl, rfl, rfl⟩ := hrel
          have HG2 := hid hg2
          clear hg2
          have hjs : (mkS (List.replicate j 122)).size = j := by simp
          by_cases hjl : j < q + 1
          · have t1 : decide ((j : Int) < 1 + (q : Int)) = true := decide_eq_true (by omega)
            obtain ⟨T, hT⟩ : ∃ T, T = mkS (List.replicate j 122) := ⟨_, rfl⟩
            rw [← hT] at hjs ⊢
            have HT := hid hT
            clear hT
            go_wp2_with fail
            have hg2 := HG2.out
            go_roundg (q + 1 - (j + 1))
            case measure => omega
            case rel => exact ⟨j + 1, by omega, rfl, by go_num, by rw [HT.out, HL0.out], rfl⟩
          · have t1 : decide ((j : Int) < 1 + (q : Int)) = false := decide_eq_false (by omega)
            obtain rfl : j = q + 1 := by omega
            have hqs : (mkS (List.replicate (q + 1) 122)).size ≤ 65536 := by rw [hjs]; omega
            have HF := hid (fun (hO : OrdS (mkS (List.replicate (q + 1) 122))) => one_facts (k := q + 1) (by omega) (mkS_toList _) hO)
            obtain ⟨T, hT⟩ : ∃ T, T = mkS (List.replicate (q + 1) 122) := ⟨_, rfl⟩
            rw [← hT] at hjs hqs HF ⊢
            clear hT
            go_wp2_with fail
            refine (sq_any T _ hqs).mono ?_
            rintro e w4 ⟨v4, rfl, hr4, h4, hO⟩
            obtain ⟨y1, y2, y3⟩ := HF.out (hO (by omega))
            have z1 : sqE T = 0 := sqE_pos (by omega)
            rw [y1, y2, z1]
            obtain ⟨a4, c4, rfl, hcc, hcm, _⟩ := hr4.open
            obtain ⟨L, hL⟩ : ∃ L, L = sqS T := ⟨_, rfl⟩
            rw [← hL] at hr4 y3 hcc ⊢
            have hB4 := belT hbx h4
            clear y1 y2 z1 hO hL hE2 HL0
            have HY := hid y3
            clear y3
            go_upto_region 22 with fail
            obtain ⟨ha5, hr5, h5⟩ := box15s (a := ⟨#[122]⟩) (o := 0) hr4
            have hB5 := belT hB4 h5
            generalize w4.alloc (.cells #[.string ⟨#[122]⟩, .int .i64 0, .slice a4 L.length c4] 25) = w5 at *
            have hl5 := ha5.lt
            have z0 : ShortS w5 w4.heap.size w4.heap.size 1 ⟨#[122]⟩ 0 (.slice a4 L.length c4) 0 w5 := ⟨ha5.cell (i := 0) rfl, ha5.cell (i := 1) rfl, ha5.cell (i := 2) rfl, ha5.cell (i := 1) rfl, Below.refl _ _⟩
            have hDl := (dig_length (q + 1)).1
            have HD := hid (fun W => digits_any (q + 1) W (by omega))
            rw [show (((q + 1 : Nat)) : Int) = 1 + (q : Int) by omega] at HD
            obtain ⟨D, hD⟩ : ∃ D, D = dig (q + 1) := ⟨_, rfl⟩
            rw [← hD] at HD HY hDl
            have hY := HY.out
            have p1 : ((L.length : Int) == ((D.length : Int) + 1)) = true := by rw [beq_iff_eq]; omega
            have p2 : IntKind.i64.wrap ((D.length : Int) + 1) = (D.length : Int) + 1 := by rw [IntKind.wrap_i64]; omega
            have p3 : (L.length == D.length + 1) = true := by rw [beq_iff_eq]; omega
            clear hY hD HF hr4 hr5 h5 ha5 h4
            refine wp_region_held_drew (S := (fun w' => w'.cell? ⟨w4.heap.size, 0, none⟩ = some (.string ⟨#[122]⟩) ∧ w'.cell? ⟨w4.heap.size, 1, none⟩ = some (.int .i64 0) ∧ w'.cell? ⟨w4.heap.size, 2, none⟩ = some (.slice a4 L.length c4) ∧ w'.cell? ⟨w4.heap.size, 1, none⟩ = some (.int .i64 0) ∧ Below w5.heap.size w5 w')) (by kernel_rfl) (ShortS.drew z0) (fun hHeld => ?_)
            refine wpAnyH_take (i := 0) (oi := ?oib0) (v := ?vb0) ?hib0 (by kernel_rfl) (by kernel_rfl) (by kernel_rfl) ?hqb0 ?hyb0 (by assumption) ?_
            case hib0 => (simp only [List.getElem?_toArray, List.getElem?_cons_zero]; rfl)
            case hqb0 => exact fun _ _ _ h => h
            case hyb0 => (refine Or.inl ⟨by rfl, ?_⟩; intro w' hSw; (try dsimp only at hSw); (try go_simp); try with_reducible rfl)
            try simp only [Act.put, List.setIfInBounds_toArray, List.set_cons_zero, List.set_cons_succ]
            refine wpAnyH_take (i := 1) (oi := ?oib1) (v := ?vb1) ?hib1 (by kernel_rfl) (by kernel_rfl) (by kernel_rfl) ?hqb1 ?hyb1 (by assumption) ?_
            case hib1 => (simp only [List.getElem?_toArray, List.getElem?_cons_succ, List.getElem?_cons_zero]; rfl)
            case hqb1 => exact fun _ _ _ h => h
            case hyb1 => (refine Or.inl ⟨by rfl, ?_⟩; intro w' hSw; (try dsimp only at hSw); (try go_simp); try with_reducible rfl)
            try simp only [Act.put, List.setIfInBounds_toArray, List.set_cons_zero, List.set_cons_succ]
            refine wpAnyH_take (i := 2) (oi := ?oib2) (v := ?vb2) ?hib2 (by kernel_rfl) (by kernel_rfl) (by kernel_rfl) ?hqb2 ?hyb2 (by assumption) ?_
            case hib2 => (simp only [List.getElem?_toArray, List.getElem?_cons_succ, List.getElem?_cons_zero]; rfl)
            case hqb2 => exact fun _ _ _ h => h
            case hyb2 => (refine Or.inl ⟨by rfl, ?_⟩; intro w' hSw; (try dsimp only at hSw); (try go_simp); try with_reducible rfl)
            try simp only [Act.put, List.setIfInBounds_toArray, List.set_cons_zero, List.set_cons_succ]
            refine wpAnyH_take (i := 3) (oi := ?oib3) (v := ?vb3) ?hib3 (by kernel_rfl) (by kernel_rfl) (by kernel_rfl) ?hqb3 ?hyb3 (by assumption) ?_
            case hib3 => (simp only [List.getElem?_toArray, List.getElem?_cons_succ, List.getElem?_cons_zero]; rfl)
            case hqb3 => exact fun _ _ _ h => h
            case hyb3 => (refine Or.inl ⟨by rfl, ?_⟩; intro w' hSw; (try dsimp only at hSw); (try go_simp); try with_reducible rfl)
            try simp only [Act.put, List.setIfInBounds_toArray, List.set_cons_zero, List.set_cons_succ]
            refine wpAnyH_take (i := 4) (oi := ?oib4) (v := ?vb4) ?hib4 (by kernel_rfl) (by kernel_rfl) (by kernel_rfl) ?hqb4 ?hyb4 (by assumption) ?_
            case hib4 => (simp only [List.getElem?_toArray, List.getElem?_cons_succ, List.getElem?_cons_zero]; rfl)
            case hqb4 => exact fun _ _ _ h => h
            case hyb4 => (refine Or.inl ⟨by rfl, ?_⟩; intro w' hSw; (try dsimp only at hSw); (try go_simp); try with_reducible rfl)
            try simp only [Act.put, List.setIfInBounds_toArray, List.set_cons_zero, List.set_cons_succ]
            refine wpAnyH_take (i := 5) (oi := ?oib5) (v := ?vb5) ?hib5 (by kernel_rfl) (by kernel_rfl) (by kernel_rfl) ?hqb5 ?hyb5 (by assumption) ?_
            case hib5 => (simp only [List.getElem?_toArray, List.getElem?_cons_succ, List.getElem?_cons_zero]; rfl)
            case hqb5 => exact fun _ _ _ h => h
            case hyb5 => (refine Or.inl ⟨by rfl, ?_⟩; intro w' hSw; (try dsimp only at hSw); (try go_simp); try with_reducible rfl)
            try simp only [Act.put, List.setIfInBounds_toArray, List.set_cons_zero, List.set_cons_succ]
            refine wpAnyH_take (i := 6) (oi := ?oib6) (v := ?vb6) ?hib6 (by kernel_rfl) (by kernel_rfl) (by kernel_rfl) ?hqb6 ?hyb6 (by assumption) ?_
            case hib6 => (simp only [List.getElem?_toArray, List.getElem?_cons_succ, List.getElem?_cons_zero]; rfl)
            case hqb6 => exact fun _ _ _ h => h
            case hyb6 => (refine Or.inl ⟨by rfl, ?_⟩; intro w' hSw; (try dsimp only at hSw); (try go_simp); try with_reducible rfl)
            try simp only [Act.put, List.setIfInBounds_toArray, List.set_cons_zero, List.set_cons_succ]
            refine wpAnyH_take (i := 7) (oi := ?oib7) (v := ?vb7) ?hib7 (by kernel_rfl) (by kernel_rfl) (by kernel_rfl) ?hqb7 ?hyb7 (by assumption) ?_
            case hib7 => (simp only [List.getElem?_toArray, List.getElem?_cons_succ, List.getElem?_cons_zero]; rfl)
            case hqb7 => exact fun _ _ _ h => h
            case hyb7 => (refine Or.inl ⟨by rfl, ?_⟩; intro w' hSw; (try dsimp only at hSw); (try go_simp); try with_reducible rfl)
            try simp only [Act.put, List.setIfInBounds_toArray, List.set_cons_zero, List.set_cons_succ]
            refine wpAnyH_take (i := 8) (oi := ?oib8) (v := ?vb8) ?hib8 (by kernel_rfl) (by kernel_rfl) (by kernel_rfl) ?hqb8 ?hyb8 (by assumption) ?_
            case hib8 => (simp only [List.getElem?_toArray, List.getElem?_cons_succ, List.getElem?_cons_zero]; rfl)
            case hqb8 => exact fun _ _ _ h => h
            case hyb8 => (refine Or.inl ⟨by rfl, ?_⟩; intro w' hSw; (try dsimp only at hSw); (try go_simp); try with_reducible rfl)
            try simp only [Act.put, List.setIfInBounds_toArray, List.set_cons_zero, List.set_cons_succ]
            refine wpAnyH_take (i := 9) (oi := ?oib9) (v := ?vb9) ?hib9 (by kernel_rfl) (by kernel_rfl) (by kernel_rfl) ?hqb9 ?hyb9 (by assumption) ?_
            case hib9 => (simp only [List.getElem?_toArray, List.getElem?_cons_succ, List.getElem?_cons_zero]; rfl)
            case hqb9 => exact fun _ _ _ h => h
            case hyb9 => (refine Or.inl ⟨by rfl, ?_⟩; intro w' hSw; (try dsimp only at hSw); (try go_simp); try with_reducible rfl)
            try simp only [Act.put, List.setIfInBounds_toArray, List.set_cons_zero, List.set_cons_succ]
            refine wpAnyH_take (i := 10) (oi := ?oib10) (v := ?vb10) ?hib10 (by kernel_rfl) (by kernel_rfl) (by kernel_rfl) ?hqb10 ?hyb10 (by assumption) ?_
            case hib10 => (simp only [List.getElem?_toArray, List.getElem?_cons_succ, List.getElem?_cons_zero]; rfl)
            case hqb10 => exact fun _ _ _ h => h
            case hyb10 => (refine Or.inl ⟨by rfl, ?_⟩; intro w' hSw; (try dsimp only at hSw); (try go_simp); try with_reducible rfl)
            try simp only [Act.put, List.setIfInBounds_toArray, List.set_cons_zero, List.set_cons_succ]
            refine wpAnyH_take (i := 11) (oi := ?oib11) (v := ?vb11) ?hib11 (by kernel_rfl) (by kernel_rfl) (by kernel_rfl) ?hqb11 ?hyb11 (by assumption) ?_
            case hib11 => (simp only [List.getElem?_toArray, List.getElem?_cons_succ, List.getElem?_cons_zero]; rfl)
            case hqb11 => exact fun _ _ _ h => h
            case hyb11 => (refine Or.inl ⟨by rfl, ?_⟩; intro w' hSw; (try dsimp only at hSw); (try go_simp); try with_reducible rfl)
            try simp only [Act.put, List.setIfInBounds_toArray, List.set_cons_zero, List.set_cons_succ]
            refine wpAnyH_take (i := 12) (oi := ?oib12) (v := ?vb12) ?hib12 (by kernel_rfl) (by kernel_rfl) (by kernel_rfl) ?hqb12 ?hyb12 (by assumption) ?_
            case hib12 => (simp only [List.getElem?_toArray, List.getElem?_cons_succ, List.getElem?_cons_zero]; rfl)
            case hqb12 => exact fun _ _ _ h => h
            case hyb12 => (refine Or.inl ⟨by rfl, ?_⟩; intro w' hSw; (try dsimp only at hSw); (try go_simp); try with_reducible rfl)
            try simp only [Act.put, List.setIfInBounds_toArray, List.set_cons_zero, List.set_cons_succ]
            refine wpAnyH_take (i := 13) (oi := ?oib13) (v := ?vb13) ?hib13 (by kernel_rfl) (by kernel_rfl) (by kernel_rfl) ?hqb13 ?hyb13 (by assumption) ?_
            case hib13 => (simp only [List.getElem?_toArray, List.getElem?_cons_succ, List.getElem?_cons_zero]; rfl)
            case hqb13 => exact fun _ _ _ h => h
            case hyb13 => (refine Or.inl ⟨by rfl, ?_⟩; intro w' hSw; (try dsimp only at hSw); (try go_simp); try with_reducible rfl)
            try simp only [Act.put, List.setIfInBounds_toArray, List.set_cons_zero, List.set_cons_succ]
            refine wpAnyH_take (i := 14) (oi := ?oib14) (v := ?vb14) ?hib14 (by kernel_rfl) (by kernel_rfl) (by kernel_rfl) ?hqb14 ?hyb14 (by assumption) ?_
            case hib14 => (simp only [List.getElem?_toArray, List.getElem?_cons_succ, List.getElem?_cons_zero]; rfl)
            case hqb14 => exact fun _ _ _ h => h
            case hyb14 => (refine Or.inl ⟨by rfl, ?_⟩; intro w' hSw; (try dsimp only at hSw); (try go_simp); try with_reducible rfl)
            try simp only [Act.put, List.setIfInBounds_toArray, List.set_cons_zero, List.set_cons_succ]
            refine wpAnyH_take (i := 15) (oi := ?oib15) (v := ?vb15) ?hib15 (by kernel_rfl) (by kernel_rfl) (by kernel_rfl) ?hqb15 ?hyb15 (by assumption) ?_
            case hib15 => (simp only [List.getElem?_toArray, List.getElem?_cons_succ, List.getElem?_cons_zero]; rfl)
            case hqb15 => exact fun _ _ _ h => h
            case hyb15 => (refine Or.inl ⟨by rfl, ?_⟩; intro w' hSw; (try dsimp only at hSw); (try go_simp); try with_reducible rfl)
            try simp only [Act.put, List.setIfInBounds_toArray, List.set_cons_zero, List.set_cons_succ]
            refine wpAnyH_take (i := 16) (oi := ?oib16) (v := ?vb16) ?hib16 (by kernel_rfl) (by kernel_rfl) (by kernel_rfl) ?hqb16 ?hyb16 (by assumption) ?_
            case hib16 => (simp only [List.getElem?_toArray, List.getElem?_cons_succ, List.getElem?_cons_zero]; rfl)
            case hqb16 => exact fun _ _ _ h => h
            case hyb16 => (refine Or.inl ⟨by rfl, ?_⟩; intro w' hSw; (try dsimp only at hSw); (try go_simp); try with_reducible rfl)
            try simp only [Act.put, List.setIfInBounds_toArray, List.set_cons_zero, List.set_cons_succ]
            refine wpAnyH_take (i := 17) (oi := ?oib17) (v := ?vb17) ?hib17 (by kernel_rfl) (by kernel_rfl) (by kernel_rfl) ?hqb17 ?hyb17 (by assumption) ?_
            case hib17 => (simp only [List.getElem?_toArray, List.getElem?_cons_succ, List.getElem?_cons_zero]; rfl)
            case hqb17 => exact fun _ _ _ h => h
            case hyb17 => (refine Or.inl ⟨by rfl, ?_⟩; intro w' hSw; (try dsimp only at hSw); (try go_simp); try with_reducible rfl)
            try simp only [Act.put, List.setIfInBounds_toArray, List.set_cons_zero, List.set_cons_succ]
            refine wpAnyH_take (i := 18) (oi := ?oib18) (v := ?vb18) ?hib18 (by kernel_rfl) (by kernel_rfl) (by kernel_rfl) ?hqb18 ?hyb18 (by assumption) ?_
            case hib18 => (simp only [List.getElem?_toArray, List.getElem?_cons_succ, List.getElem?_cons_zero]; rfl)
            case hqb18 => exact fun _ _ _ h => h
            case hyb18 => (refine Or.inl ⟨by rfl, ?_⟩; intro w' hSw; (try dsimp only at hSw); (try go_simp); try with_reducible rfl)
            try simp only [Act.put, List.setIfInBounds_toArray, List.set_cons_zero, List.set_cons_succ]
            refine wpAnyH_take (i := 19) (oi := ?oib19) (v := ?vb19) ?hib19 (by kernel_rfl) (by kernel_rfl) (by kernel_rfl) ?hqb19 ?hyb19 (by assumption) ?_
            case hib19 => (simp only [List.getElem?_toArray, List.getElem?_cons_succ, List.getElem?_cons_zero]; rfl)
            case hqb19 => exact fun _ _ _ h => h
            case hyb19 => (refine Or.inl ⟨by rfl, ?_⟩; intro w' hSw; (try dsimp only at hSw); (try go_simp); try with_reducible rfl)
            try simp only [Act.put, List.setIfInBounds_toArray, List.set_cons_zero, List.set_cons_succ]
            refine wpAnyH_ready (rs := [20]) (by kernel_rfl) (by simp) ?_
            refine AllReadyH.cons rfl (fun K hK => ?_) ?_
            rotate_left
            · exact AllReadyH.nil
            go_simp
            go_at_call 22
            refine (HD.out _).mono ?_
            rintro e w7 ⟨v7, rfl, hr7, h7⟩
            obtain ⟨a7, c7, rfl, _, _, _⟩ := hr7.rd.open
            (try go_wp2_with fail)
            refine hK.out _ _ (ShortS.keep hHeld hl5 hl5 h7) (fun hHeld2 => ?_)
            clear hK K
            try simp only [Act.put, List.setIfInBounds_toArray, List.set_cons_zero, List.set_cons_succ]
            refine wpAnyH_take (i := 21) (oi := ?oib21) (v := ?vb21) ?hib21 (by kernel_rfl) (by kernel_rfl) (by kernel_rfl) ?hqb21 ?hyb21 (by assumption) ?_
            case hib21 => (simp only [List.getElem?_toArray, List.getElem?_cons_succ, List.getElem?_cons_zero]; rfl)
            case hqb21 => exact fun _ _ _ h => h
            case hyb21 => (refine Or.inl ⟨by rfl, ?_⟩; intro w' hSw; (try dsimp only at hSw); (try go_simp); try with_reducible rfl)
            try simp only [Act.put, List.setIfInBounds_toArray, List.set_cons_zero, List.set_cons_succ]
            refine wpAnyH_take (i := 22) (oi := ?oib22) (v := ?vb22) ?hib22 (by kernel_rfl) (by kernel_rfl) (by kernel_rfl) ?hqb22 ?hyb22 (by assumption) ?_
            case hib22 => (simp only [List.getElem?_toArray, List.getElem?_cons_succ, List.getElem?_cons_zero]; rfl)
            case hqb22 => exact fun _ _ _ h => h
            case hyb22 => (refine Or.inl ⟨by rfl, ?_⟩; intro w' hSw; (try dsimp only at hSw); (try go_simp); try with_reducible rfl)
            try simp only [Act.put, List.setIfInBounds_toArray, List.set_cons_zero, List.set_cons_succ]
            refine wpAnyH_take (i := 23) (oi := ?oib23) (v := ?vb23) ?hib23 (by kernel_rfl) (by kernel_rfl) (by kernel_rfl) ?hqb23 ?hyb23 (by assumption) ?_
            case hib23 => (simp only [List.getElem?_toArray, List.getElem?_cons_succ, List.getElem?_cons_zero]; rfl)
            case hqb23 => exact fun _ _ _ h => h
            case hyb23 => (refine Or.inl ⟨by rfl, ?_⟩; intro w' hSw; (try dsimp only at hSw); (try go_simp); try with_reducible rfl)
            try simp only [Act.put, List.setIfInBounds_toArray, List.set_cons_zero, List.set_cons_succ]
            refine wpAnyH_take (i := 24) (oi := ?oib24) (v := ?vb24) ?hib24 (by kernel_rfl) (by kernel_rfl) (by kernel_rfl) ?hqb24 ?hyb24 (by assumption) ?_
            case hib24 => (simp only [List.getElem?_toArray, List.getElem?_cons_succ, List.getElem?_cons_zero]; rfl)
            case hqb24 => exact fun _ _ _ h => h
            case hyb24 => (refine Or.inl ⟨by rfl, ?_⟩; intro w' hSw; (try dsimp only at hSw); (try go_simp); try with_reducible rfl)
            try simp only [Act.put, List.setIfInBounds_toArray, List.set_cons_zero, List.set_cons_succ]
            refine wpAnyH_take (i := 25) (oi := ?oib25) (v := ?vb25) ?hib25 (by kernel_rfl) (by kernel_rfl) (by kernel_rfl) ?hqb25 ?hyb25 (by assumption) ?_
            case hib25 => (simp only [List.getElem?_toArray, List.getElem?_cons_succ, List.getElem?_cons_zero]; rfl)
            case hqb25 => exact fun _ _ _ h => h
            case hyb25 => (refine Or.inl ⟨by rfl, ?_⟩; intro w' hSw; (try dsimp only at hSw); (try go_simp); try with_reducible rfl)
            try simp only [Act.put, List.setIfInBounds_toArray, List.set_cons_zero, List.set_cons_succ]
            refine wpAnyH_done (by kernel_rfl) ?_ _
            have hbN := hB5.trans (hHeld2.2.2.2.2.mono hB5.size)
            clear hHeld hHeld2 z0
            go_wp2_with fail
            go_ret
            exact ⟨rfl, hbN⟩

end Go.Proofs.YthjmpiekjfnoiaaGreatDoor
