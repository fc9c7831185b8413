/-
  The walk of the statement SqueezeTurned.
-/
import Derived.Test.YthjmpiekjfnoiaaGreatDoorZ7
namespace Go.Proofs.YthjmpiekjfnoiaaGreatDoor
open Go.RowKit Go.Shelf

theorem sq_turn {s : ByteArray} {k : Nat} (h0 : 0 < s.size) (hk : k < s.size) (hO : OrdS s) (hR : OrdS (mkS (rot s k))) : sqA (mkS (rot s k)) = sqA s ∧ sqS (mkS (rot s k)) = sqS s := by
  have hz : (mkS (rot s k)).size = s.size := rot_size s (Nat.le_of_lt hk)
  have h1 : 0 < (mkS (rot s k)).size := by omega
  have ha : alph (mkS (rot s k)).data.toList = alph s.data.toList := alph_congr (fun b => by
    rw [mkS_toList]; unfold rot
    rw [List.mem_append, or_comm, ← List.mem_append, List.take_append_drop])
  have hR' : Ord (cycf (mkS (rot s k))) s.size s.size (oOf (mkS (rot s k))) := by unfold OrdS at hR; rwa [hz] at hR
  have hl : lastS (mkS (rot s k)) = lastS s := by
    unfold lastS
    rw [hz]
    exact (turned_last s hk hO hR').symm
  exact ⟨by rw [sqA_pos h1, sqA_pos h0, ha], by rw [sqS_pos h1, sqS_pos h0, ha, hl]⟩
theorem turn_dec {s : ByteArray} {k : Nat} (h0 : 0 < s.size) (hk : k < s.size) (hO : OrdS s) (hR : OrdS (mkS (rot s k))) : ((sqO s) == (sqO (mkS (rot s k)))) = (s.toList == (mkS (rot s k)).toList) := by
  have hz : (mkS (rot s k)).size = s.size := rot_size s (Nat.le_of_lt hk)
  obtain ⟨q1, q2⟩ := sq_turn h0 hk hO hR
  by_cases e : s = mkS (rot s k)
  · rw [← e]; simp
  · rw [str_ne e, beq_eq_false_iff_ne]
    exact fun h => e (sq_inj h0 (by omega) hO hR ⟨q2.symm, q1.symm, h⟩)

theorem sq_own (s : ByteArray) (w : World) (hs : s.size ≤ 65536) :
    Calls Tryz.prog 11 #[.string s] w fun e w' => ∃ v, e = .returned (.tuple #[.agg #[.string (sqA s), .int .i64 (sqO s), v], .int .i64 (sqE s)]) ∧ OwI w' w.heap.size v (sqS s) ∧ Below w.heap.size w w' ∧ (0 < s.size → OrdS s) := by
  rcases Nat.eq_zero_or_pos s.size with h0 | h0
  · have e1 : sqA s = emptyS := if_pos h0
    have e2 : sqO s = 0 := if_pos h0
    have e3 : sqS s = [] := if_pos h0
    have e4 : sqE s = 1 := if_pos h0
    rw [e1, e2, e3, e4]
    have := size_zero h0
    subst this
    refine (squeeze_nil w).mono ?_
    rintro e w' ⟨rfl, hb⟩
    exact ⟨_, rfl, OwI.nil _ _, hb, fun h => absurd h (by omega)⟩
  · have hn : ¬ s.size = 0 := by omega
    refine (squeeze_any s w h0 hs).mono ?_
    rintro e w' ⟨o, v, hO, rfl, hown, hb⟩
    obtain ⟨q1, q2⟩ := symL_of hO
    have e1 : sqA s = mkS (alph s.data.toList) := if_neg hn
    have e2 : sqO s = ((origTo (oOf s) s.size : Nat) : Int) := if_neg hn
    have e3 : sqS s = symL s (oOf s) := if_neg hn
    have e4 : sqE s = 0 := if_neg hn
    rw [e1, e2, e3, e4, ← q1, ← q2]
    exact ⟨v, rfl, hown, hb, fun _ => ordS_of hO⟩

/-- What the last region of a round reads. -/
abbrev TurnS (W : World) (b1 b2 b3 : Nat) (A : ByteArray) (o1 o2 : Int) (v1 v2 : Value) (w' : World) : Prop :=
  w'.cell? ⟨b1, 1, none⟩ = some (.int .i64 o1) ∧ w'.cell? ⟨b2, 0, none⟩ = some (.string A) ∧ w'.cell? ⟨b2, 1, none⟩ = some (.int .i64 o2) ∧ w'.cell? ⟨b2, 2, none⟩ = some v2 ∧ w'.cell? ⟨b3, 0, none⟩ = some (.string A) ∧ w'.cell? ⟨b3, 1, none⟩ = some (.int .i64 o2) ∧ w'.cell? ⟨b3, 2, none⟩ = some v1 ∧ Below W.heap.size W w'
theorem TurnS.keep {W w w' : World} {b1 b2 b3 : Nat} {A : ByteArray} {o1 o2 : Int} {v1 v2 : Value} (h : TurnS W b1 b2 b3 A o1 o2 v1 v2 w) (hb1 : b1 < W.heap.size) (hb2 : b2 < W.heap.size) (hb3 : b3 < W.heap.size) (hb : Below w.heap.size w w') : TurnS W b1 b2 b3 A o1 o2 v1 v2 w' := by
  obtain ⟨h1, h2, h3, h4, h5, h6, h7, h8⟩ := h
  have hz := h8.size
  refine ⟨?_, ?_, ?_, ?_, ?_, ?_, ?_, h8.trans (hb.mono hz)⟩
  · rw [hb.cell (p := ⟨b1, 1, none⟩) (Nat.lt_of_lt_of_le hb1 hz)]; exact h1
  · rw [hb.cell (p := ⟨b2, 0, none⟩) (Nat.lt_of_lt_of_le hb2 hz)]; exact h2
  · rw [hb.cell (p := ⟨b2, 1, none⟩) (Nat.lt_of_lt_of_le hb2 hz)]; exact h3
  · rw [hb.cell (p := ⟨b2, 2, none⟩) (Nat.lt_of_lt_of_le hb2 hz)]; exact h4
  · rw [hb.cell (p := ⟨b3, 0, none⟩) (Nat.lt_of_lt_of_le hb3 hz)]; exact h5
  · rw [hb.cell (p := ⟨b3, 1, none⟩) (Nat.lt_of_lt_of_le hb3 hz)]; exact h6
  · rw [hb.cell (p := ⟨b3, 2, none⟩) (Nat.lt_of_lt_of_le hb3 hz)]; exact h7
theorem TurnS.drew {W w : World} {b1 b2 b3 : Nat} {A : ByteArray} {o1 o2 : Int} {v1 v2 : Value} (h : TurnS W b1 b2 b3 A o1 o2 v1 v2 w) : TurnS W b1 b2 b3 A o1 o2 v1 v2 w.drew :=
  ⟨h.1, h.2.1, h.2.2.1, h.2.2.2.1, h.2.2.2.2.1, h.2.2.2.2.2.1, h.2.2.2.2.2.2.1, h.2.2.2.2.2.2.2.drew⟩

theorem box15t {w1 : World} {a : ByteArray} {o : Int} {ad : Option Addr} {c : Nat} {l : List Int} (hr : RdI w1 (.slice ad l.length c) l) :
    Arr (w1.alloc (.cells #[.string a, .int .i64 o, .slice ad l.length c] 25)) w1.heap.size 25 [.string a, .int .i64 o, .slice ad l.length c] ∧
      RdI (w1.alloc (.cells #[.string a, .int .i64 o, .slice ad l.length c] 25)) (.slice ad l.length c) l ∧
      Below w1.heap.size w1 (w1.alloc (.cells #[.string a, .int .i64 o, .slice ad l.length c] 25)) :=
  ⟨Arr.new w1 25 [.string a, .int .i64 o, .slice ad l.length c], hr.below ((Below.refl _ _).alloc (Nat.le_refl _) _), (Below.refl _ _).alloc (Nat.le_refl _) _⟩

set_option maxRecDepth 100000 in
set_option maxHeartbeats 1600000 in
theorem squeezeTurned_any (s : ByteArray) (v : Value) (raw : List (Int × Int)) (by0 : Int) (w : World) (hE : ErrVar w) (_hs : s.size ≤ maxLen) (hr : RdP w v raw) (hwf : WfP raw) (ho1 : -9223372036854775808 ≤ by0) (ho2 : by0 ≤ 9223372036854775807) :
    Calls Tryz.prog 7 #[.string s, v, .int .i64 by0] w fun e w' => e = .returned (.bool true) ∧ Below w.heap.size w w' := by
  unfold maxLen at _hs
  go_enter Tryz.func7, Tryz.ntmps7
  go_wp2_with fail
  refine (awake15_any _ hE).mono ?_
  rintro e w1 ⟨rfl, h1⟩
  have hr1 := hr.below h1
  go_upto_region 2 with fail
  go_cut [24, 25, 26] (fun s24 s25 s26 wx => Pair w wx s24 50 80 ∧ s25 = .int .i64 2 ∧ s26 = .int .i64 0)
  case first =>
    obtain ⟨m, hmi, hm1, hm2⟩ := minOf s.size 50 (by decide)
    have hmi2 : min (s.size : Int) 50 = (m : Int) := by rw [← hmi, Int.min_def]; split <;> split <;> omega
    go_region_with (go_at_call 10; refine (runs_any _ raw _ _ ?_ hwf ?_ ?_).mono ?_; (first | exact hr1 | exact hr1.below ((Below.refl _ _).drew)); decide; decide; rintro e w2 ⟨t, rfl, ht, h2⟩)
    all_goals go_wp2_with fail
    all_goals go_meet
    all_goals have h2' : Below w1.heap.size w1 w2 := by first | exact h2 | exact (Below.refl _ _).drew.trans h2
    all_goals exact ⟨⟨w2.heap.size, s.extract 0 m, t, rfl, Arr.new w2 _ [.string _, .string _], by simp; omega, by omega, belA (belT h1 h2') _, (belT h1 h2').size⟩, rfl, rfl⟩
  case rest =>
    obtain ⟨⟨pb, t0, t1, rfl, harr, hz0, hz1, hbel, hpb⟩, rfl, rfl⟩ := hcut
    clear hr hr1 h1 hwf _hs
    go_wp2
    go_loopg [26] 2 (fun g i wr => ∃ k : Nat, k ≤ 2 ∧ g = 2 - k ∧ i = .int .i64 k ∧ Below wc.heap.size wc wr)
    case atStart => exact ⟨0, by omega, rfl, rfl, Below.refl _ _⟩
    case round =>
      obtain ⟨k, hk, hg, rfl, hbr⟩ := hrel
      have HG := hid hg
      clear hg
      by_cases hlt : k < 2
      · obtain ⟨t, ht, hc⟩ : ∃ t : ByteArray, t.size ≤ 80 ∧ wr.cell? ⟨pb, k, none⟩ = some (.string t) := by
          have har := harr.below hbr harr.lt
          rcases (show k = 0 ∨ k = 1 by omega) with rfl | rfl
          · exact ⟨t0, by omega, har.cell (i := 0) rfl⟩
          · exact ⟨t1, by omega, har.cell (i := 1) rfl⟩
        have hd : decide ((k : Int) < 2) = true := by simp; omega
        by_cases h0 : t.size = 0
        · have z2 := str_nil (s := t) (List.length_eq_zero_iff.1 (by simpa using h0))
          clear h0
          go_wp2_with fail
          have hg := HG.out
          go_roundg (2 - (k + 1))
          case measure => omega
          case rel => exact ⟨k + 1, by omega, rfl, by go_num, hbr⟩
        · have h0p : 0 < t.size := by omega
          have z2 := str_full h0p
          obtain ⟨hp1, hp2⟩ := Pick_bd by0 t.size (by omega)
          obtain ⟨q, hq⟩ := Int.eq_ofNat_of_zero_le hp1
          have hqt : q < t.size := by omega
          have hq1 : q ≤ t.size := Nat.le_of_lt hqt
          have hq2 : (q : Int) ≤ (t.size : Int) := by omega
          have hq3 : (0 : Int) ≤ (q : Int) := by omega
          have hq4 : ¬ 9223372036854775807 < t.size := by omega
          have HQ := hid hq
          obtain ⟨Rt, hRt⟩ : ∃ Rt, Rt = mkS (rot t q) := ⟨_, rfl⟩
          have hRs : Rt.size = t.size := by rw [hRt]; exact rot_size t (Nat.le_of_lt hqt)
          have hRe : t.extract q t.size ++ t.extract 0 q = Rt := by rw [rot_ext, hRt]
          have HR := hid hRt
          clear hq hp1 hp2 hRt h0
          go_wp2_with (go_at_call 17; refine (pick15_any _ _ _ ?_ ?_ ?_ ?_).mono ?_; omega; omega; omega; omega; rintro e w' ⟨rfl, rfl⟩; rw [HQ.out])
          refine (sq_any t _ (by omega)).mono ?_
          rintro e w4 ⟨v4, rfl, hr4, h4, hO⟩
          have hO := hO h0p
          have z1 : sqE t = 0 := sqE_pos h0p
          rw [z1]
          obtain ⟨a4, c4, rfl, _, _, _⟩ := hr4.open
          obtain ⟨ha5, hr5, h5⟩ := box15t (a := sqA t) (o := sqO t) hr4
          have hB5 := belT (belT hbr h4) h5
          clear hc hr4 z1
          go_upto_region 8 with fail
          have hsz5 : wc.heap.size ≤ w4.heap.size := Nat.le_trans hbr.size h4.size
          generalize w4.alloc (.cells #[.string (sqA t), .int .i64 (sqO t), .slice a4 (sqS t).length c4] 25) = w5 at *
          have hl5 := ha5.lt
          go_cut [13, 14] (fun s13 s14 wx => ∃ g v, s13 = .pointer (some ⟨g, 0, none⟩) ∧ s14 = .int .i64 (sqE Rt) ∧ Arr wx g 25 [.string (sqA Rt), .int .i64 (sqO Rt), v] ∧ RdI wx v (sqS Rt) ∧ Below w5.heap.size w5 wx ∧ w5.heap.size ≤ g ∧ (0 < Rt.size → OrdS Rt))
          case first =>
            refine wp_region_held_drew (S := (fun w' => Below w5.heap.size w5 w')) (by kernel_rfl) (Below.drew (Below.refl _ _)) (fun hHeld => ?_)
            refine wpAnyH_take (i := 0) (oi := ?oi0) (v := ?v0) ?hi0 (by kernel_rfl) (by kernel_rfl) (by kernel_rfl) ?hq0 ?hy0 (by assumption) ?_
            case hi0 => (simp only [List.getElem?_toArray, List.getElem?_cons_zero]; rfl)
            case hq0 => exact fun _ _ _ h => h
            case hy0 => (refine Or.inl ⟨by rfl, ?_⟩; intro w' hSw; (try dsimp only at hSw); (try go_simp); try with_reducible rfl)
            try simp only [Act.put, List.setIfInBounds_toArray, List.set_cons_zero, List.set_cons_succ]
            refine wpAnyH_take (i := 1) (oi := ?oi1) (v := ?v1) ?hi1 (by kernel_rfl) (by kernel_rfl) (by kernel_rfl) ?hq1 ?hy1 (by assumption) ?_
            case hi1 => (simp only [List.getElem?_toArray, List.getElem?_cons_succ, List.getElem?_cons_zero]; rfl)
            case hq1 => exact fun _ _ _ h => h
            case hy1 => (refine Or.inl ⟨by rfl, ?_⟩; intro w' hSw; (try dsimp only at hSw); (try go_simp); try with_reducible rfl)
            try simp only [Act.put, List.setIfInBounds_toArray, List.set_cons_zero, List.set_cons_succ]
            refine wpAnyH_take (i := 2) (oi := ?oi2) (v := ?v2) ?hi2 (by kernel_rfl) (by kernel_rfl) (by kernel_rfl) ?hq2 ?hy2 (by assumption) ?_
            case hi2 => (simp only [List.getElem?_toArray, List.getElem?_cons_succ, List.getElem?_cons_zero]; rfl)
            case hq2 => exact fun _ _ _ h => h
            case hy2 => (refine Or.inl ⟨by rfl, ?_⟩; intro w' hSw; (try dsimp only at hSw); (try go_simp); try with_reducible rfl)
            try simp only [Act.put, List.setIfInBounds_toArray, List.set_cons_zero, List.set_cons_succ]
            refine wpAnyH_take (i := 3) (oi := ?oi3) (v := ?v3) ?hi3 (by kernel_rfl) (by kernel_rfl) (by kernel_rfl) ?hq3 ?hy3 (by assumption) ?_
            case hi3 => (simp only [List.getElem?_toArray, List.getElem?_cons_succ, List.getElem?_cons_zero]; rfl)
            case hq3 => exact fun _ _ _ h => h
            case hy3 => (refine Or.inl ⟨by rfl, ?_⟩; intro w' hSw; (try dsimp only at hSw); (try go_simp); try with_reducible rfl)
            try simp only [Act.put, List.setIfInBounds_toArray, List.set_cons_zero, List.set_cons_succ]
            refine wpAnyH_take (i := 4) (oi := ?oi4) (v := ?v4) ?hi4 (by kernel_rfl) (by kernel_rfl) (by kernel_rfl) ?hq4 ?hy4 (by assumption) ?_
            case hi4 => (simp only [List.getElem?_toArray, List.getElem?_cons_succ, List.getElem?_cons_zero]; rfl)
            case hq4 => exact fun _ _ _ h => h
            case hy4 => (refine Or.inl ⟨by rfl, ?_⟩; intro w' hSw; (try dsimp only at hSw); (try go_simp); try with_reducible rfl)
            try simp only [Act.put, List.setIfInBounds_toArray, List.set_cons_zero, List.set_cons_succ]
            refine wpAnyH_take (i := 5) (oi := ?oi5) (v := ?v5) ?hi5 (by kernel_rfl) (by kernel_rfl) (by kernel_rfl) ?hq5 ?hy5 (by assumption) ?_
            case hi5 => (simp only [List.getElem?_toArray, List.getElem?_cons_succ, List.getElem?_cons_zero]; rfl)
            case hq5 => exact fun _ _ _ h => h
            case hy5 => (refine Or.inl ⟨by rfl, ?_⟩; intro w' hSw; (try dsimp only at hSw); (try go_simp); try with_reducible rfl)
            try simp only [Act.put, List.setIfInBounds_toArray, List.set_cons_zero, List.set_cons_succ]
            refine wpAnyH_take (i := 6) (oi := ?oi6) (v := ?v6) ?hi6 (by kernel_rfl) (by kernel_rfl) (by kernel_rfl) ?hq6 ?hy6 (by assumption) ?_
            case hi6 => (simp only [List.getElem?_toArray, List.getElem?_cons_succ, List.getElem?_cons_zero]; rfl)
            case hq6 => exact fun _ _ _ h => h
            case hy6 => (refine Or.inl ⟨by rfl, ?_⟩; intro w' hSw; (try dsimp only at hSw); (try go_simp); try with_reducible rfl)
            try simp only [Act.put, List.setIfInBounds_toArray, List.set_cons_zero, List.set_cons_succ]
            refine wpAnyH_ready (rs := [7, 11]) (by kernel_rfl) (by simp) ?_
            refine AllReadyH.cons rfl (fun K hK => ?_) (AllReadyH.cons rfl (fun K hK => ?_) AllReadyH.nil)
            · go_simp
              go_at_call 11
              refine (sq_any Rt _ (by omega)).mono ?_
              rintro e w6 ⟨v6, rfl, hr6, h6, hO6⟩
              obtain ⟨a6, c6, rfl, _, _, _⟩ := hr6.open
              have hB6 : Below w5.heap.size w5 w6 := (Below.refl _ _).drew.trans h6
              (try go_wp2_with fail)
              refine hK.out _ _ hB6 (fun hHeld2 => ?_)
              clear hK K
              try simp only [Act.put, List.setIfInBounds_toArray, List.set_cons_zero, List.set_cons_succ]
              refine wpAnyH_take (i := 8) (oi := ?oi8) (v := ?v8) ?hi8 (by kernel_rfl) (by kernel_rfl) (by kernel_rfl) ?hq8 ?hy8 (by assumption) ?_
              case hi8 => (simp only [List.getElem?_toArray, List.getElem?_cons_succ, List.getElem?_cons_zero]; rfl)
              case hq8 => exact fun _ _ _ h => h
              case hy8 => (refine Or.inl ⟨by rfl, ?_⟩; intro w' hSw; (try dsimp only at hSw); (try go_simp); try with_reducible rfl)
              try simp only [Act.put, List.setIfInBounds_toArray, List.set_cons_zero, List.set_cons_succ]
              refine wpAnyH_take (i := 9) (oi := ?oi9) (v := ?v9) ?hi9 (by kernel_rfl) (by kernel_rfl) (by kernel_rfl) ?hq9 ?hy9 (by assumption) ?_
              case hi9 => (simp only [List.getElem?_toArray, List.getElem?_cons_succ, List.getElem?_cons_zero]; rfl)
              case hq9 => exact fun _ _ _ h => h
              case hy9 => (refine Or.inl ⟨by rfl, ?_⟩; intro w' hSw; (try dsimp only at hSw); (try go_simp); try with_reducible rfl)
              try simp only [Act.put, List.setIfInBounds_toArray, List.set_cons_zero, List.set_cons_succ]
              refine wpAnyH_take (i := 10) (oi := ?oi10) (v := ?v10) ?hi10 (by kernel_rfl) (by kernel_rfl) (by kernel_rfl) ?hq10 ?hy10 (by assumption) ?_
              case hi10 => (simp only [List.getElem?_toArray, List.getElem?_cons_succ, List.getElem?_cons_zero]; rfl)
              case hq10 => exact fun _ _ _ h => h
              case hy10 => (refine Or.inl ⟨by rfl, ?_⟩; intro w' hSw; (try dsimp only at hSw); (try go_simp); try with_reducible rfl)
              try simp only [Act.put, List.setIfInBounds_toArray, List.set_cons_zero, List.set_cons_succ]
              refine wpAnyH_ready (rs := [11]) (by kernel_rfl) (by simp) ?_
              refine AllReadyH.cons rfl (fun K hK => ?_) ?_
              rotate_left
              · exact AllReadyH.nil
              go_simp
              refine hK.out _ _ (belA hB6 _) (fun hHeld3 => ?_)
              clear hK K
              try simp only [Act.put, List.setIfInBounds_toArray, List.set_cons_zero, List.set_cons_succ]
              refine wpAnyH_ready (rs := [12]) (by kernel_rfl) (by simp) ?_
              refine AllReadyH.cons rfl (fun K hK => ?_) ?_
              rotate_left
              · exact AllReadyH.nil
              go_simp
              refine hK.out _ _ (belA hB6 _) (fun hHeld4 => ?_)
              clear hK K
              try simp only [Act.put, List.setIfInBounds_toArray, List.set_cons_zero, List.set_cons_succ]
              refine wpAnyH_take (i := 13) (oi := ?oi13) (v := ?v13) ?hi13 (by kernel_rfl) (by kernel_rfl) (by kernel_rfl) ?hq13 ?hy13 (by assumption) ?_
              case hi13 => (simp only [List.getElem?_toArray, List.getElem?_cons_succ, List.getElem?_cons_zero]; rfl)
              case hq13 => exact fun _ _ _ h => h
              case hy13 => (refine Or.inl ⟨by rfl, ?_⟩; intro w' hSw; (try dsimp only at hSw); (try go_simp); try with_reducible rfl)
              try simp only [Act.put, List.setIfInBounds_toArray, List.set_cons_zero, List.set_cons_succ]
              refine wpAnyH_done (by kernel_rfl) ?_ _
              go_wp2_with fail
              go_meet
              exact ⟨w6.heap.size, _, rfl, rfl, Arr.new w6 25 [.string (sqA Rt), .int .i64 (sqO Rt), .slice a6 (sqS Rt).length c6], hr6.below ((Below.refl _ _).alloc (Nat.le_refl _) _), belA hB6 _, hB6.size, hO6⟩
            · go_simp
              have hBz : Below w5.heap.size w5 (w5.alloc (.cells #[.string { data := #[] }, .int .i64 0, .slice none 0 0] 25)).drew := (belA (Below.refl _ _) _).drew
              have hAz : Arr (w5.alloc (.cells #[.string { data := #[] }, .int .i64 0, .slice none 0 0] 25)).drew w5.heap.size 25 [.string { data := #[] }, .int .i64 0, .slice none 0 0] := Arr.new w5 25 [.string { data := #[] }, .int .i64 0, .slice none 0 0]
              refine hK.out _ _ hBz (fun hHeld2 => ?_)
              clear hK K
              try simp only [Act.put, List.setIfInBounds_toArray, List.set_cons_zero, List.set_cons_succ]
              refine wpAnyH_ready (rs := [7]) (by kernel_rfl) (by simp) ?_
              refine AllReadyH.cons rfl (fun K hK => ?_) ?_
              rotate_left
              · exact AllReadyH.nil
              go_simp
              go_at_call 11
              refine (sq_own Rt _ (by omega)).mono ?_
              rintro e w6 ⟨v6, rfl, ho6, h6, hO6⟩
              have hr6 := ho6.rd
              obtain ⟨a6, c6, rfl, _, _, _⟩ := hr6.open
              have hA6 := hAz.below h6 hAz.lt
              have hB6 := belT hBz h6
              have e0 := hA6.cell (i := 0) rfl
              have e1 := hA6.cell (i := 1) rfl
              have e2 := hA6.cell (i := 2) rfl
              have e3 := hA6.free
              (try go_wp2_with fail)
              refine hK.out _ _ hB6 (fun hHeld3 => ?_)
              clear hK K
              try simp only [Act.put, List.setIfInBounds_toArray, List.set_cons_zero, List.set_cons_succ]
              refine wpAnyH_take (i := 8) (oi := ?oib8) (v := ?vb8) ?hib8 (by kernel_rfl) (by kernel_rfl) (by kernel_rfl) ?hqb8 ?hyb8 (by assumption) ?_
              case hib8 => (simp only [List.getElem?_toArray, List.getElem?_cons_succ, List.getElem?_cons_zero]; rfl)
              case hqb8 => exact fun _ _ _ h => h
              case hyb8 => (refine Or.inl ⟨by rfl, ?_⟩; intro w' hSw; (try dsimp only at hSw); (try go_simp); try with_reducible rfl)
              try simp only [Act.put, List.setIfInBounds_toArray, List.set_cons_zero, List.set_cons_succ]
              refine wpAnyH_take (i := 9) (oi := ?oib9) (v := ?vb9) ?hib9 (by kernel_rfl) (by kernel_rfl) (by kernel_rfl) ?hqb9 ?hyb9 (by assumption) ?_
              case hib9 => (simp only [List.getElem?_toArray, List.getElem?_cons_succ, List.getElem?_cons_zero]; rfl)
              case hqb9 => exact fun _ _ _ h => h
              case hyb9 => (refine Or.inl ⟨by rfl, ?_⟩; intro w' hSw; (try dsimp only at hSw); (try go_simp); try with_reducible rfl)
              try simp only [Act.put, List.setIfInBounds_toArray, List.set_cons_zero, List.set_cons_succ]
              refine wpAnyH_take (i := 10) (oi := ?oib10) (v := ?vb10) ?hib10 (by kernel_rfl) (by kernel_rfl) (by kernel_rfl) ?hqb10 ?hyb10 (by assumption) ?_
              case hib10 => (simp only [List.getElem?_toArray, List.getElem?_cons_succ, List.getElem?_cons_zero]; rfl)
              case hqb10 => exact fun _ _ _ h => h
              case hyb10 => (refine Or.inl ⟨by rfl, ?_⟩; intro w' hSw; (try dsimp only at hSw); (try go_simp); try with_reducible rfl)
              try simp only [Act.put, List.setIfInBounds_toArray, List.set_cons_zero, List.set_cons_succ]
              refine wpAnyH_ready (rs := [12]) (by kernel_rfl) (by simp) ?_
              refine AllReadyH.cons rfl (fun K hK => ?_) ?_
              rotate_left
              · exact AllReadyH.nil
              go_simp
              have hB7 := ((hB6.setCell (p := ⟨w5.heap.size, 0, none⟩) (Nat.le_refl _) (.string (sqA Rt))).setCell (p := ⟨w5.heap.size, 1, none⟩) (Nat.le_refl _) (.int .i64 (sqO Rt))).setCell (p := ⟨w5.heap.size, 2, none⟩) (Nat.le_refl _) (.slice a6 (sqS Rt).length c6)
              have hA7 := ((hA6.set 0 (.string (sqA Rt))).set 1 (.int .i64 (sqO Rt))).set 2 (.slice a6 (sqS Rt).length c6)
              have hz6 : w5.heap.size < (w5.alloc (.cells #[.string { data := #[] }, .int .i64 0, .slice none 0 0] 25)).drew.heap.size := hAz.lt
              refine hK.out _ _ hB7 (fun hHeld4 => ?_)
              clear hK K
              try simp only [Act.put, List.setIfInBounds_toArray, List.set_cons_zero, List.set_cons_succ]
              refine wpAnyH_take (i := 13) (oi := ?oib13) (v := ?vb13) ?hib13 (by kernel_rfl) (by kernel_rfl) (by kernel_rfl) ?hqb13 ?hyb13 (by assumption) ?_
              case hib13 => (simp only [List.getElem?_toArray, List.getElem?_cons_succ, List.getElem?_cons_zero]; rfl)
              case hqb13 => exact fun _ _ _ h => h
              case hyb13 => (refine Or.inl ⟨by rfl, ?_⟩; intro w' hSw; (try dsimp only at hSw); (try go_simp); try with_reducible rfl)
              try simp only [Act.put, List.setIfInBounds_toArray, List.set_cons_zero, List.set_cons_succ]
              refine wpAnyH_done (by kernel_rfl) ?_ _
              go_wp2_with fail
              go_meet
              exact ⟨w5.heap.size, _, rfl, rfl, hA7, (((ho6.setLow (p := ⟨w5.heap.size, 0, none⟩) hz6 _).setLow (p := ⟨w5.heap.size, 1, none⟩) hz6 _).setLow (p := ⟨w5.heap.size, 2, none⟩) hz6 _).rd, hB7, Nat.le_refl _, hO6⟩
          case rest =>
            obtain ⟨g, v7, rfl, rfl, hA7, hr7, h7, hg7, hOR⟩ := hcut
            have hOR := hOR (by omega)
            have z3 : sqE Rt = 0 := sqE_pos (by omega)
            rw [z3]
            obtain ⟨a7, c7, rfl, _, _, _⟩ := hr7.open
            have hA5 := ha5.below h7 hl5
            have hR5 := hr5.below h7
            have hB7 := belT hB5 h7
            have hTD : ((sqO t) == (sqO Rt)) = (t.toList == Rt.toList) := by rw [HR.out]; exact turn_dec h0p hqt hO (by rw [← HR.out]; exact hOR)
            have hST : sqA Rt = sqA t ∧ sqS Rt = sqS t := by rw [HR.out]; exact sq_turn h0p hqt hO (by rw [← HR.out]; exact hOR)
            obtain ⟨hST1, hST2⟩ := hST
            rw [hST1] at hA7
            rw [hST2] at hA7 hr7
            have HTD := hid hTD
            have hgl := hA7.lt
            have d0 := hA5.cell (i := 0) rfl
            have d1 := hA5.cell (i := 1) rfl
            have d2 := hA5.cell (i := 2) rfl
            have f1 := hA7.cell (i := 1) rfl
            clear hTD hST1 hST2 hOR z3 ha5 hr5 h5 hB5
            go_upto_region 11 with fail
            have hAN := Arr.new wc 25 [.string (sqA t), .int .i64 (sqO Rt), .slice a4 (sqS t).length c4]
            have hBN : Below wc.heap.size wc (wc.alloc (.cells #[.string (sqA t), .int .i64 (sqO Rt), .slice a4 (sqS t).length c4] 25)) := belA (Below.refl _ _) _
            change Arr (wc.alloc (.cells #[.string (sqA t), .int .i64 (sqO Rt), .slice a4 (sqS t).length c4] 25)) _ _ _ at hAN
            generalize wc.alloc (.cells #[.string (sqA t), .int .i64 (sqO Rt), .slice a4 (sqS t).length c4] 25) = w8 at *
            have hB8 := belT hB7 hBN
            have z0 : TurnS w8 w4.heap.size g wc.heap.size (sqA t) (sqO t) (sqO Rt) (.slice a4 (sqS t).length c4) (.slice a7 (sqS t).length c7) w8 :=
              ⟨(hA5.below hBN hA5.lt).cell (i := 1) rfl, (hA7.below hBN hgl).cell (i := 0) rfl, (hA7.below hBN hgl).cell (i := 1) rfl, (hA7.below hBN hgl).cell (i := 2) rfl, hAN.cell (i := 0) rfl, hAN.cell (i := 1) rfl, hAN.cell (i := 2) rfl, Below.refl _ _⟩
            have hl1 : w4.heap.size < w8.heap.size := Nat.lt_of_lt_of_le hA5.lt hBN.size
            have hl2 : g < w8.heap.size := Nat.lt_of_lt_of_le hgl hBN.size
            have hl3 : wc.heap.size < w8.heap.size := hAN.lt
            have hRN : RdI w8 (.slice a4 (sqS t).length c4) (sqS t) := hR5.below hBN
            have hRM : RdI w8 (.slice a7 (sqS t).length c7) (sqS t) := hr7.below hBN
            have hsame : decide (sqS t = sqS t ∧ sqA t = sqA t ∧ sqO Rt = sqO Rt) = true := by simp
            have hTD := HTD.out
            have hself : ((t.toList == Rt.toList) != (t.toList == Rt.toList)) = false := by simp
            clear hA5 hA7 hAN hBN d0 d1 d2 f1 hR5 hr7 h7 hB7 hg7
            refine wp_region_held_drew (S := (fun w' => w'.cell? ⟨w4.heap.size, 1, none⟩ = some (.int .i64 (sqO t)) ∧ w'.cell? ⟨g, 0, none⟩ = some (.string (sqA t)) ∧ w'.cell? ⟨g, 1, none⟩ = some (.int .i64 (sqO Rt)) ∧ w'.cell? ⟨g, 2, none⟩ = some (.slice a7 (sqS t).length c7) ∧ w'.cell? ⟨wc.heap.size, 0, none⟩ = some (.string (sqA t)) ∧ w'.cell? ⟨wc.heap.size, 1, none⟩ = some (.int .i64 (sqO Rt)) ∧ w'.cell? ⟨wc.heap.size, 2, none⟩ = some (.slice a4 (sqS t).length c4) ∧ Below w8.heap.size w8 w')) (by kernel_rfl) (TurnS.drew z0) (fun hHeld => ?_)
            refine wpAnyH_take (i := 0) (oi := ?oic0) (v := ?vc0) ?hic0 (by kernel_rfl) (by kernel_rfl) (by kernel_rfl) ?hqc0 ?hyc0 (by assumption) ?_
            case hic0 => (simp only [List.getElem?_toArray, List.getElem?_cons_zero]; rfl)
            case hqc0 => exact fun _ _ _ h => h
            case hyc0 => (refine Or.inl ⟨by rfl, ?_⟩; intro w' hSw; (try dsimp only at hSw); (try go_simp); try with_reducible rfl)
            try simp only [Act.put, List.setIfInBounds_toArray, List.set_cons_zero, List.set_cons_succ]
            refine wpAnyH_take (i := 1) (oi := ?oic1) (v := ?vc1) ?hic1 (by kernel_rfl) (by kernel_rfl) (by kernel_rfl) ?hqc1 ?hyc1 (by assumption) ?_
            case hic1 => (simp only [List.getElem?_toArray, List.getElem?_cons_succ, List.getElem?_cons_zero]; rfl)
            case hqc1 => exact fun _ _ _ h => h
            case hyc1 => (refine Or.inl ⟨by rfl, ?_⟩; intro w' hSw; (try dsimp only at hSw); (try go_simp); try with_reducible rfl)
            try simp only [Act.put, List.setIfInBounds_toArray, List.set_cons_zero, List.set_cons_succ]
            refine wpAnyH_take (i := 2) (oi := ?oic2) (v := ?vc2) ?hic2 (by kernel_rfl) (by kernel_rfl) (by kernel_rfl) ?hqc2 ?hyc2 (by assumption) ?_
            case hic2 => (simp only [List.getElem?_toArray, List.getElem?_cons_succ, List.getElem?_cons_zero]; rfl)
            case hqc2 => exact fun _ _ _ h => h
            case hyc2 => (refine Or.inl ⟨by rfl, ?_⟩; intro w' hSw; (try dsimp only at hSw); (try go_simp); try with_reducible rfl)
            try simp only [Act.put, List.setIfInBounds_toArray, List.set_cons_zero, List.set_cons_succ]
            refine wpAnyH_take (i := 3) (oi := ?oic3) (v := ?vc3) ?hic3 (by kernel_rfl) (by kernel_rfl) (by kernel_rfl) ?hqc3 ?hyc3 (by assumption) ?_
            case hic3 => (simp only [List.getElem?_toArray, List.getElem?_cons_succ, List.getElem?_cons_zero]; rfl)
            case hqc3 => exact fun _ _ _ h => h
            case hyc3 => (refine Or.inl ⟨by rfl, ?_⟩; intro w' hSw; (try dsimp only at hSw); (try go_simp); try with_reducible rfl)
            try simp only [Act.put, List.setIfInBounds_toArray, List.set_cons_zero, List.set_cons_succ]
            refine wpAnyH_take (i := 4) (oi := ?oic4) (v := ?vc4) ?hic4 (by kernel_rfl) (by kernel_rfl) (by kernel_rfl) ?hqc4 ?hyc4 (by assumption) ?_
            case hic4 => (simp only [List.getElem?_toArray, List.getElem?_cons_succ, List.getElem?_cons_zero]; rfl)
            case hqc4 => exact fun _ _ _ h => h
            case hyc4 => (refine Or.inl ⟨by rfl, ?_⟩; intro w' hSw; (try dsimp only at hSw); (try go_simp); try with_reducible rfl)
            try simp only [Act.put, List.setIfInBounds_toArray, List.set_cons_zero, List.set_cons_succ]
            refine wpAnyH_take (i := 5) (oi := ?oic5) (v := ?vc5) ?hic5 (by kernel_rfl) (by kernel_rfl) (by kernel_rfl) ?hqc5 ?hyc5 (by assumption) ?_
            case hic5 => (simp only [List.getElem?_toArray, List.getElem?_cons_succ, List.getElem?_cons_zero]; rfl)
            case hqc5 => exact fun _ _ _ h => h
            case hyc5 => (refine Or.inl ⟨by rfl, ?_⟩; intro w' hSw; (try dsimp only at hSw); (try go_simp); try with_reducible rfl)
            try simp only [Act.put, List.setIfInBounds_toArray, List.set_cons_zero, List.set_cons_succ]
            refine wpAnyH_take (i := 6) (oi := ?oic6) (v := ?vc6) ?hic6 (by kernel_rfl) (by kernel_rfl) (by kernel_rfl) ?hqc6 ?hyc6 (by assumption) ?_
            case hic6 => (simp only [List.getElem?_toArray, List.getElem?_cons_succ, List.getElem?_cons_zero]; rfl)
            case hqc6 => exact fun _ _ _ h => h
            case hyc6 => (refine Or.inl ⟨by rfl, ?_⟩; intro w' hSw; (try dsimp only at hSw); (try go_simp); try with_reducible rfl)
            try simp only [Act.put, List.setIfInBounds_toArray, List.set_cons_zero, List.set_cons_succ]
            refine wpAnyH_take (i := 7) (oi := ?oic7) (v := ?vc7) ?hic7 (by kernel_rfl) (by kernel_rfl) (by kernel_rfl) ?hqc7 ?hyc7 (by assumption) ?_
            case hic7 => (simp only [List.getElem?_toArray, List.getElem?_cons_succ, List.getElem?_cons_zero]; rfl)
            case hqc7 => exact fun _ _ _ h => h
            case hyc7 => (refine Or.inl ⟨by rfl, ?_⟩; intro w' hSw; (try dsimp only at hSw); (try go_simp); try with_reducible rfl)
            try simp only [Act.put, List.setIfInBounds_toArray, List.set_cons_zero, List.set_cons_succ]
            refine wpAnyH_take (i := 8) (oi := ?oic8) (v := ?vc8) ?hic8 (by kernel_rfl) (by kernel_rfl) (by kernel_rfl) ?hqc8 ?hyc8 (by assumption) ?_
            case hic8 => (simp only [List.getElem?_toArray, List.getElem?_cons_succ, List.getElem?_cons_zero]; rfl)
            case hqc8 => exact fun _ _ _ h => h
            case hyc8 => (refine Or.inl ⟨by rfl, ?_⟩; intro w' hSw; (try dsimp only at hSw); (try go_simp); try with_reducible rfl)
            try simp only [Act.put, List.setIfInBounds_toArray, List.set_cons_zero, List.set_cons_succ]
            refine wpAnyH_ready (rs := [9]) (by kernel_rfl) (by simp) ?_
            refine AllReadyH.cons rfl (fun K hK => ?_) ?_
            rotate_left
            · exact AllReadyH.nil
            go_simp
            go_at_call 13
            refine (same_any _ _ _ _ _ _ (sqS t) (sqS t) _ (hRN.below (Below.refl _ _).drew) (hRM.below (Below.refl _ _).drew)).mono ?_
            rintro e w9 ⟨rfl, h9⟩
            rw [hsame]
            (try go_wp2_with fail)
            refine hK.out _ _ (TurnS.keep hHeld hl1 hl2 hl3 h9) (fun hHeld2 => ?_)
            clear hK K
            try simp only [Act.put, List.setIfInBounds_toArray, List.set_cons_zero, List.set_cons_succ]
            refine wpAnyH_take (i := 10) (oi := ?oic10) (v := ?vc10) ?hic10 (by kernel_rfl) (by kernel_rfl) (by kernel_rfl) ?hqc10 ?hyc10 (by assumption) ?_
            case hic10 => (simp only [List.getElem?_toArray, List.getElem?_cons_succ, List.getElem?_cons_zero]; rfl)
            case hqc10 => exact fun _ _ _ h => h
            case hyc10 => (refine Or.inl ⟨by rfl, ?_⟩; intro w' hSw; (try dsimp only at hSw); (try go_simp); try with_reducible rfl)
            try simp only [Act.put, List.setIfInBounds_toArray, List.set_cons_zero, List.set_cons_succ]
            refine wpAnyH_take (i := 11) (oi := ?oic11) (v := ?vc11) ?hic11 (by kernel_rfl) (by kernel_rfl) (by kernel_rfl) ?hqc11 ?hyc11 (by assumption) ?_
            case hic11 => (simp only [List.getElem?_toArray, List.getElem?_cons_succ, List.getElem?_cons_zero]; rfl)
            case hqc11 => exact fun _ _ _ h => h
            case hyc11 => (refine Or.inl ⟨by rfl, ?_⟩; intro w' hSw; (try dsimp only at hSw); (try go_simp); try with_reducible rfl)
            try simp only [Act.put, List.setIfInBounds_toArray, List.set_cons_zero, List.set_cons_succ]
            refine wpAnyH_take (i := 12) (oi := ?oic12) (v := ?vc12) ?hic12 (by kernel_rfl) (by kernel_rfl) (by kernel_rfl) ?hqc12 ?hyc12 (by assumption) ?_
            case hic12 => (simp only [List.getElem?_toArray, List.getElem?_cons_succ, List.getElem?_cons_zero]; rfl)
            case hqc12 => exact fun _ _ _ h => h
            case hyc12 => (refine Or.inl ⟨by rfl, ?_⟩; intro w' hSw; (try dsimp only at hSw); (try go_simp); try with_reducible rfl)
            try simp only [Act.put, List.setIfInBounds_toArray, List.set_cons_zero, List.set_cons_succ]
            refine wpAnyH_take (i := 13) (oi := ?oic13) (v := ?vc13) ?hic13 (by kernel_rfl) (by kernel_rfl) (by kernel_rfl) ?hqc13 ?hyc13 (by assumption) ?_
            case hic13 => (simp only [List.getElem?_toArray, List.getElem?_cons_succ, List.getElem?_cons_zero]; rfl)
            case hqc13 => exact fun _ _ _ h => h
            case hyc13 => (refine Or.inl ⟨by rfl, ?_⟩; intro w' hSw; (try dsimp only at hSw); (try go_simp); try with_reducible rfl)
            try simp only [Act.put, List.setIfInBounds_toArray, List.set_cons_zero, List.set_cons_succ]
            refine wpAnyH_take (i := 14) (oi := ?oic14) (v := ?vc14) ?hic14 (by kernel_rfl) (by kernel_rfl) (by kernel_rfl) ?hqc14 ?hyc14 (by assumption) ?_
            case hic14 => (simp only [List.getElem?_toArray, List.getElem?_cons_succ, List.getElem?_cons_zero]; rfl)
            case hqc14 => exact fun _ _ _ h => h
            case hyc14 => (refine Or.inl ⟨by rfl, ?_⟩; intro w' hSw; (try dsimp only at hSw); (try go_simp); try with_reducible rfl)
            try simp only [Act.put, List.setIfInBounds_toArray, List.set_cons_zero, List.set_cons_succ]
            refine wpAnyH_take (i := 15) (oi := ?oic15) (v := ?vc15) ?hic15 (by kernel_rfl) (by kernel_rfl) (by kernel_rfl) ?hqc15 ?hyc15 (by assumption) ?_
            case hic15 => (simp only [List.getElem?_toArray, List.getElem?_cons_succ, List.getElem?_cons_zero]; rfl)
            case hqc15 => exact fun _ _ _ h => h
            case hyc15 => (refine Or.inl ⟨by rfl, ?_⟩; intro w' hSw; (try dsimp only at hSw); (try go_simp); try with_reducible rfl)
            try simp only [Act.put, List.setIfInBounds_toArray, List.set_cons_zero, List.set_cons_succ]
            refine wpAnyH_take (i := 16) (oi := ?oic16) (v := ?vc16) ?hic16 (by kernel_rfl) (by kernel_rfl) (by kernel_rfl) ?hqc16 ?hyc16 (by assumption) ?_
            case hic16 => (simp only [List.getElem?_toArray, List.getElem?_cons_succ, List.getElem?_cons_zero]; rfl)
            case hqc16 => exact fun _ _ _ h => h
            case hyc16 => (refine Or.inl ⟨by rfl, ?_⟩; intro w' hSw; (try dsimp only at hSw); (try go_simp); try with_reducible rfl)
            try simp only [Act.put, List.setIfInBounds_toArray, List.set_cons_zero, List.set_cons_succ]
            refine wpAnyH_take (i := 17) (oi := ?oic17) (v := ?vc17) ?hic17 (by kernel_rfl) (by kernel_rfl) (by kernel_rfl) ?hqc17 ?hyc17 (by assumption) ?_
            case hic17 => (simp only [List.getElem?_toArray, List.getElem?_cons_succ, List.getElem?_cons_zero]; rfl)
            case hqc17 => exact fun _ _ _ h => h
            case hyc17 => (refine Or.inl ⟨by rfl, ?_⟩; intro w' hSw; (try dsimp only at hSw); (try go_simp); try with_reducible rfl)
            try simp only [Act.put, List.setIfInBounds_toArray, List.set_cons_zero, List.set_cons_succ]
            refine wpAnyH_take (i := 18) (oi := ?oic18) (v := ?vc18) ?hic18 (by kernel_rfl) (by kernel_rfl) (by kernel_rfl) ?hqc18 ?hyc18 (by assumption) ?_
            case hic18 => (simp only [List.getElem?_toArray, List.getElem?_cons_succ, List.getElem?_cons_zero]; rfl)
            case hqc18 => exact fun _ _ _ h => h
            case hyc18 => (refine Or.inl ⟨by rfl, ?_⟩; intro w' hSw; (try dsimp only at hSw); (try go_simp); try with_reducible rfl)
            try simp only [Act.put, List.setIfInBounds_toArray, List.set_cons_zero, List.set_cons_succ]
            refine wpAnyH_take (i := 19) (oi := ?oic19) (v := ?vc19) ?hic19 (by kernel_rfl) (by kernel_rfl) (by kernel_rfl) ?hqc19 ?hyc19 (by assumption) ?_
            case hic19 => (simp only [List.getElem?_toArray, List.getElem?_cons_succ, List.getElem?_cons_zero]; rfl)
            case hqc19 => exact fun _ _ _ h => h
            case hyc19 => (refine Or.inl ⟨by rfl, ?_⟩; intro w' hSw; (try dsimp only at hSw); (try go_simp); try with_reducible rfl)
            try simp only [Act.put, List.setIfInBounds_toArray, List.set_cons_zero, List.set_cons_succ]
            refine wpAnyH_take (i := 20) (oi := ?oic20) (v := ?vc20) ?hic20 (by kernel_rfl) (by kernel_rfl) (by kernel_rfl) ?hqc20 ?hyc20 (by assumption) ?_
            case hic20 => (simp only [List.getElem?_toArray, List.getElem?_cons_succ, List.getElem?_cons_zero]; rfl)
            case hqc20 => exact fun _ _ _ h => h
            case hyc20 => (refine Or.inl ⟨by rfl, ?_⟩; intro w' hSw; (try dsimp only at hSw); (try go_simp); try with_reducible rfl)
            try simp only [Act.put, List.setIfInBounds_toArray, List.set_cons_zero, List.set_cons_succ]
            refine wpAnyH_take (i := 21) (oi := ?oic21) (v := ?vc21) ?hic21 (by kernel_rfl) (by kernel_rfl) (by kernel_rfl) ?hqc21 ?hyc21 (by assumption) ?_
            case hic21 => (simp only [List.getElem?_toArray, List.getElem?_cons_succ, List.getElem?_cons_zero]; rfl)
            case hqc21 => exact fun _ _ _ h => h
            case hyc21 => (refine Or.inl ⟨by rfl, ?_⟩; intro w' hSw; (try dsimp only at hSw); (try go_simp); try with_reducible rfl)
            try simp only [Act.put, List.setIfInBounds_toArray, List.set_cons_zero, List.set_cons_succ]
            refine wpAnyH_take (i := 22) (oi := ?oic22) (v := ?vc22) ?hic22 (by kernel_rfl) (by kernel_rfl) (by kernel_rfl) ?hqc22 ?hyc22 (by assumption) ?_
            case hic22 => (simp only [List.getElem?_toArray, List.getElem?_cons_succ, List.getElem?_cons_zero]; rfl)
            case hqc22 => exact fun _ _ _ h => h
            case hyc22 => (refine Or.inl ⟨by rfl, ?_⟩; intro w' hSw; (try dsimp only at hSw); (try go_simp); try with_reducible rfl)
            try simp only [Act.put, List.setIfInBounds_toArray, List.set_cons_zero, List.set_cons_succ]
            refine wpAnyH_take (i := 23) (oi := ?oic23) (v := ?vc23) ?hic23 (by kernel_rfl) (by kernel_rfl) (by kernel_rfl) ?hqc23 ?hyc23 (by assumption) ?_
            case hic23 => (simp only [List.getElem?_toArray, List.getElem?_cons_succ, List.getElem?_cons_zero]; rfl)
            case hqc23 => exact fun _ _ _ h => h
            case hyc23 => (refine Or.inl ⟨by rfl, ?_⟩; intro w' hSw; (try dsimp only at hSw); (try go_simp); try with_reducible rfl)
            try simp only [Act.put, List.setIfInBounds_toArray, List.set_cons_zero, List.set_cons_succ]
            refine wpAnyH_take (i := 24) (oi := ?oic24) (v := ?vc24) ?hic24 (by kernel_rfl) (by kernel_rfl) (by kernel_rfl) ?hqc24 ?hyc24 (by assumption) ?_
            case hic24 => (simp only [List.getElem?_toArray, List.getElem?_cons_succ, List.getElem?_cons_zero]; rfl)
            case hqc24 => exact fun _ _ _ h => h
            case hyc24 => (refine Or.inl ⟨by rfl, ?_⟩; intro w' hSw; (try dsimp only at hSw); (try go_simp); try with_reducible rfl)
            try simp only [Act.put, List.setIfInBounds_toArray, List.set_cons_zero, List.set_cons_succ]
            refine wpAnyH_take (i := 25) (oi := ?oic25) (v := ?vc25) ?hic25 (by kernel_rfl) (by kernel_rfl) (by kernel_rfl) ?hqc25 ?hyc25 (by assumption) ?_
            case hic25 => (simp only [List.getElem?_toArray, List.getElem?_cons_succ, List.getElem?_cons_zero]; rfl)
            case hqc25 => exact fun _ _ _ h => h
            case hyc25 => (refine Or.inl ⟨by rfl, ?_⟩; intro w' hSw; (try dsimp only at hSw); (try go_simp); try with_reducible rfl)
            try simp only [Act.put, List.setIfInBounds_toArray, List.set_cons_zero, List.set_cons_succ]
            refine wpAnyH_take (i := 26) (oi := ?oic26) (v := ?vc26) ?hic26 (by kernel_rfl) (by kernel_rfl) (by kernel_rfl) ?hqc26 ?hyc26 (by assumption) ?_
            case hic26 => (simp only [List.getElem?_toArray, List.getElem?_cons_succ, List.getElem?_cons_zero]; rfl)
            case hqc26 => exact fun _ _ _ h => h
            case hyc26 => (refine Or.inl ⟨by rfl, ?_⟩; intro w' hSw; (try dsimp only at hSw); (try go_simp); try with_reducible rfl)
            try simp only [Act.put, List.setIfInBounds_toArray, List.set_cons_zero, List.set_cons_succ]
            refine wpAnyH_take (i := 27) (oi := ?oic27) (v := ?vc27) ?hic27 (by kernel_rfl) (by kernel_rfl) (by kernel_rfl) ?hqc27 ?hyc27 (by assumption) ?_
            case hic27 => (simp only [List.getElem?_toArray, List.getElem?_cons_succ, List.getElem?_cons_zero]; rfl)
            case hqc27 => exact fun _ _ _ h => h
            case hyc27 => (refine Or.inl ⟨by rfl, ?_⟩; intro w' hSw; (try dsimp only at hSw); (try go_simp); try with_reducible rfl)
            try simp only [Act.put, List.setIfInBounds_toArray, List.set_cons_zero, List.set_cons_succ]
            refine wpAnyH_take (i := 28) (oi := ?oic28) (v := ?vc28) ?hic28 (by kernel_rfl) (by kernel_rfl) (by kernel_rfl) ?hqc28 ?hyc28 (by assumption) ?_
            case hic28 => (simp only [List.getElem?_toArray, List.getElem?_cons_succ, List.getElem?_cons_zero]; rfl)
            case hqc28 => exact fun _ _ _ h => h
            case hyc28 => (refine Or.inl ⟨by rfl, ?_⟩; intro w' hSw; (try dsimp only at hSw); (try go_simp); try with_reducible rfl)
            try simp only [Act.put, List.setIfInBounds_toArray, List.set_cons_zero, List.set_cons_succ]
            refine wpAnyH_done (by kernel_rfl) ?_ _
            have hBF := belT hB8 hHeld2.2.2.2.2.2.2.2
            clear hHeld hHeld2 z0 hTD
            go_wp2_with fail
            have hg := HG.out
            go_roundg (2 - (k + 1))
            case measure => omega
            case rel => exact ⟨k + 1, by omega, rfl, by go_num, hBF⟩
      · have hd : decide ((k : Int) < 2) = false := by simp; omega
        go_wp2
        go_ret
        exact ⟨rfl, hbel.trans (hbr.mono hbel.size)⟩

end Go.Proofs.YthjmpiekjfnoiaaGreatDoor
