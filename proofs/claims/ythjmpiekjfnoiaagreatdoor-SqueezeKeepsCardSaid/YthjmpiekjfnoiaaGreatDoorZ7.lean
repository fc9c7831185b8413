/-
  The walk of the program's chapter 15: Restore.
-/
import Derived.Test.YthjmpiekjfnoiaaGreatDoorZ6
import Derived.Test.YthjmpiekjfnoiaaGreatDoorZ4
import Derived.Test.YthjmpiekjfnoiaaGreatDoorZ5
import Derived.Test.YthjmpiekjfnoiaaGreatDoorRows
import Derived.ProofKit
import Derived.OpenShut
import Derived.ShutString
import Derived.ChangeOld
import Derived.ChangeVars
import Derived.JoinedOf
import Derived.LaidLaws
import Derived.LaidHandle
import Derived.Stop.Joined
import Derived.Deep.Slices
import Derived.Lib.SmallJoins
import Derived.SizedLaws
namespace Go.Proofs.YthjmpiekjfnoiaaGreatDoor
open Go.RowKit Go.Shelf

set_option maxRecDepth 100000 in
theorem step_any (w0 w : World) (wb : Nat) (a : ByteArray) (o : Int) (v : Value) (l : List Int) (most : Int) (ha : a.size ≤ 140737488355328) (hr : RdI w0 v l) (hl : l.length ≤ 100000) (ho1 : -9223372036854775808 ≤ o) (ho2 : o ≤ 9223372036854775807) (hm1 : -9223372036854775808 ≤ most) (hm2 : most ≤ 1000000) (hb0 : Below w0.heap.size w0 w) (hwb : w0.heap.size ≤ wb) :
    ∀ k, k < 5 → ∀ W, stS w0 wb a o v l most k W → w.grownBy W (some wb) → (∀ j, j < k → stE a o l most j = 0) → Calls Tryz.prog (stF k) #[.pointer (some ⟨wb, 0, none⟩)] W fun e W' => e = .returned (.int .i64 (stD a o l most k)) ∧ W.grownBy W' (some wb) ∧ (stE a o l most k = 0 → stS w0 wb a o v l most (k + 1) W') := by
  intro k hk W hS hg hj
  obtain ⟨lv, b, harr, s2, s3, s4, s5⟩ := hS
  have hB : Below w0.heap.size w0 W := hb0.grown hg hb0.size (fun q e => by injection e with e; omega)
  have hrW : RdI W v l := hr.below hB
  match k, hk with
  | 0, _ =>
    refine (letters_any wb a o most v lv b W ha harr).mono ?_
    rintro e W' ⟨rfl, hb⟩
    exact ⟨rfl, gb_below hb _, fun _ => ⟨lv, b, harr.below hb harr.lt, by omega, by omega, by omega, by omega⟩⟩
  | 1, _ =>
    have h0 := st0 (hj 0 (by omega))
    have ha6 : a.size ≤ 256 := by
      have hla : a.data.toList.length = a.size := by simp
      rw [← hla, ← h0.2]; exact alph_le _
    have e1 : stD a o l most 1 = if mayP l ((a.size : Int) + 1) then 0 else 3 := rfl
    by_cases hq : mayP l ((a.size : Int) + 1)
    · rw [e1, if_pos hq]
      refine (ended_yes wb a o most v lv l b W ha6 harr hrW hq).mono ?_
      rintro e W' ⟨rfl, hg', lv', harr', hrl⟩
      exact ⟨rfl, hg', fun _ => ⟨lv', b, harr', fun _ => hrl w0 hr, by omega, by omega, by omega⟩⟩
    · rw [e1, if_neg hq]
      refine (ended_no wb a o most v lv l b W ha6 harr hrW hq).mono ?_
      rintro e W' ⟨rfl, hb⟩
      exact ⟨rfl, gb_below hb _, fun h => absurd (st1 h) hq⟩
  | 2, _ =>
    have h1 := st1 (hj 1 (by omega))
    have ha6 : a.size ≤ 256 := by
      have h0 := st0 (hj 0 (by omega))
      have hla : a.data.toList.length = a.size := by simp
      rw [← hla, ← h0.2]; exact alph_le _
    refine (places_any wb a o most v lv (l.take (l.length - 1)) b W harr ((s2 rfl).below hB) (by rw [List.length_take]; omega) (fun x hx => by have := h1.2.2 x hx; omega) hm1 hm2).mono ?_
    rintro e W' ⟨rfl, hg', lv', harr', hrl⟩
    refine ⟨rfl, hg', fun h => ⟨lv', b, harr', by omega, fun _ => ?_, by omega, by omega⟩⟩
    rw [(decYes (m := l.take (l.length - 1)) (st2 h)).1] at hrl
    exact hrl
  | 3, _ =>
    have h0 := st0 (hj 0 (by omega))
    have h1 := st1 (hj 1 (by omega))
    have h2 := st2 (hj 2 (by omega))
    have hla : a.data.toList.length = a.size := by simp
    have ha6 : a.size ≤ 256 := by rw [← hla, ← h0.2]; exact alph_le _
    have hap : 0 < a.size := by rw [← hla]; exact List.length_pos_iff.2 h0.1
    have e3 : stD a o l most 3 = if zexL l = [] then 3 else 0 := rfl
    by_cases hq : zexL l = []
    · rw [e3, if_pos hq]
      refine (last_no wb a o most v lv b W harr (by have := s3 rfl; rwa [hq] at this)).mono ?_
      rintro e W' ⟨rfl, rfl⟩
      exact ⟨rfl, gb_below (Below.refl _ _) _, fun h => absurd hq (st3 h)⟩
    · rw [e3, if_neg hq]
      refine (last_yes wb a o most v lv (zexL l) b W harr (s3 rfl) (List.length_pos_iff.2 hq) (by omega) (by omega) (by rw [← h0.2]; exact alph_nodup _) (zexL_range h1 hap)).mono ?_
      rintro e W' ⟨rfl, hg', harr'⟩
      exact ⟨rfl, hg', fun _ => ⟨lv, _, harr', by omega, by omega, fun _ => rfl, by omega⟩⟩
  | 4, _ =>
    have h2 := st2 (hj 2 (by omega))
    obtain rfl := s4 rfl
    have hls : (mkS (unL a.data.toList (zexL l))).size ≤ 1000000000 := by rw [mkS_size, unL_length]; omega
    refine (first_any wb a o most v lv _ W harr hls ho1 ho2).mono ?_
    rintro e W' ⟨rfl, hg', harr'⟩
    exact ⟨rfl, hg', fun _ => ⟨lv, _, harr', by omega, by omega, by omega, fun _ => rfl⟩⟩

theorem why_any (a : ByteArray) (o : Int) (l : List Int) (most : Int) : ∀ k, k < 5 → ∀ W, Calls Tryz.prog (stY k) #[.int .i64 (stD a o l most k)] W fun e W' => e = .returned (.int .i64 (stE a o l most k)) ∧ W' = W := by
  intro k hk W
  match k, hk with
  | 0, _ => exact as_any _ W
  | 1, _ => exact as_any _ W
  | 2, _ => exact as_any _ W
  | 3, _ =>
    refine (form_any (stD a o l most 3) W).mono ?_
    rintro e W' ⟨rfl, rfl⟩
    refine ⟨ret_int ?_, rfl⟩
    have e3 : stD a o l most 3 = if zexL l = [] then 3 else 0 := rfl
    have e4 : stE a o l most 3 = if zexL l = [] then 3 else 0 := rfl
    rw [e3, e4]
    by_cases hq : zexL l = []
    · rw [if_pos hq]; rfl
    · rw [if_neg hq]; rfl
  | 4, _ => exact form_any (stD a o l most 4) W

theorem stS_keep (w0 : World) (wb : Nat) (a : ByteArray) (o : Int) (v : Value) (l : List Int) (most : Int) (k : Nat) (W W' : World) (h : stS w0 wb a o v l most k W) (hb : Below W.heap.size W W') : stS w0 wb a o v l most k W' := by
  obtain ⟨lv, b, harr, s2, s3, s4, s5⟩ := h
  exact ⟨lv, b, harr.below hb harr.lt, s2, fun e => (s3 e).below hb, s4, s5⟩

theorem stF_enters : ∀ k, k < 5 → Enters Tryz.prog (stF k) := by
  intro k hk
  match k, hk with
  | 0, _ => exact enters_of Tryz.func34 rfl rfl
  | 1, _ => exact enters_of Tryz.func36 rfl rfl
  | 2, _ => exact enters_of Tryz.func37 rfl rfl
  | 3, _ => exact enters_of Tryz.func38 rfl rfl
  | 4, _ => exact enters_of Tryz.func40 rfl rfl
theorem stY_enters : ∀ k, k < 5 → Enters Tryz.prog (stY k) := by
  intro k hk
  match k, hk with
  | 0, _ => exact enters_of Tryz.func35 rfl rfl
  | 1, _ => exact enters_of Tryz.func35 rfl rfl
  | 2, _ => exact enters_of Tryz.func35 rfl rfl
  | 3, _ => exact enters_of Tryz.func39 rfl rfl
  | 4, _ => exact enters_of Tryz.func39 rfl rfl

set_option maxRecDepth 100000 in
set_option maxHeartbeats 1600000 in
theorem restore_any (a : ByteArray) (o : Int) (v : Value) (l : List Int) (most : Int) (w : World) (hE : ErrVar w) (ha : a.size ≤ 140737488355328) (hr : RdI w v l) (hl : l.length ≤ 100000) (ho1 : -9223372036854775808 ≤ o) (ho2 : o ≤ 9223372036854775807) (hm1 : -9223372036854775808 ≤ most) (hm2 : most ≤ 1000000) :
    Calls Tryz.prog 18 #[.agg #[.string a, .int .i64 o, v], .int .i64 most] w fun e w' => e = .returned (.tuple #[.string (rest a o l most).1, .int .i64 (rest a o l most).2]) ∧ Below w.heap.size w w' := by
  have HST := hid (fun w1 wb hb0 hwb => step_any w w1 wb a o v l most ha hr hl ho1 ho2 hm1 hm2 hb0 hwb)
  obtain ⟨ad, ca, rfl, hca, hma, _⟩ := hr.open
  go_enter Tryz.func18, Tryz.ntmps18
  go_wp2_with fail
  have hs1 : (w.alloc (.cells #[.string a, .int .i64 o, .slice ad l.length ca] 25)).heap.size = w.heap.size + 1 := by simp
  have hB : Below w.heap.size w ((((w.alloc (.cells #[.string a, .int .i64 o, .slice ad l.length ca] 25)).alloc (.cells #[.string a, .int .i64 o, .slice ad l.length ca, .int .i64 most, .slice none 0 0, .string { data := #[] }] 57)).alloc (.cells #[.int .i64 0] 58)).alloc (.cells #[.func (.func 34) #[] #[], .func (.func 35) #[] #[], .func (.func 36) #[] #[], .func (.func 35) #[] #[], .func (.func 37) #[] #[], .func (.func 35) #[] #[], .func (.func 38) #[] #[], .func (.func 39) #[] #[], .func (.func 40) #[] #[], .func (.func 39) #[] #[]] 66)) := ((((Below.refl _ _).alloc (Nat.le_refl _) _).alloc (by simp) _).alloc (by simp; omega) _).alloc (by simp; omega) _
  have hA : Arr ((((w.alloc (.cells #[.string a, .int .i64 o, .slice ad l.length ca] 25)).alloc (.cells #[.string a, .int .i64 o, .slice ad l.length ca, .int .i64 most, .slice none 0 0, .string { data := #[] }] 57)).alloc (.cells #[.int .i64 0] 58)).alloc (.cells #[.func (.func 34) #[] #[], .func (.func 35) #[] #[], .func (.func 36) #[] #[], .func (.func 35) #[] #[], .func (.func 37) #[] #[], .func (.func 35) #[] #[], .func (.func 38) #[] #[], .func (.func 39) #[] #[], .func (.func 40) #[] #[], .func (.func 39) #[] #[]] 66)) (w.heap.size + 1) 57 [.string a, .int .i64 o, .slice ad l.length ca, .int .i64 most, .slice none 0 0, .string { data := #[] }] := by
    have := ((Arr.new (w.alloc (.cells #[.string a, .int .i64 o, .slice ad l.length ca] 25)) 57 [.string a, .int .i64 o, .slice ad l.length ca, .int .i64 most, .slice none 0 0, .string { data := #[] }]).alloc (.cells #[.int .i64 0] 58)).alloc (.cells #[.func (.func 34) #[] #[], .func (.func 35) #[] #[], .func (.func 36) #[] #[], .func (.func 35) #[] #[], .func (.func 37) #[] #[], .func (.func 35) #[] #[], .func (.func 38) #[] #[], .func (.func 39) #[] #[], .func (.func 40) #[] #[], .func (.func 39) #[] #[]] 66)
    rwa [hs1] at this
  have hC : Arr ((((w.alloc (.cells #[.string a, .int .i64 o, .slice ad l.length ca] 25)).alloc (.cells #[.string a, .int .i64 o, .slice ad l.length ca, .int .i64 most, .slice none 0 0, .string { data := #[] }] 57)).alloc (.cells #[.int .i64 0] 58)).alloc (.cells #[.func (.func 34) #[] #[], .func (.func 35) #[] #[], .func (.func 36) #[] #[], .func (.func 35) #[] #[], .func (.func 37) #[] #[], .func (.func 35) #[] #[], .func (.func 38) #[] #[], .func (.func 39) #[] #[], .func (.func 40) #[] #[], .func (.func 39) #[] #[]] 66)) (w.heap.size + 1 + 1) 58 [.int .i64 0] := by
    have := (Arr.new ((w.alloc (.cells #[.string a, .int .i64 o, .slice ad l.length ca] 25)).alloc (.cells #[.string a, .int .i64 o, .slice ad l.length ca, .int .i64 most, .slice none 0 0, .string { data := #[] }] 57)) 58 [.int .i64 0]).alloc (.cells #[.func (.func 34) #[] #[], .func (.func 35) #[] #[], .func (.func 36) #[] #[], .func (.func 35) #[] #[], .func (.func 37) #[] #[], .func (.func 35) #[] #[], .func (.func 38) #[] #[], .func (.func 39) #[] #[], .func (.func 40) #[] #[], .func (.func 39) #[] #[]] 66)
    rwa [show ((w.alloc (.cells #[.string a, .int .i64 o, .slice ad l.length ca] 25)).alloc (.cells #[.string a, .int .i64 o, .slice ad l.length ca, .int .i64 most, .slice none 0 0, .string { data := #[] }] 57)).heap.size = w.heap.size + 1 + 1 by simp] at this
  have hF : Arr ((((w.alloc (.cells #[.string a, .int .i64 o, .slice ad l.length ca] 25)).alloc (.cells #[.string a, .int .i64 o, .slice ad l.length ca, .int .i64 most, .slice none 0 0, .string { data := #[] }] 57)).alloc (.cells #[.int .i64 0] 58)).alloc (.cells #[.func (.func 34) #[] #[], .func (.func 35) #[] #[], .func (.func 36) #[] #[], .func (.func 35) #[] #[], .func (.func 37) #[] #[], .func (.func 35) #[] #[], .func (.func 38) #[] #[], .func (.func 39) #[] #[], .func (.func 40) #[] #[], .func (.func 39) #[] #[]] 66)) (w.heap.size + 1 + 1 + 1) 66 [.func (.func 34) #[] #[], .func (.func 35) #[] #[], .func (.func 36) #[] #[], .func (.func 35) #[] #[], .func (.func 37) #[] #[], .func (.func 35) #[] #[], .func (.func 38) #[] #[], .func (.func 39) #[] #[], .func (.func 40) #[] #[], .func (.func 39) #[] #[]] := by
    have := Arr.new (((w.alloc (.cells #[.string a, .int .i64 o, .slice ad l.length ca] 25)).alloc (.cells #[.string a, .int .i64 o, .slice ad l.length ca, .int .i64 most, .slice none 0 0, .string { data := #[] }] 57)).alloc (.cells #[.int .i64 0] 58)) 66 [.func (.func 34) #[] #[], .func (.func 35) #[] #[], .func (.func 36) #[] #[], .func (.func 35) #[] #[], .func (.func 37) #[] #[], .func (.func 35) #[] #[], .func (.func 38) #[] #[], .func (.func 39) #[] #[], .func (.func 40) #[] #[], .func (.func 39) #[] #[]]
    rwa [show (((w.alloc (.cells #[.string a, .int .i64 o, .slice ad l.length ca] 25)).alloc (.cells #[.string a, .int .i64 o, .slice ad l.length ca, .int .i64 most, .slice none 0 0, .string { data := #[] }] 57)).alloc (.cells #[.int .i64 0] 58)).heap.size = w.heap.size + 1 + 1 + 1 by simp] at this
  generalize ((((w.alloc (.cells #[.string a, .int .i64 o, .slice ad l.length ca] 25)).alloc (.cells #[.string a, .int .i64 o, .slice ad l.length ca, .int .i64 most, .slice none 0 0, .string { data := #[] }] 57)).alloc (.cells #[.int .i64 0] 58)).alloc (.cells #[.func (.func 34) #[] #[], .func (.func 35) #[] #[], .func (.func 36) #[] #[], .func (.func 35) #[] #[], .func (.func 37) #[] #[], .func (.func 35) #[] #[], .func (.func 38) #[] #[], .func (.func 39) #[] #[], .func (.func 40) #[] #[], .func (.func 39) #[] #[]] 66)) = wc at *
  have hcell : ∀ k, k < 5 → wc.cell? ⟨w.heap.size + 1 + 1 + 1, k * 2, none⟩ = some (Value.func (.func (stF k)) #[] #[]) ∧ wc.cell? ⟨w.heap.size + 1 + 1 + 1, k * 2 + 1, none⟩ = some (Value.func (.func (stY k)) #[] #[]) := fun k hk => by
    match k, hk with
    | 0, _ => exact ⟨hF.cell (i := 0) rfl, hF.cell (i := 1) rfl⟩
    | 1, _ => exact ⟨hF.cell (i := 2) rfl, hF.cell (i := 3) rfl⟩
    | 2, _ => exact ⟨hF.cell (i := 4) rfl, hF.cell (i := 5) rfl⟩
    | 3, _ => exact ⟨hF.cell (i := 6) rfl, hF.cell (i := 7) rfl⟩
    | 4, _ => exact ⟨hF.cell (i := 8) rfl, hF.cell (i := 9) rfl⟩
  have hAl := hA.lt
  refine (way_any (w.heap.size + 1) (w.heap.size + 1 + 1 + 1) wc stF stY (stD a o l most) (stE a o l most) (stS w (w.heap.size + 1) a o (.slice ad l.length ca) l most) hcell (by omega) hAl stF_enters stY_enters (HST.out wc (w.heap.size + 1) hB (by omega)) (why_any a o l most) (fun k W W' h hb => stS_keep w _ a o _ l most k W W' h hb) ⟨_, _, hA, by omega, by omega, by omega, by omega⟩).mono ?_
  rintro e w1 ⟨hg, hpost⟩
  have hB1 : Below w.heap.size w w1 := hB.grown hg hB.size (fun q e => by injection e with e; omega)
  have hc1 : w1.cell? ⟨w.heap.size + 1 + 1, 0, none⟩ = some (.int .i64 0) := hg.cell (hC.cell (i := 0) rfl) (by simp)
  have hf1 : w1.frozen? ⟨w.heap.size + 1 + 1, 0, none⟩ = false := by rw [World.frozen?_of_block (hg.block _ hC.lt (by simp))]; exact hC.free 0
  have hE1 : ErrVar w1 := hE.below hB1
  clear hs1 hB hA hC hF hcell hAl hg
  rcases hpost with ⟨k, hk, hne, hj, rfl⟩ | ⟨hj, hS, rfl⟩
  · have HR := hid (rest_no hk hne hj)
    obtain ⟨x, hx⟩ : ∃ x, x = stE a o l most k := ⟨_, rfl⟩
    rw [← hx] at HR ⊢
    clear hne hj hx
    have HA := hid (asOf_any k x ⟨w.heap.size + 1 + 1, 0, none⟩ (.int .i64 0) w1 hE1 hc1 hf1)
    clear hc1 hf1
    go_wp2_with fail
    refine HA.out.mono ?_
    rintro e w2 ⟨rfl, hg2, hc2⟩
    have hB2 : Below w.heap.size w w2 := hB1.grown hg2 hB1.size (fun q e => by injection e with e; omega)
    go_wp2_with fail
    go_quiet (fail)
    go_wp2_with fail
    go_ret2
    rw [HR.out]
    exact ⟨rfl, bDrewN hB2 _⟩
  · have HR := hid (rest_yes hj)
    obtain ⟨lv, b, harr, _, _, _, hb5⟩ := hS
    obtain rfl := hb5 rfl
    have d5 := harr.cell (i := 5) rfl
    clear hj hb5
    go_wp2_with (go_at_call 41; refine (as_nil _ _).mono ?_; rintro e w2 ⟨rfl, rfl⟩)
    go_ret2
    rw [HR.out]
    exact ⟨rfl, hB1⟩

end Go.Proofs.YthjmpiekjfnoiaaGreatDoor

/-
  Plain mathematics: two lists of the same places, both in order, stand alike; turned texts; texts several times over; the first turn.
-/
namespace Go.Proofs.YthjmpiekjfnoiaaGreatDoor

theorem weak_same {N : Nat} {lt : Nat → Nat → Prop} (hir : ∀ x, ¬ lt x x) (htr : ∀ x y z, lt x z → lt x y ∨ lt y z) {a b : Nat → Nat}
    (ainj : ∀ i j, i < N → j < N → a i = a j → i = j) (bonto : ∀ i, i < N → ∃ j, j < N ∧ b j = a i)
    (asd : ∀ i j, i < j → j < N → ¬ lt (a j) (a i)) (bs : ∀ i j, i < j → j < N → ¬ lt (b j) (b i)) : ∀ i, i < N → ¬ lt (a i) (b i) := by
  intro i hi h
  have key : ∀ k, k ≤ i → ∃ j, j < i ∧ b j = a k := by
    intro k hk
    obtain ⟨j, hj, e⟩ := bonto k (by omega)
    refine ⟨j, ?_, e⟩
    have h1 : lt (a k) (b i) := by
      rcases htr (a i) (a k) (b i) h with p | p
      · exfalso
        rcases Nat.lt_or_ge k i with q | q
        · exact asd k i q hi p
        · have : k = i := by omega
          subst this; exact hir _ p
      · exact p
    rw [← e] at h1
    rcases Nat.lt_trichotomy j i with p | p | p
    · exact p
    · subst p; exact absurd h1 (hir _)
    · exact absurd h1 (bs i j p hj)
  obtain ⟨f, hf⟩ : ∃ f : Nat → Nat, ∀ k, k ≤ i → f k < i ∧ b (f k) = a k := by
    refine ⟨fun k => if h : k ≤ i then Classical.choose (key k h) else 0, fun k hk => ?_⟩
    have := Classical.choose_spec (key k hk)
    simp only [dif_pos hk]
    exact this
  obtain ⟨x, y, h1, h2, h3⟩ := php i f (fun k hk => (hf k hk).1)
  have e1 := (hf x (by omega)).2
  have e2 := (hf y h2).2
  rw [h3, e2] at e1
  have := ainj y x (by omega) (by omega) e1
  omega

theorem ltm_neg {c : Nat → Nat} {m : Nat} (x y z : Nat) (h : ltm c m x z) : ltm c m x y ∨ ltm c m y z := by
  rcases ltm_or c x y m with p | p | p
  · exact .inl p
  · exact .inr (p.symm.ltm h)
  · exact .inr (p.trans h)

/-- Both in order by their turns: at each place alike turns. -/
theorem weak_eqm {c : Nat → Nat} {m N : Nat} {a b : Nat → Nat} (ainj : ∀ i j, i < N → j < N → a i = a j → i = j) (binj : ∀ i j, i < N → j < N → b i = b j → i = j)
    (aonto : ∀ i, i < N → ∃ j, j < N ∧ a j = b i) (bonto : ∀ i, i < N → ∃ j, j < N ∧ b j = a i)
    (asd : ∀ i j, i < j → j < N → ¬ ltm c m (a j) (a i)) (bs : ∀ i j, i < j → j < N → ¬ ltm c m (b j) (b i)) : ∀ i, i < N → eqm c m (a i) (b i) := by
  intro i hi
  have h1 := weak_same (lt := ltm c m) (fun _ => ltm.irrefl) ltm_neg ainj bonto asd bs i hi
  have h2 := weak_same (lt := ltm c m) (fun _ => ltm.irrefl) ltm_neg binj aonto bs asd i hi
  rcases ltm_or c (a i) (b i) m with p | p | p
  · exact absurd p h1
  · exact p
  · exact absurd p h2

theorem Ord.weak {c : Nat → Nat} {n m : Nat} {o : Nat → Int} (h : Ord c n m o) {i j : Nat} (hij : i < j) (hj : j < n) : ¬ ltm c m (o j).toNat (o i).toNat := by
  intro k
  rcases h.srt i j (Nat.zero_le _) hij hj with p | ⟨p, _⟩
  · exact p.asymm k
  · exact k.not_eqm p.symm
theorem Ord.nat {c : Nat → Nat} {n m : Nat} {o : Nat → Int} (h : Ord c n m o) {i : Nat} (hi : i < n) : o i = (((o i).toNat : Nat) : Int) ∧ (o i).toNat < n := by
  have := h.rng i hi; omega
theorem Ord.inj {c : Nat → Nat} {n m : Nat} {o : Nat → Int} (h : Ord c n m o) {i j : Nat} (hi : i < n) (hj : j < n) (e : (o i).toNat = (o j).toNat) : i = j := by
  apply Classical.byContradiction
  intro hne
  have h1 := (h.nat hi).1
  have h2 := (h.nat hj).1
  exact h.ne hi hj hne (by rw [h1, h2, e])

/-! ### Turned texts. -/
theorem rot_size (s : ByteArray) {k : Nat} (hk : k ≤ s.size) : (mkS (rot s k)).size = s.size := by rw [mkS_size, rot_length s k hk]
theorem cycf_rot (s : ByteArray) {k : Nat} (hk : k < s.size) (i : Nat) : cycf (mkS (rot s k)) i = cycf s (k + i) := by
  have h := rot_get s k (i % s.size) hk (Nat.mod_lt _ (by omega))
  unfold cycf
  rw [rot_size s (by omega), mkS_toList, List.getD, h, Nat.add_mod_mod]; rfl
theorem eqm_shift {c d : Nat → Nat} {k m x y : Nat} (h : ∀ i, d i = c (k + i)) : eqm d m x y ↔ eqm c m (x + k) (y + k) := by
  unfold eqm
  simp only [h, show ∀ x t, k + (x + t) = x + k + t by intros; omega]
theorem ltm_shift {c d : Nat → Nat} {k m x y : Nat} (h : ∀ i, d i = c (k + i)) : ltm d m x y ↔ ltm c m (x + k) (y + k) := by
  unfold ltm
  simp only [h, show ∀ x t, k + (x + t) = x + k + t by intros; omega]

theorem add_mod_inj {n k x y : Nat} (hx : x < n) (hy : y < n) (h : (x + k) % n = (y + k) % n) : x = y := by
  have e : ∀ z, z < n → ((z + k) % n + (n - k % n)) % n = z := by
    intro z hz
    have hk := Nat.mod_lt k (show 0 < n by omega)
    rw [Nat.mod_add_mod, ← Nat.mod_add_mod]
    have e1 : z + k + (n - k % n) = z + n * (k / n + 1) := by
      have := Nat.mod_add_div k n
      rw [Nat.mul_add, Nat.mul_one]; omega
    rw [Nat.mod_add_mod, e1, Nat.add_mul_mod_self_left, Nat.mod_eq_of_lt hz]
  rw [← e x hx, ← e y hy, h]
theorem add_mod_onto {n k y : Nat} (hy : y < n) : ∃ x, x < n ∧ (x + k) % n = y := by
  refine ⟨(y + (n - k % n)) % n, Nat.mod_lt _ (by omega), ?_⟩
  have hk := Nat.mod_lt k (show 0 < n by omega)
  have e1 : y + (n - k % n) + k = y + n * (k / n + 1) := by
    have := Nat.mod_add_div k n
    rw [Nat.mul_add, Nat.mul_one]; omega
  rw [Nat.mod_add_mod, e1, Nat.add_mul_mod_self_left, Nat.mod_eq_of_lt hy]

theorem turned_same (s : ByteArray) {k : Nat} (hk : k < s.size) {o o' : Nat → Int} (h : Ord (cycf s) s.size s.size o) (h' : Ord (cycf (mkS (rot s k))) s.size s.size o') :
    ∀ i, i < s.size → eqm (cycf s) s.size (o i).toNat (((o' i).toNat + k) % s.size) := by
  have hc := cycf_cyc s
  refine weak_eqm (fun i j hi hj e => h.inj hi hj e) (fun i j hi hj e => h'.inj hi hj (add_mod_inj (h'.nat hi).2 (h'.nat hj).2 e)) ?_ ?_ (fun i j hij hj => h.weak hij hj) ?_
  · intro i hi
    obtain ⟨j, hj, e⟩ := h.onto (y := ((o' i).toNat + k) % s.size) (Nat.mod_lt _ (by omega))
    exact ⟨j, hj, by rw [e, Int.toNat_natCast]⟩
  · intro i hi
    obtain ⟨x, hx, e⟩ := add_mod_onto (k := k) (h.nat hi).2
    obtain ⟨j, hj, e'⟩ := h'.onto hx
    exact ⟨j, hj, by show ((o' j).toNat + k) % s.size = _; rw [e', Int.toNat_natCast, e]⟩
  · intro i j hij hj
    have := h'.weak hij hj
    rw [ltm_shift (cycf_rot s hk)] at this
    rw [hc.ltm]; exact this

theorem lastTo_byte (s : ByteArray) (o : Nat → Int) (n : Nat) {i : Nat} (hi : i < n) : ∃ b, (lastTo s o n)[i]? = some b ∧ b.toNat = cycf s ((o i).toNat + (s.size - 1)) := by
  refine ⟨s.data.toList.getD (((o i).toNat + (s.size - 1)) % s.size) 0, ?_, rfl⟩
  unfold lastTo
  rw [List.getElem?_map, List.getElem?_range hi]; rfl
theorem last_ext {x y : List UInt8} (hl : x.length = y.length) (h : ∀ i, i < x.length → ∃ a b, x[i]? = some a ∧ y[i]? = some b ∧ a.toNat = b.toNat) : x = y := by
  apply List.ext_getElem?
  intro i
  by_cases hi : i < x.length
  · obtain ⟨a, b, h1, h2, h3⟩ := h i hi
    rw [h1, h2, UInt8.toNat_inj.1 h3]
  · rw [List.getElem?_eq_none (by omega), List.getElem?_eq_none (by omega)]

theorem turned_last (s : ByteArray) {k : Nat} (hk : k < s.size) {o o' : Nat → Int} (h : Ord (cycf s) s.size s.size o) (h' : Ord (cycf (mkS (rot s k))) s.size s.size o') :
    lastTo s o s.size = lastTo (mkS (rot s k)) o' s.size := by
  refine last_ext (by rw [lastTo_length, lastTo_length]) (fun i hi => ?_)
  rw [lastTo_length] at hi
  obtain ⟨a, h1, e1⟩ := lastTo_byte s o s.size hi
  obtain ⟨b, h2, e2⟩ := lastTo_byte (mkS (rot s k)) o' s.size hi
  refine ⟨a, b, h1, h2, ?_⟩
  have hq := turned_same s hk h h' i hi (s.size - 1) (by omega)
  rw [e1, e2, hq, (cycf_cyc s).mod_add, cycf_rot s hk, rot_size s (by omega)]
  congr 1; omega

/-! ### Texts several times over. -/
theorem bef_full {c : Nat → Nat} {n N : Nat} (hc : Cyc c n) (hn : 0 < n) (hN : n ≤ N) (x y : Nat) : (ltm c N x y ↔ ltm c n x y) ∧ (eqm c N x y ↔ eqm c n x y) := ⟨(hc.all hn hN).2, (hc.all hn hN).1⟩

theorem times_same {c : Nat → Nat} {n m : Nat} (hc : Cyc c n) (hn : 0 < n) (hm : 0 < m) {o o' : Nat → Int} (h : Ord c n n o) (h' : Ord c (m * n) (m * n) o') :
    ∀ i, i < m * n → eqm c n (o (i / m)).toNat (o' i).toNat := by
  have hdiv : ∀ {i}, i < m * n → i / m < n := fun {i} hi => Nat.div_lt_of_lt_mul hi
  have hN : n ≤ m * n := Nat.le_mul_of_pos_left n hm
  intro i hi
  have key := weak_eqm (c := c) (m := n) (N := m * n) (a := fun i => (o (i / m)).toNat + n * (i % m)) (b := fun i => (o' i).toNat) ?_ (fun i j hi hj e => h'.inj hi hj e) ?_ ?_ ?_ ?_ i hi
  · have e : eqm c n ((o (i / m)).toNat + n * (i % m)) (o (i / m)).toNat := by
      intro t _
      rw [show (o (i / m)).toNat + n * (i % m) + t = (o (i / m)).toNat + t + n * (i % m) by omega, hc.mul]
    exact e.symm.trans key
  · intro i j hi hj e
    have r1 := (h.nat (hdiv hi)).2
    have r2 := (h.nat (hdiv hj)).2
    have e1 : (o (i / m)).toNat = (o (j / m)).toNat := by
      have := congrArg (· % n) e
      simp only [Nat.add_mul_mod_self_left] at this
      rwa [Nat.mod_eq_of_lt r1, Nat.mod_eq_of_lt r2] at this
    have e2 : i % m = j % m := by
      rw [e1] at e
      exact Nat.eq_of_mul_eq_mul_left hn (Nat.add_left_cancel e)
    have e3 := h.inj (hdiv hi) (hdiv hj) e1
    rw [← Nat.div_add_mod i m, ← Nat.div_add_mod j m, e2, e3]
  · intro i hi
    have r := (h'.nat hi).2
    obtain ⟨j, hj, e⟩ := h.onto (y := (o' i).toNat % n) (Nat.mod_lt _ hn)
    have hq : (o' i).toNat / n < m := Nat.div_lt_of_lt_mul (by rw [Nat.mul_comm]; exact r)
    refine ⟨m * j + (o' i).toNat / n, ?_, ?_⟩
    · have : m * (j + 1) ≤ m * n := Nat.mul_le_mul_left m (by omega)
      rw [Nat.mul_add, Nat.mul_one] at this; omega
    · rw [Nat.mul_add_div hm, Nat.div_eq_of_lt hq, Nat.add_zero, e, Int.toNat_natCast, Nat.mul_add_mod, Nat.mod_eq_of_lt hq, Nat.mod_add_div]
  · intro i hi
    have r1 := (h.nat (hdiv hi)).2
    have hlt : (o (i / m)).toNat + n * (i % m) < m * n := by
      have hm' := Nat.mod_lt i hm
      have : n * (i % m + 1) ≤ n * m := Nat.mul_le_mul_left n (by omega)
      rw [Nat.mul_add, Nat.mul_one] at this
      rw [Nat.mul_comm m n]; omega
    obtain ⟨j, hj, e⟩ := h'.onto hlt
    exact ⟨j, hj, by rw [e, Int.toNat_natCast]⟩
  · intro i j hij hj
    have red : ∀ x q, eqm c n (x + n * q) x := fun x q t _ => by
      rw [show x + n * q + t = x + t + n * q by omega, hc.mul]
    intro hl
    have hl' := ((red _ _).symm.ltm hl).eqm (red _ _)
    have hle : i / m ≤ j / m := Nat.div_le_div_right (Nat.le_of_lt hij)
    rcases Nat.lt_or_ge (i / m) (j / m) with p | p
    · exact h.weak p (hdiv hj) hl'
    · rw [show i / m = j / m by omega] at hl'
      exact ltm.irrefl hl'
  · intro i j hij hj
    have := h'.weak hij hj
    rwa [(bef_full hc hn hN _ _).1] at this

theorem times_orig {c : Nat → Nat} {n m : Nat} (hc : Cyc c n) (hn : 0 < n) (hm : 0 < m) {o o' : Nat → Int} (h : Ord c n n o) (h' : Ord c (m * n) (m * n) o') {p q : Nat} (hp : p < n) (hop : o p = 0) (hq : q < m * n) (hoq : o' q = 0) : q = m * p := by
  have hN : n ≤ m * n := Nat.le_mul_of_pos_left n hm
  have hmp : m * p < m * n := Nat.mul_lt_mul_of_pos_left hp hm
  have e1 := times_same hc hn hm h h' (m * p) hmp
  rw [Nat.mul_div_cancel_left p hm, hop] at e1
  have e2 := times_same hc hn hm h h' q hq
  rw [hoq] at e2
  have r := h'.rng (m * p) hmp
  rcases Nat.lt_trichotomy q (m * p) with t | t | t
  · exfalso
    have hqd : q / m < p := Nat.div_lt_of_lt_mul t
    have r2 := h.rng (q / m) (by omega)
    rcases h.srt (q / m) p (Nat.zero_le _) hqd hp with u | ⟨_, u⟩
    · rw [hop] at u; exact u.not_eqm e2
    · rw [hop] at u; omega
  · exact t
  · exfalso
    rcases h'.srt (m * p) q (Nat.zero_le _) t hq with u | ⟨_, u⟩
    · rw [hoq, (bef_full hc hn hN _ _).1] at u
      exact u.not_eqm e1.symm
    · rw [hoq] at u; omega

/-! ### The first turn and the last one. -/
theorem first_least {c : Nat → Nat} {n : Nat} {o : Nat → Int} (h : Ord c n n o) {i j : Nat} (hij : i ≤ j) (hj : j < n) : c (o i).toNat ≤ c (o j).toNat := by
  rcases Nat.lt_or_ge i j with p | p
  · rcases Nat.lt_or_ge (c (o j).toNat) (c (o i).toNat) with q | q
    · exact absurd ⟨0, by omega, fun u hu => by omega, q⟩ (h.weak p hj)
    · exact q
  · have : i = j := by omega
    rw [this]; exact Nat.le_refl _
theorem first_one {c : Nat → Nat} {n : Nat} {o : Nat → Int} (h : Ord c n n o) {k : Nat} (hk : k < n) (hlt : ∀ j, j < n → j ≠ k → c k < c j) : o 0 = (k : Int) := by
  obtain ⟨j, hj, e⟩ := h.onto hk
  have h1 := first_least h (Nat.zero_le j) hj
  rw [e, Int.toNat_natCast] at h1
  have h2 := h.nat (i := 0) (by omega)
  apply Classical.byContradiction
  intro hne
  have := hlt (o 0).toNat h2.2 (fun e' => hne (by rw [h2.1, e']))
  omega

end Go.Proofs.YthjmpiekjfnoiaaGreatDoor

/-
  What the statements of chapter 15 share: a text's squeezed form as values; raw numbers; texts of runs.
-/
namespace Go.Proofs.YthjmpiekjfnoiaaGreatDoor
open Go.RowKit Go.Shelf

/-- The order of a text's turns, by name. -/
noncomputable def oOf (s : ByteArray) : Nat → Int := Classical.epsilon (fun o => Ord (cycf s) s.size s.size o)
def OrdS (s : ByteArray) : Prop := Ord (cycf s) s.size s.size (oOf s)
theorem ordS_of {s : ByteArray} {o : Nat → Int} (h : Ord (cycf s) s.size s.size o) : OrdS s := Classical.epsilon_spec (p := fun o => Ord (cycf s) s.size s.size o) ⟨o, h⟩

noncomputable def lastS (s : ByteArray) : List UInt8 := lastTo s (oOf s) s.size
noncomputable def sqA (s : ByteArray) : ByteArray := if s.size = 0 then emptyS else mkS (alph s.data.toList)
noncomputable def sqO (s : ByteArray) : Int := if s.size = 0 then 0 else ((origTo (oOf s) s.size : Nat) : Int)
noncomputable def sqS (s : ByteArray) : List Int := if s.size = 0 then [] else symL s (oOf s)
def sqE (s : ByteArray) : Int := if s.size = 0 then 1 else 0

theorem symL_of {s : ByteArray} {o : Nat → Int} (h : Ord (cycf s) s.size s.size o) : symL s o = symL s (oOf s) ∧ origTo o s.size = origTo (oOf s) s.size := by
  have hu := h.uniq (ordS_of h)
  unfold symL
  exact ⟨by rw [lastTo_congr hu], origTo_congr hu⟩
theorem size_zero {s : ByteArray} (h : s.size = 0) : s = emptyS := by
  rw [← mkS_of s, List.length_eq_zero_iff.1 (show s.data.toList.length = 0 by simpa using h)]; rfl

theorem sq_any (s : ByteArray) (w : World) (hs : s.size ≤ 65536) :
    Calls Tryz.prog 11 #[.string s] w fun e w' => ∃ v, e = .returned (.tuple #[.agg #[.string (sqA s), .int .i64 (sqO s), v], .int .i64 (sqE s)]) ∧ RdI w' v (sqS s) ∧ Below w.heap.size w w' ∧ (0 < s.size → OrdS s) := by
  rcases Nat.eq_zero_or_pos s.size with h0 | h0
  · have e1 : sqA s = emptyS := if_pos h0
    have e2 : sqO s = 0 := if_pos h0
    have e3 : sqS s = [] := if_pos h0
    have e4 : sqE s = 1 := if_pos h0
    rw [e1, e2, e3, e4]
    have := size_zero h0
    subst this
    refine (squeeze_nil w).mono ?_
    rintro e w' ⟨rfl, hb⟩
    exact ⟨_, rfl, ⟨none, 0, rfl, Nat.le_refl _, by simp [maxLen], .inl rfl⟩, hb, fun h => absurd h (by omega)⟩
  · have hn : ¬ s.size = 0 := by omega
    refine (squeeze_any s w h0 hs).mono ?_
    rintro e w' ⟨o, v, hO, rfl, hown, hb⟩
    obtain ⟨q1, q2⟩ := symL_of hO
    have e1 : sqA s = mkS (alph s.data.toList) := if_neg hn
    have e2 : sqO s = ((origTo (oOf s) s.size : Nat) : Int) := if_neg hn
    have e3 : sqS s = symL s (oOf s) := if_neg hn
    have e4 : sqE s = 0 := if_neg hn
    rw [e1, e2, e3, e4, ← q1, ← q2]
    exact ⟨v, rfl, hown.rd, hb, fun _ => ordS_of hO⟩
theorem refSq_any (s : ByteArray) (w : World) (hs : s.size ≤ 65536) :
    Calls Tryz.prog 12 #[.string s] w fun e w' => ∃ v, e = .returned (.tuple #[.agg #[.string (sqA s), .int .i64 (sqO s), v], .int .i64 (sqE s)]) ∧ RdI w' v (sqS s) ∧ Below w.heap.size w w' ∧ (0 < s.size → OrdS s) := by
  rcases Nat.eq_zero_or_pos s.size with h0 | h0
  · have e1 : sqA s = emptyS := if_pos h0
    have e2 : sqO s = 0 := if_pos h0
    have e3 : sqS s = [] := if_pos h0
    have e4 : sqE s = 1 := if_pos h0
    rw [e1, e2, e3, e4]
    have := size_zero h0
    subst this
    refine (refSqueeze_nil w).mono ?_
    rintro e w' ⟨rfl, hb⟩
    exact ⟨_, rfl, ⟨none, 0, rfl, Nat.le_refl _, by simp [maxLen], .inl rfl⟩, hb, fun h => absurd h (by omega)⟩
  · have hn : ¬ s.size = 0 := by omega
    refine (refSqueeze_any s w h0 hs).mono ?_
    rintro e w' ⟨o, v, hO, rfl, hown, hb⟩
    obtain ⟨q1, q2⟩ := symL_of hO
    have e1 : sqA s = mkS (alph s.data.toList) := if_neg hn
    have e2 : sqO s = ((origTo (oOf s) s.size : Nat) : Int) := if_neg hn
    have e3 : sqS s = symL s (oOf s) := if_neg hn
    have e4 : sqE s = 0 := if_neg hn
    rw [e1, e2, e3, e4, ← q1, ← q2]
    exact ⟨v, rfl, hown.rd, hb, fun _ => ordS_of hO⟩

/-! ### Bounds. -/
theorem lastS_length (s : ByteArray) : (lastS s).length = s.size := by unfold lastS lastTo; simp
theorem lastS_perm {s : ByteArray} (h : OrdS s) : (lastS s).Perm s.data.toList := lastTo_perm s h
theorem symL_mtf (s : ByteArray) : symL s (oOf s) = zenc 0 (mtfL (alph s.data.toList) (lastS s)) ++ [((alph s.data.toList).length : Int) + 1] := rfl
theorem lastS_alph {s : ByteArray} (h : OrdS s) : ∀ b ∈ lastS s, b ∈ alph s.data.toList := fun _b hb => (mem_alph _ _).2 ((lastS_perm h).mem_iff.1 hb)
theorem mtfS_range {s : ByteArray} (h : OrdS s) : ∀ x ∈ mtfL (alph s.data.toList) (lastS s), 0 ≤ x ∧ x < ((alph s.data.toList).length : Int) := mtfL_range _ _ (lastS_alph h)
theorem sqS_len (s : ByteArray) : (sqS s).length ≤ s.size + 1 ∧ (0 < s.size → 2 ≤ (sqS s).length) := by
  unfold sqS
  by_cases h0 : s.size = 0
  · rw [if_pos h0]; exact ⟨by simp, fun h => by omega⟩
  · rw [if_neg h0, symL_mtf, List.length_append]
    have := zenc_length (mtfL (alph s.data.toList) (lastS s)) 0
    rw [mtfL_length, lastS_length] at this
    simp
    omega

/-! ### Raw numbers. -/
set_option maxHeartbeats 400000 in
theorem pick15_any (c n : Int) (w : World) (h1 : -9223372036854775808 ≤ c) (h2 : c ≤ 9223372036854775807) (h3 : 1 ≤ n) (h4 : n ≤ 1000000000) :
    Calls Tryz.prog 17 #[.int .i64 c, .int .i64 n] w fun e w' => e = .returned (.int .i64 (Pick c n)) ∧ w = w' := by
  by_cases hc : c < 0
  · have hfin := hid (show Pick c n = (-(c + 1)) % n from by simp [Pick, hc])
    go_enter Tryz.func17, Tryz.ntmps17
    go_wp2
    go_ret
    exact ⟨ret_int (by rw [hfin.out]; rw [← Int.neg_tmod, Int.tmod_eq_emod_of_nonneg (by omega)]), rfl⟩
  · have hfin := hid (show Pick c n = c % n from by simp [Pick, hc])
    have hc' : 0 ≤ c := by omega
    go_enter Tryz.func17, Tryz.ntmps17
    go_wp2
    go_ret
    exact ⟨ret_int (by rw [hfin.out]), rfl⟩

set_option maxHeartbeats 400000 in
theorem pick04_any (c n : Int) (w : World) (h1 : -9223372036854775808 ≤ c) (h2 : c ≤ 9223372036854775807) (h3 : 1 ≤ n) (h4 : n ≤ 1000000000) :
    Calls Tryz.prog 23 #[.int .i64 c, .int .i64 n] w fun e w' => e = .returned (.int .i64 (Pick c n)) ∧ w = w' := by
  by_cases hc : c < 0
  · have hfin := hid (show Pick c n = (-(c + 1)) % n from by simp [Pick, hc])
    go_enter Tryz.func23, Tryz.ntmps23
    go_wp2
    go_ret
    exact ⟨ret_int (by rw [hfin.out]; rw [← Int.neg_tmod, Int.tmod_eq_emod_of_nonneg (by omega)]), rfl⟩
  · have hfin := hid (show Pick c n = c % n from by simp [Pick, hc])
    have hc' : 0 ≤ c := by omega
    go_enter Tryz.func23, Tryz.ntmps23
    go_wp2
    go_ret
    exact ⟨ret_int (by rw [hfin.out]), rfl⟩

/-- A slice of pairs of integers. -/
def RdP (w : World) (v : Value) (l : List (Int × Int)) : Prop :=
  ∃ a cap, v = .slice a l.length cap ∧ l.length ≤ cap ∧ cap ≤ maxLen ∧
    (0 < l.length → ∃ b off, a = some ⟨b, off, none⟩ ∧ b < w.heap.size ∧ ∀ j p, l[j]? = some p → w.cell? ⟨b, off + j * 2, none⟩ = some (.int .i64 p.1) ∧ w.cell? ⟨b, off + j * 2 + 1, none⟩ = some (.int .i64 p.2))
def WfP (l : List (Int × Int)) : Prop := ∀ p ∈ l, (-9223372036854775808 ≤ p.1 ∧ p.1 ≤ 9223372036854775807) ∧ (-9223372036854775808 ≤ p.2 ∧ p.2 ≤ 9223372036854775807)
theorem RdP.below {w w' : World} {v : Value} {l : List (Int × Int)} (h : RdP w v l) (hb : Below w.heap.size w w') : RdP w' v l := by
  obtain ⟨a, cap, rfl, h1, h2, h3⟩ := h
  refine ⟨a, cap, rfl, h1, h2, fun h => ?_⟩
  obtain ⟨b, off, rfl, hlt, hc⟩ := h3 h
  exact ⟨b, off, rfl, Nat.lt_of_lt_of_le hlt hb.size, fun j p hp => by rw [(bcell hb).1 _ _ hlt, (bcell hb).1 _ _ hlt]; exact hc j p hp⟩

theorem conv_one (b : UInt8) (W : World) : (convert 49 9 (.slice (some ⟨W.heap.size, 0, none⟩) 1 1)).run Tryz.prog (W.alloc (.cells #[.int .u8 (b.toNat : Int)] 5)) = .ok (.string (mkS [b])) (W.alloc (.cells #[.int .u8 (b.toNat : Int)] 5)) :=
  conv_bytes (l := [b]) ((Arr.new W 5 [.int .u8 (b.toNat : Int)]).rdB (l := [b]) rfl (by decide))

set_option maxRecDepth 100000 in
set_option maxHeartbeats 800000 in
theorem runs_any (v : Value) (raw : List (Int × Int)) (most : Int) (w : World) (hr : RdP w v raw) (hwf : WfP raw) (hm1 : 0 ≤ most) (hm2 : most ≤ 1000) :
    Calls Tryz.prog 10 #[v, .int .i64 most] w fun e w' => ∃ s : ByteArray, e = .returned (.string s) ∧ (s.size : Int) ≤ most ∧ Below w.heap.size w w' := by
  obtain ⟨a, ca, rfl, hca, hma, hA⟩ := hr
  unfold maxLen at hma
  go_enter Tryz.func10, Tryz.ntmps10
  go_wp2
  go_loopg [5, 6, 7, 8] raw.length (fun g out i _c _k wr => ∃ (k : Nat) (s : ByteArray), k ≤ raw.length ∧ g = raw.length - k ∧ i = .int .i64 k ∧ out = .string s ∧ (s.size : Int) ≤ most ∧ Below w.heap.size w wr)
  case atStart => exact ⟨0, _, Nat.zero_le _, rfl, rfl, rfl, hm1, Below.refl _ _⟩
  case round =>
    obtain ⟨k, s, hk, hg, rfl, rfl, hsm, hbel⟩ := hrel
    have HG := hid hg
    clear hg
    have hsk1 : s.size ≤ 1000 := by omega
    by_cases hlt : k < raw.length
    · by_cases hlm : (s.size : Int) < most
      · obtain ⟨b1, o1, rfl, hb1, hc1⟩ := hA (by omega)
        obtain ⟨p, hp⟩ : ∃ p, raw[k]? = some p := ⟨_, List.getElem?_eq_getElem hlt⟩
        obtain ⟨⟨hx1, hx2⟩, hy1, hy2⟩ := hwf p (List.mem_of_getElem? hp)
        obtain ⟨hcx, hcy⟩ := hc1 k p hp
        obtain ⟨x, y⟩ := p
        have hn := hbel.size
        have c1 : ∀ o, (wr.alloc o).cell? ⟨b1, o1 + k * 2, none⟩ = some (.int .i64 x) := fun o => by
          rw [World.cell?_alloc_past _ _ _ (by show b1 < wr.heap.size; omega), hbel.cell (p := ⟨b1, o1 + k * 2, none⟩) hb1]; exact hcx
        have hd : decide ((s.size : Int) < most) = true := by simpa using hlm
        obtain ⟨hp1, hp2⟩ := Pick_bd x 6 (by decide)
        obtain ⟨q, hq⟩ := Int.eq_ofNat_of_zero_le hp1
        have hq6 : q < 6 := by omega
        have HQ := hid hq
        have HP := hid hp
        have HCY := hid hcy
        clear hA hc1 hp hcx hcy hq hp1 hp2
        have hq7 : q = 0 ∨ q = 1 ∨ q = 2 ∨ q = 3 ∨ q = 4 ∨ q = 5 := by omega
        go_upto_region 5 with fail
        go_cut [7] (fun c7 wx => (∃ b : UInt8, c7 = .int .u8 (b.toNat : Int)) ∧ Below w.heap.size w wx)
        case first =>
          rcases hq7 with rfl | rfl | rfl | rfl | rfl | rfl
          all_goals
            go_wp2_with (go_at_call 23; refine (pick04_any _ _ _ ?_ ?_ ?_ ?_).mono ?_; omega; omega; decide; decide; rintro e w' ⟨rfl, rfl⟩; rw [HQ.out])
            go_meet
          · exact ⟨⟨0, rfl⟩, hbel.alloc (by omega) _⟩
          · exact ⟨⟨1, rfl⟩, hbel.alloc (by omega) _⟩
          · exact ⟨⟨4, rfl⟩, hbel.alloc (by omega) _⟩
          · exact ⟨⟨97, rfl⟩, hbel.alloc (by omega) _⟩
          · exact ⟨⟨98, rfl⟩, hbel.alloc (by omega) _⟩
          · exact ⟨⟨255, rfl⟩, hbel.alloc (by omega) _⟩
        case rest =>
          obtain ⟨⟨b, rfl⟩, hbx⟩ := hcut
          clear c1 hq7 hq6 HQ hd hlm hsk1 hbel hn
          have HLT := hid hlt
          go_wp2
          obtain ⟨hp1, hp2⟩ := Pick_bd y 300 (by decide)
          go_loopg [8, 5] 300 (fun g s8 s5 wr => ∃ (j : Nat) (t : ByteArray), j ≤ 300 ∧ g = 300 - j ∧ s8 = .int .i64 j ∧ s5 = .string t ∧ (t.size : Int) ≤ most ∧ Below w.heap.size w wr)
          case atStart => exact ⟨0, s, by omega, rfl, rfl, rfl, hsm, hbx⟩
          case round =>
            obtain ⟨j, t, hj, hg2, rfl, rfl, ht, hbr⟩ := hrel
            have HG2 := hid hg2
            clear hg2
            have hlt := HLT.out
            have ht1 : t.size ≤ 1000 := by omega
            have cy := (hbr.cell (p := ⟨b1, o1 + k * 2 + 1, none⟩) hb1).trans HCY.out
            by_cases hjl : (j : Int) < 1 + Pick y 300
            · have hd2 : decide ((j : Int) < 1 + Pick y 300) = true := by simpa using hjl
              by_cases htl : (t.size : Int) < most
              · have hd3 : decide ((t.size : Int) < most) = true := by simpa using htl
                have hcv := conv_one b
                go_wp2_with (go_at_call 23; refine (pick04_any _ _ _ ?_ ?_ ?_ ?_).mono ?_; omega; omega; decide; decide; rintro e w' ⟨rfl, rfl⟩)
                have hg2 := HG2.out
                go_roundg (300 - (j + 1))
                case measure => omega
                case rel => exact ⟨j + 1, _, by omega, rfl, by go_num, rfl, by rw [ByteArray.size_append, mkS_size]; simp; omega, hbr.alloc (by have := hbr.size; omega) _⟩
              · have hd3 : decide ((t.size : Int) < most) = false := by simpa using htl
                go_wp2_with (go_at_call 23; refine (pick04_any _ _ _ ?_ ?_ ?_ ?_).mono ?_; omega; omega; decide; decide; rintro e w' ⟨rfl, rfl⟩)
                have hg := HG.out
                go_roundg (raw.length - (k + 1))
                case measure => omega
                case rel => exact ⟨k + 1, _, by omega, rfl, by go_num, rfl, ht, hbr⟩
            · have hd2 : decide ((j : Int) < 1 + Pick y 300) = false := by simpa using hjl
              go_wp2_with (go_at_call 23; refine (pick04_any _ _ _ ?_ ?_ ?_ ?_).mono ?_; omega; omega; decide; decide; rintro e w' ⟨rfl, rfl⟩)
              have hg := HG.out
              go_roundg (raw.length - (k + 1))
              case measure => omega
              case rel => exact ⟨k + 1, _, by omega, rfl, by go_num, rfl, ht, hbr⟩
      · have hd : decide ((s.size : Int) < most) = false := by simpa using hlm
        go_wp2
        go_ret
        exact ⟨s, rfl, hsm, hbel⟩
    · go_wp2
      go_ret
      exact ⟨s, rfl, hsm, hbel⟩

end Go.Proofs.YthjmpiekjfnoiaaGreatDoor

/-
  The first calls of chapter 15's statements, whose answers are fixed.
-/
namespace Go.Proofs.YthjmpiekjfnoiaaGreatDoor
open Go.RowKit Go.Shelf

theorem sq_aaaa : sqA ⟨#[97, 97, 97, 97]⟩ = ⟨#[97]⟩ ∧ sqO ⟨#[97, 97, 97, 97]⟩ = 0 ∧ sqS ⟨#[97, 97, 97, 97]⟩ = [1, 0, 2] ∧ sqE ⟨#[97, 97, 97, 97]⟩ = 0 := by
  have hs : ¬ (ByteArray.mk #[97, 97, 97, 97]).size = 0 := by decide
  have hO : Ord (cycf ⟨#[97, 97, 97, 97]⟩) (ByteArray.mk #[97, 97, 97, 97]).size (ByteArray.mk #[97, 97, 97, 97]).size (fun k => [0, 1, 2, 3].getD k 0) := ordB_ord (c := cycf ⟨#[97, 97, 97, 97]⟩) (l := [0, 1, 2, 3]) (by decide +kernel)
  obtain ⟨q1, q2⟩ := symL_of hO
  unfold sqA sqO sqS sqE
  rw [if_neg hs, if_neg hs, if_neg hs, if_neg hs, ← q1, ← q2]
  refine ⟨by decide +kernel, by decide +kernel, by decide +kernel, rfl⟩

theorem rest_a (most : Int) (h : 4 ≤ most) : rest ⟨#[97]⟩ 0 [1, 0, 2] most = (⟨#[97, 97, 97, 97]⟩, 0) := by
  rw [rest_ok (by decide +kernel) ⟨by decide, by decide +kernel, by decide +kernel⟩ (by rw [show (zexL [1, 0, 2]).length = 4 by decide +kernel]; omega) (by rw [show (zexL [1, 0, 2]).length = 4 by decide +kernel]; decide)]
  exact congrArg (fun s => (s, (0 : Int))) (by decide +kernel)
theorem rest_a3 : rest ⟨#[97]⟩ 0 [1, 0, 2] 3 = (emptyS, 4) :=
  rest_long (by decide +kernel) ⟨by decide, by decide +kernel, by decide +kernel⟩ (by decide +kernel)
theorem rest_none : rest emptyS 0 [] 9 = (emptyS, 1) := rest_arg (by decide)
theorem rest_two : rest ⟨#[97]⟩ 0 [2] 9 = (emptyS, 3) :=
  rest_orig (by decide +kernel) ⟨by decide, by decide +kernel, by decide +kernel⟩ (by decide +kernel) (by decide +kernel)

set_option maxRecDepth 100000 in
set_option maxHeartbeats 800000 in
theorem awake15_any (w : World) (hE : ErrVar w) : Calls Tryz.prog 9 #[] w fun e w' => e = .returned (.bool true) ∧ Below w.heap.size w w' := by
  obtain ⟨s1, s2, s3, s4⟩ := sq_aaaa
  have HS := hid (sq_any ⟨#[97, 97, 97, 97]⟩ w (by decide))
  rw [s1, s2, s3, s4] at HS
  clear s1 s2 s3 s4
  go_enter Tryz.func9, Tryz.ntmps9
  go_wp2_with fail
  refine HS.out.mono ?_
  rintro e w1 ⟨v, rfl, hr1, h1, _⟩
  obtain ⟨a1, c1, rfl, _, _, _⟩ := hr1.open
  have hE1 := hE.below h1
  go_wp2_with fail
  have har := Arr.new w1 25 [.string ⟨#[97]⟩, .int .i64 0, .slice a1 3 c1]
  have hr2 : RdI (w1.alloc (.cells #[.string ⟨#[97]⟩, .int .i64 0, .slice a1 3 c1] 25)) (.slice a1 3 c1) [1, 0, 2] := hr1.below ((Below.refl _ _).alloc (Nat.le_refl _) _)
  have hE2 := hE1.below ((Below.refl _ _).alloc (Nat.le_refl _) (.cells #[.string ⟨#[97]⟩, .int .i64 0, .slice a1 3 c1] 25))
  have hb2 := belA h1 (.cells #[.string ⟨#[97]⟩, .int .i64 0, .slice a1 3 c1] 25)
  change Arr (w1.alloc (.cells #[.string ⟨#[97]⟩, .int .i64 0, .slice a1 3 c1] 25)) _ _ _ at har
  generalize w1.alloc (.cells #[.string ⟨#[97]⟩, .int .i64 0, .slice a1 3 c1] 25) = w2 at *
  clear hr1 hE1 h1
  refine (restore_any _ _ _ [1, 0, 2] 4 w2 hE2 (by decide) hr2 (by decide) (by decide) (by decide) (by decide) (by decide)).mono ?_
  rintro e w3 ⟨rfl, h3⟩
  rw [rest_a 4 (by decide)]
  have har3 := har.below h3 har.lt
  have d0 := har3.cell (i := 0) rfl
  have d1 := har3.cell (i := 1) rfl
  have d2 := har3.cell (i := 2) rfl
  go_wp2_with fail
  refine (restore_any _ _ _ [1, 0, 2] 3 w3 (hE2.below h3) (by decide) (hr2.below h3) (by decide) (by decide) (by decide) (by decide) (by decide)).mono ?_
  rintro e w4 ⟨rfl, h4⟩
  rw [rest_a3]
  have har4 := har3.below h4 har3.lt
  clear d0 d1 d2
  go_wp2_with fail
  refine (squeeze_nil w4).mono ?_
  rintro e w5 ⟨rfl, h5⟩
  have har5 := har4.below h5 har4.lt
  have h05 := ((hb2.trans (h3.mono hb2.size)).trans (h4.mono (by have := h3.size; have := hb2.size; omega))).trans (h5.mono (by have := h4.size; have := h3.size; have := hb2.size; omega))
  have hE5 := hE.below h05
  have hr5 : RdI w5 (.slice a1 3 c1) [1, 0, 2] := ((hr2.below h3).below h4).below h5
  clear h3 h4 h5 har har3 har4 hr2 hE2 hb2
  go_wp2_with fail
  have hb6 := belA (Below.refl w5.heap.size w5) (.cells #[.string emptyS, .int .i64 0, .slice none 0 0] 25)
  have har6 := har5.below hb6 har5.lt
  have hr6 := hr5.below hb6
  have hE6 := hE5.below hb6
  have h06 := h05.trans (hb6.mono h05.size)
  generalize w5.alloc (.cells #[.string emptyS, .int .i64 0, .slice none 0 0] 25) = w6 at *
  clear har5 hr5 hE5 h05 hb6
  refine (restore_any emptyS 0 (.slice none 0 0) [] 9 w6 hE6 (by decide) ⟨none, 0, rfl, Nat.le_refl _, by decide, .inl rfl⟩ (by decide) (by decide) (by decide) (by decide) (by decide)).mono ?_
  rintro e w7 ⟨rfl, h7⟩
  rw [rest_none]
  have har7 := har6.below h7 har6.lt
  have hr7 := hr6.below h7
  have hE7 := hE6.below h7
  have h07 := h06.trans (h7.mono h06.size)
  clear har6 hr6 hE6 h06 h7
  go_wp2_with fail
  have hb8 := belA (Below.refl w7.heap.size w7) (.cells #[.int .i64 2] 3)
  have hrl : RdI (w7.alloc (.cells #[.int .i64 2] 3)) (.slice (some ⟨w7.heap.size, 0, none⟩) 1 1) [2] := rd_lit w7 3 [.int .i64 2] 1 rfl (by decide)
  have har8 := har7.below hb8 har7.lt
  have hr8 := hr7.below hb8
  have hE8 := hE7.below hb8
  have h08 := h07.trans (hb8.mono h07.size)
  generalize w7.alloc (.cells #[.int .i64 2] 3) = w8 at *
  clear har7 hr7 hE7 h07 hb8
  refine (restore_any _ _ _ [2] 9 w8 hE8 (by decide) hrl (by decide) (by decide) (by decide) (by decide) (by decide)).mono ?_
  rintro e w9 ⟨rfl, h9⟩
  rw [rest_two]
  have har9 := har8.below h9 har8.lt
  have hr9 := hr8.below h9
  have h09 := h08.trans (h9.mono h08.size)
  have d0 := har9.cell (i := 0) rfl
  have d1 := har9.cell (i := 1) rfl
  have d2 := har9.cell (i := 2) rfl
  clear har8 hr8 hE8 h08 h9
  go_wp2_with fail
  have hbA := belA (Below.refl w9.heap.size w9) (.cells #[.int .i64 1, .int .i64 0, .int .i64 2] 3)
  have hrA : RdI (w9.alloc (.cells #[.int .i64 1, .int .i64 0, .int .i64 2] 3)) (.slice (some ⟨w9.heap.size, 0, none⟩) 3 3) [1, 0, 2] := rd_lit w9 3 [.int .i64 1, .int .i64 0, .int .i64 2] 3 rfl (by decide)
  have harA := har9.below hbA har9.lt
  have hrB := hr9.below hbA
  have h0A := h09.trans (hbA.mono h09.size)
  generalize w9.alloc (.cells #[.int .i64 1, .int .i64 0, .int .i64 2] 3) = wA at *
  clear har9 hr9 h09 hbA d0 d1 d2
  refine (same_any _ _ _ _ _ _ [1, 0, 2] [1, 0, 2] wA hrB hrA).mono ?_
  rintro e wB ⟨rfl, hB⟩
  have harB := harA.below hB harA.lt
  have d0 := harB.cell (i := 0) rfl
  have d1 := harB.cell (i := 1) rfl
  have d2 := harB.cell (i := 2) rfl
  go_wp2_with fail
  refine (codes_any _ _ _ rfl wB (by decide)).mono ?_
  rintro e wC ⟨rfl, hC⟩
  go_wp2_with fail
  go_ret
  exact ⟨rfl, (h0A.trans (hB.mono h0A.size)).trans (hC.mono (by have := hB.size; have := h0A.size; omega))⟩

end Go.Proofs.YthjmpiekjfnoiaaGreatDoor

/-
  Plain mathematics of chapter 14 over chapter 13: what turns end with, and the way back; rounds and periods; one round alone.
-/
namespace Go.Proofs.YthjmpiekjfnoiaaGreatDoor

theorem least_ex {P : Nat → Prop} (h : ∃ n, P n) : ∃ n, P n ∧ ∀ m, P m → n ≤ m := by
  obtain ⟨n, hn⟩ := h
  induction n using Nat.strongRecOn with
  | ind n ih =>
    by_cases hc : ∃ m, m < n ∧ P m
    · obtain ⟨m, h1, h2⟩ := hc; exact ih m h1 h2
    · refine ⟨n, hn, fun m hm => ?_⟩
      rcases Nat.lt_or_ge m n with q | q
      · exact absurd ⟨m, q, hm⟩ hc
      · exact q

theorem vec_le (s : List UInt8) : ∀ j, j < s.length → ∀ i, i < j → (s.getD (nxt s i) 0).toNat < (s.getD (nxt s j) 0).toNat ∨ ((s.getD (nxt s i) 0).toNat = (s.getD (nxt s j) 0).toNat ∧ nxt s i < nxt s j) := by
  intro j
  induction j with
  | zero => intro _ i hi; omega
  | succ j ih =>
    intro hj i hi
    obtain ⟨h1, h2⟩ := vec_sorted s j hj
    rcases Nat.lt_or_ge i j with p | p
    · rcases ih (by omega) i p with q | ⟨q, q'⟩
      · exact .inl (by omega)
      · rcases Nat.lt_or_ge (s.getD (nxt s j) 0).toNat (s.getD (nxt s (j + 1)) 0).toNat with t | t
        · exact .inl (by omega)
        · have := h2 (by omega)
          exact .inr ⟨by omega, by omega⟩
    · have : i = j := by omega
      subst this
      rcases Nat.lt_or_ge (s.getD (nxt s i) 0).toNat (s.getD (nxt s (i + 1)) 0).toNat with t | t
      · exact .inl t
      · exact .inr ⟨by omega, h2 (by omega)⟩

theorem eqm_any {c : Nat → Nat} {n : Nat} (hc : Cyc c n) (hn : 0 < n) {x y : Nat} (h : eqm c n x y) (t : Nat) : c (x + t) = c (y + t) :=
  (hc.all hn (m := n + t + 1) (by omega)).1.2 h t (by omega)
theorem eqm_more {c : Nat → Nat} {n : Nat} (hc : Cyc c n) (hn : 0 < n) {x y : Nat} (h : eqm c n x y) (k : Nat) : eqm c n (x + k) (y + k) := fun t _ => by
  rw [Nat.add_assoc, Nat.add_assoc]; exact eqm_any hc hn h _
theorem eqm_turn {c : Nat → Nat} {n : Nat} (hc : Cyc c n) (x : Nat) : eqm c n (x + n) x := fun t _ => by
  rw [show x + n + t = x + t + n by omega, hc]

section
variable {s : ByteArray} {o : Nat → Int}

theorem lastTo_toNat (_h : Ord (cycf s) s.size s.size o) {i : Nat} (hi : i < s.size) : ((lastTo s o s.size).getD i 0).toNat = cycf s ((o i).toNat + (s.size - 1)) := by
  obtain ⟨b, h1, h2⟩ := lastTo_byte s o s.size hi
  rw [List.getD, h1]; exact h2

/-- Ahead of the turn to which one comes stands the turn from which one comes. -/
theorem nxt_turn (h : Ord (cycf s) s.size s.size o) : ∀ i, i < s.size → eqm (cycf s) s.size ((o (nxt (lastTo s o s.size) i)).toNat + (s.size - 1)) (o i).toNat := by
  have hc := cycf_cyc s
  have hl := lastTo_length s o s.size
  have hlt : ∀ {i}, i < s.size → nxt (lastTo s o s.size) i < s.size := fun {i} hi => by have := nxt_lt (lastTo s o s.size) i (by omega); omega
  intro i hi
  rw [← hc.eqm, Nat.mod_eq_of_lt (h.nat hi).2]
  refine weak_eqm (a := fun i => ((o (nxt (lastTo s o s.size) i)).toNat + (s.size - 1)) % s.size) (b := fun i => (o i).toNat) (N := s.size) ?_ (fun i j hi hj e => h.inj hi hj e) ?_ ?_ ?_ (fun i j hij hj => h.weak hij hj) i hi
  · intro i j hi hj e
    have e1 := add_mod_inj (h.nat (hlt hi)).2 (h.nat (hlt hj)).2 e
    exact nxt_inj _ i j (by omega) (by omega) (h.inj (hlt hi) (hlt hj) e1)
  · intro i hi
    obtain ⟨x, hx, e⟩ := add_mod_onto (k := s.size - 1) (h.nat hi).2
    obtain ⟨j, hj, e'⟩ := h.onto hx
    have hp := place_lt (lastTo s o s.size) j (by omega)
    refine ⟨place (lastTo s o s.size) j, by omega, ?_⟩
    rw [nxt_place _ j (by omega), e', Int.toNat_natCast, e]
  · intro i hi
    obtain ⟨j, hj, e⟩ := h.onto (y := ((o (nxt (lastTo s o s.size) i)).toNat + (s.size - 1)) % s.size) (Nat.mod_lt _ (by omega))
    exact ⟨j, hj, by rw [e, Int.toNat_natCast]⟩
  · intro i j hij hj
    have hn : 0 < s.size := by omega
    have hi : i < s.size := by omega
    have v := vec_le (lastTo s o s.size) j (by omega) i hij
    rw [lastTo_toNat h (hlt hi), lastTo_toNat h (hlt hj)] at v
    have bi := h.nat (hlt hi)
    have bj := h.nat (hlt hj)
    rw [hc.ltm, ← (hc.all hn (m := 1 + s.size) (by omega)).2, ltm_add]
    rintro (⟨t, t1, _, t3⟩ | ⟨t, t'⟩)
    · have : t = 0 := by omega
      subst this
      simp only [Nat.add_zero] at t3
      omega
    · have e1 := t 0 (by omega)
      simp only [Nat.add_zero] at e1
      rcases v with v | ⟨_, v⟩
      · omega
      · rw [show (o (nxt (lastTo s o s.size) j)).toNat + (s.size - 1) + 1 = (o (nxt (lastTo s o s.size) j)).toNat + s.size by omega,
          show (o (nxt (lastTo s o s.size) i)).toNat + (s.size - 1) + 1 = (o (nxt (lastTo s o s.size) i)).toNat + s.size by omega] at t'
        have t2 := ((eqm_turn hc _).symm.ltm t').eqm (eqm_turn hc _)
        exact h.weak v (hlt hj) t2

theorem nxt_step (h : Ord (cycf s) s.size s.size o) {i : Nat} (hi : i < s.size) : eqm (cycf s) s.size (o (nxt (lastTo s o s.size) i)).toNat ((o i).toNat + 1) := by
  have hc := cycf_cyc s
  have hn : 0 < s.size := by omega
  have := eqm_more hc hn (nxt_turn h i hi) 1
  rw [show (o (nxt (lastTo s o s.size) i)).toNat + (s.size - 1) + 1 = (o (nxt (lastTo s o s.size) i)).toNat + s.size by omega] at this
  exact (eqm_turn hc _).symm.trans this

theorem walk_turn (h : Ord (cycf s) s.size s.size o) {k : Nat} (hk : k < s.size) : ∀ j, eqm (cycf s) s.size (o (walkN (lastTo s o s.size) j k)).toNat ((o k).toNat + j) := by
  have hc := cycf_cyc s
  have hn : 0 < s.size := by omega
  have hl := lastTo_length s o s.size
  intro j
  induction j with
  | zero => exact eqm.refl _ _
  | succ j ih =>
    have hw := walkN_lt (lastTo s o s.size) k (by omega) j
    exact (nxt_step h (by omega)).trans (eqm_more hc hn ih 1)

/-- Back undoes Forward; by another origin it is the text, turned. -/
theorem back_last (h : Ord (cycf s) s.size s.size o) {k : Nat} (hk : k < s.size) : back (lastTo s o s.size) k = rot s (o k).toNat := by
  have hl := lastTo_length s o s.size
  have hok := (h.nat hk).2
  have hn : 0 < s.size := by omega
  refine last_ext (by rw [back_length, rot_length _ _ (by omega), hl]) (fun i hi => ?_)
  rw [back_length, hl] at hi
  obtain ⟨b, h1, h2⟩ := rot_byte s hok hi
  refine ⟨_, b, back_get _ _ _ (by omega), h1, ?_⟩
  have hw := walkN_lt (lastTo s o s.size) k (by omega) (i + 1)
  rw [lastTo_toNat h (by omega), h2, eqm_any (cycf_cyc s) hn (walk_turn h hk (i + 1)) (s.size - 1), show (o k).toNat + (i + 1) + (s.size - 1) = (o k).toNat + i + s.size by omega, cycf_cyc s]

/-! ### Periods. -/
theorem Cyc.rem {c : Nat → Nat} {a b : Nat} (ha : Cyc c a) (hb : Cyc c b) : Cyc c (a % b) := fun i => by
  have e := hb.mul (i + a % b) (a / b)
  rw [Nat.add_assoc, Nat.mod_add_div] at e
  rw [← e, ha]
theorem Cyc.diff {c : Nat → Nat} {n x y : Nat} (hc : Cyc c n) (hn : 0 < n) (h : Go.Proofs.YthjmpiekjfnoiaaGreatDoor.eqm c n x y) (hxy : x ≤ y) : Cyc c (y - x) := fun i => by
  have hx : x ≤ n * x := Nat.le_mul_of_pos_left x hn
  have e1 := hc.mul (i + (y - x)) x
  have e2 := hc.mul i x
  have e3 := eqm_any hc hn h (i + n * x - x)
  rw [show x + (i + n * x - x) = i + n * x by omega, show y + (i + n * x - x) = i + (y - x) + n * x by omega] at e3
  rw [← e1, ← e3, e2]
/-- The least period. -/
theorem least_period {c : Nat → Nat} {n : Nat} (hc : Cyc c n) (hn : 0 < n) : ∃ d, 0 < d ∧ Cyc c d ∧ n % d = 0 ∧ ∀ x y, eqm c n x y ↔ x % d = y % d := by
  obtain ⟨d, ⟨h1, h2⟩, h3⟩ := least_ex (P := fun d => 0 < d ∧ Cyc c d) ⟨n, hn, hc⟩
  have h4 : ∀ a, Cyc c a → a % d = 0 := by
    intro a ha
    rcases Nat.eq_zero_or_pos (a % d) with p | p
    · exact p
    · have := h3 _ ⟨p, ha.rem h2⟩
      have := Nat.mod_lt a h1
      omega
  have h5 : ∀ x y, x ≤ y → eqm c n x y → x % d = y % d := by
    intro x y hxy h
    have e := h4 _ (hc.diff hn h hxy)
    have e2 := Nat.div_add_mod (y - x) d
    rw [e, Nat.add_zero] at e2
    rw [show y = x + d * ((y - x) / d) by omega, Nat.add_mul_mod_self_left]
  refine ⟨d, h1, h2, h4 n hc, fun x y => ⟨fun h => ?_, fun h t _ => ?_⟩⟩
  · rcases Nat.le_total x y with p | p
    · exact h5 x y p h
    · exact (h5 y x p h.symm).symm
  · rw [← h2.mod_add x t, h, h2.mod_add]

theorem count_lt (r : Nat) : ∀ n, (List.range n).countP (fun i => decide (i < r)) = min n r := by
  intro n
  induction n with
  | zero => simp
  | succ n ih =>
    rw [List.range_succ, List.countP_append, ih]
    by_cases h : n < r
    · simp [h]; omega
    · simp [h]; omega

/-- As many rounds as the least period is in the text. -/
theorem rounds (h : Ord (cycf s) s.size s.size o) (hn : 0 < s.size) {d r : Nat} (hd : 0 < d) (hcl : ∀ x y, eqm (cycf s) s.size x y ↔ x % d = y % d) (hr : r * d = s.size) : cyc (lastTo s o s.size) = r := by
  have hc := cycf_cyc s
  obtain ⟨L, hL⟩ : ∃ L, L = lastTo s o s.size := ⟨_, rfl⟩
  have hl : L.length = s.size := by rw [hL, lastTo_length]
  have hwl : ∀ {i} k, i < s.size → walkN L k i < s.size := fun {i} k hi => by have := walkN_lt L i (by omega) k; omega
  have hwc : ∀ {i} k, i < s.size → (o (walkN L k i)).toNat % d = ((o i).toNat + k) % d := fun {i} k hi => by
    rw [← hcl, hL]; exact walk_turn h hi k
  have hr0 : 0 < r := by
    rcases Nat.eq_zero_or_pos r with p | p
    · rw [p, Nat.zero_mul] at hr; omega
    · exact p
  have hrn : r ≤ s.size := by rw [← hr]; exact Nat.le_mul_of_pos_right r hd
  have hdn : d ≤ s.size := by rw [← hr]; exact Nat.le_mul_of_pos_left d hr0
  have mono1 : ∀ i j, i < j → j < s.size → (o i).toNat % d = (o j).toNat % d → nxt L i < nxt L j := by
    intro i j hij hj e
    have v := vec_le L j (by omega) i hij
    have li := nxt_lt L i (by omega)
    have lj := nxt_lt L j (by omega)
    have e1 : (L.getD (nxt L i) 0).toNat = (L.getD (nxt L j) 0).toNat := by
      rw [hL] at li lj ⊢
      rw [lastTo_toNat h (by rw [lastTo_length] at li; exact li), lastTo_toNat h (by rw [lastTo_length] at lj; exact lj)]
      have a1 := nxt_turn h i (by omega) 0 hn
      have a2 := nxt_turn h j hj 0 hn
      simp only [Nat.add_zero] at a1 a2
      rw [a1, a2]
      exact (hcl _ _).2 e 0 hn
    rcases v with v | ⟨_, v⟩
    · omega
    · exact v
  have mono : ∀ k i j, i < j → j < s.size → (o i).toNat % d = (o j).toNat % d → walkN L k i < walkN L k j := by
    intro k
    induction k with
    | zero => intro i j h1 _ _; exact h1
    | succ k ih =>
      intro i j h1 h2 h3
      refine mono1 _ _ (ih i j h1 h2 h3) (hwl k h2) ?_
      rw [hwc k (by omega), hwc k h2, ← Nat.mod_add_mod, h3, Nat.mod_add_mod]
  have down : ∀ i j, i ≤ j → j < s.size → (o j).toNat % d = (o 0).toNat % d → (o i).toNat % d = (o 0).toNat % d := by
    intro i j hij hj e
    have e' := (hcl _ _).2 e
    rcases Nat.eq_zero_or_pos i with p | p
    · rw [p]
    · rcases Nat.lt_or_ge i j with q | q
      · rw [← hcl]
        rcases ltm_or (cycf s) (o i).toNat (o 0).toNat s.size with t | t | t
        · exact absurd t (h.weak p (by omega))
        · exact t
        · exact absurd (e'.ltm t) (h.weak q hj)
      · rw [show i = j by omega]; exact e
  have blk1 : ∀ i, i < s.size → (o i).toNat % d = (o 0).toNat % d → i < r := by
    intro i hi e
    rcases Nat.lt_or_ge i r with p | p
    · exact p
    · exfalso
      obtain ⟨a, b, h1, h2, h3⟩ := php r (fun k => (o k).toNat / d) (fun k hk => Nat.div_lt_of_lt_mul (by have := (h.nat (i := k) (by omega)).2; rw [Nat.mul_comm, hr]; exact this))
      have ea := down a i (by omega) hi e
      have eb := down b i (by omega) hi e
      have : (o a).toNat = (o b).toNat := by
        rw [← Nat.div_add_mod (o a).toNat d, ← Nat.div_add_mod (o b).toNat d, ea, eb]
        rw [h3]
      have := h.inj (i := a) (j := b) (by omega) (by omega) this
      omega
  have blk2 : ∀ i, i < r → (o i).toNat % d = (o 0).toNat % d := by
    intro i hi
    apply Classical.byContradiction
    intro hne
    have place : ∀ k, k < r → ∃ g, g < s.size ∧ o g = (((o 0).toNat % d + d * k : Nat) : Int) := by
      intro k hk
      have h1 := Nat.mod_lt (o 0).toNat hd
      have h2 : d * (k + 1) ≤ d * r := Nat.mul_le_mul_left d (by omega)
      rw [Nat.mul_add, Nat.mul_one, Nat.mul_comm d r, hr] at h2
      exact h.onto (by omega)
    obtain ⟨g, hg⟩ : ∃ g : Nat → Nat, ∀ k, k < r → g k < s.size ∧ o (g k) = (((o 0).toNat % d + d * k : Nat) : Int) := by
      refine ⟨fun k => if h : k < r then Classical.choose (place k h) else 0, fun k hk => ?_⟩
      have := Classical.choose_spec (place k hk)
      simp only [dif_pos hk]
      exact this
    obtain ⟨a, b, h1, h2, h3⟩ := php i g (fun k hk => by
      obtain ⟨g1, g2⟩ := hg k (by omega)
      rcases Nat.lt_or_ge (g k) i with q | q
      · exact q
      · refine absurd (down i (g k) q g1 ?_) hne
        rw [g2, Int.toNat_natCast, Nat.add_mul_mod_self_left, Nat.mod_mod])
    have ga := (hg a (by omega)).2
    have gb := (hg b (by omega)).2
    rw [h3, gb] at ga
    have e : d * b = d * a := by omega
    have := Nat.eq_of_mul_eq_mul_left hd e
    omega
  have fix : ∀ i, i < r → walkN L d i = i := by
    have key := rise_id (n := r) (f := fun i => ((walkN L d i : Nat) : Int)) (fun k hk => ⟨by omega, by
        have := blk1 (walkN L d k) (hwl d (by omega)) (by rw [hwc d (by omega), Nat.add_mod_right]; exact blk2 k hk)
        show ((walkN L d k : Nat) : Int) < (r : Int)
        omega⟩) (fun k hk => by
        have := mono d k (k + 1) (by omega) (by omega) (by rw [blk2 k (by omega), blk2 (k + 1) hk])
        show ((walkN L d k : Nat) : Int) < ((walkN L d (k + 1) : Nat) : Int)
        omega)
    intro i hi
    have := key i hi
    omega
  have lead : ∀ i, i < s.size → leastB L i = decide (i < r) := by
    intro i hi
    by_cases hir : i < r
    · rw [decide_eq_true hir, leastB_iff]
      intro k _
      rw [walkN_mod L d i k (fix i hir)]
      rcases Nat.eq_zero_or_pos (k % d) with p | p
      · rw [p]; exact Nat.le_refl _
      · have hk := Nat.mod_lt k hd
        rcases Nat.lt_or_ge (walkN L (k % d) i) r with q | q
        · exfalso
          have e1 := blk2 _ q
          rw [hwc _ hi, ← blk2 i hir] at e1
          have e2 : (k % d + (o i).toNat) % d = (0 + (o i).toNat) % d := by rw [Nat.add_comm, e1, Nat.zero_add]
          have := add_mod_inj hk hd e2
          omega
        · omega
    · rw [decide_eq_false hir, ← Bool.not_eq_true, leastB_iff]
      intro hall
      obtain ⟨x, hx, e⟩ := add_mod_onto (n := d) (k := (o i).toNat) (Nat.mod_lt (o 0).toNat hd)
      have h1 := hall x (by omega)
      have h2 := blk1 _ (hwl x hi) (by rw [hwc x hi, Nat.add_comm, e])
      omega
  show cyc (lastTo s o s.size) = r
  rw [← hL]
  unfold cyc cycTo
  rw [hl, List.countP_congr (q := fun i => decide (i < r)) (fun i hi => by rw [lead i (by simpa using hi)]), count_lt]
  omega

end

/-! ### One round alone. -/
theorem cycTo_mono (s : List UInt8) : ∀ b a, a ≤ b → cycTo s a ≤ cycTo s b := by
  intro b
  induction b with
  | zero => intro a h; rw [show a = 0 by omega]; exact Nat.le_refl _
  | succ b ih =>
    intro a h
    rcases Nat.lt_or_ge a (b + 1) with p | p
    · have := ih a (by omega); rw [cycTo_succ]; omega
    · rw [show a = b + 1 by omega]; exact Nat.le_refl _
theorem leastB_zero (s : List UInt8) : leastB s 0 = true := by rw [leastB_iff]; intro k _; exact Nat.zero_le _
theorem cyc_pos (s : List UInt8) (h : 0 < s.length) : 1 ≤ cyc s := by
  have h1 := cycTo_mono s s.length 1 h
  have h2 : cycTo s 1 = cycTo s 0 + if leastB s 0 then 1 else 0 := cycTo_succ s 0
  rw [leastB_zero, if_pos rfl] at h2
  unfold cyc; omega
theorem cyc_le (s : List UInt8) : cyc s ≤ s.length := cycTo_le s _

theorem walk_return (s : List UInt8) {i : Nat} (hi : i < s.length) {b x : Nat} (h : walkN s b i = x) : ∃ k, walkN s k x = i := by
  obtain ⟨p, p1, _, p3⟩ := period s i hi
  have hp : b ≤ p * (b + 1) := Nat.le_trans (by omega) (Nat.le_mul_of_pos_left (b + 1) p1)
  refine ⟨p * (b + 1) - b, ?_⟩
  rw [← h, ← walkN_add, show b + (p * (b + 1) - b) = p * (b + 1) by omega]
  exact walkN_mul s p i p3 _

theorem one_reach (s : List UInt8) (h : cyc s = 1) {i : Nat} (hi : i < s.length) : ∃ k, walkN s k i = 0 := by
  obtain ⟨m, ⟨k, hk⟩, hmin⟩ := least_ex (P := fun m => ∃ k, walkN s k i = m) ⟨i, 0, rfl⟩
  have hm : m < s.length := by rw [← hk]; exact walkN_lt s i hi k
  have hl : leastB s m = true := by
    rw [leastB_iff]
    intro j _
    exact hmin _ ⟨k + j, by rw [walkN_add, hk]⟩
  rcases Nat.eq_zero_or_pos m with p | p
  · exact ⟨k, by rw [hk, p]⟩
  · exfalso
    have h1 := cycTo_succ s m
    rw [hl, if_pos rfl] at h1
    have h2 := cycTo_mono s m 1 p
    have h3 := cycTo_mono s s.length (m + 1) hm
    have h4 : cycTo s 1 = cycTo s 0 + if leastB s 0 then 1 else 0 := cycTo_succ s 0
    rw [leastB_zero, if_pos rfl] at h4
    unfold cyc at h
    omega

theorem one_all (s : List UInt8) (h : cyc s = 1) {o : Nat} (ho : o < s.length) : walkN s s.length o = o ∧ (∀ a b, a < b → b < s.length → walkN s a o ≠ walkN s b o) ∧ ∀ i, i < s.length → ∃ j, j < s.length ∧ walkN s j o = i := by
  have reach : ∀ i, i < s.length → ∃ k, walkN s k o = i := by
    intro i hi
    obtain ⟨a, ha⟩ := one_reach s h ho
    obtain ⟨b, hb⟩ := one_reach s h hi
    obtain ⟨k, hk⟩ := walk_return s hi hb
    exact ⟨a + k, by rw [walkN_add, ha, hk]⟩
  have least : ∀ p, 1 ≤ p → walkN s p o = o → s.length ≤ p := by
    intro p h1 h2
    rcases Nat.lt_or_ge p s.length with q | q
    · exfalso
      have hg : ∀ i, i ≤ p → ∃ k, k < p ∧ walkN s k o = i := by
        intro i hi
        obtain ⟨k, hk⟩ := reach i (by omega)
        exact ⟨k % p, Nat.mod_lt _ h1, by rw [← walkN_mod s p o k h2]; exact hk⟩
      obtain ⟨g, hg'⟩ : ∃ g : Nat → Nat, ∀ i, i ≤ p → g i < p ∧ walkN s (g i) o = i := by
        refine ⟨fun i => if h : i ≤ p then Classical.choose (hg i h) else 0, fun i hi => ?_⟩
        have := Classical.choose_spec (hg i hi)
        simp only [dif_pos hi]
        exact this
      obtain ⟨a, b, q1, q2, q3⟩ := php p g (fun k hk => (hg' k hk).1)
      have e1 := (hg' a (by omega)).2
      have e2 := (hg' b q2).2
      rw [q3, e2] at e1
      omega
    · exact q
  obtain ⟨p, p1, p2, p3⟩ := period s o ho
  have := least p p1 p3
  have hp : p = s.length := by omega
  subst hp
  refine ⟨p3, fun a b h1 h2 e => ?_, fun i hi => ?_⟩
  · have := least (b - a) (by omega) (walkN_back s o a b ho (by omega) e)
    omega
  · obtain ⟨k, hk⟩ := reach i hi
    exact ⟨k % s.length, Nat.mod_lt _ p1, by rw [← walkN_mod s _ o k p3]; exact hk⟩

/-- Of one round alone, what is told back from an origin has these turns' ends. -/
theorem one_ord (s : List UInt8) (h : cyc s = 1) {o : Nat} (ho : o < s.length) :
    ∃ ou, Ord (cycf (mkS (back s o))) s.length s.length ou ∧ lastTo (mkS (back s o)) ou s.length = s ∧ origTo ou s.length = o := by
  obtain ⟨hN, _, hall⟩ := one_all s h ho
  obtain ⟨g, hg⟩ : ∃ g : Nat → Nat, ∀ i, i < s.length → g i < s.length ∧ walkN s (g i) o = i := by
    refine ⟨fun i => if h : i < s.length then Classical.choose (hall i h) else 0, fun i hi => ?_⟩
    have := Classical.choose_spec (hall i hi)
    simp only [dif_pos hi]
    exact this
  have hsz : (mkS (back s o)).size = s.length := by rw [mkS_size, back_length]
  have hW : ∀ k, walkN s (k + s.length) o = walkN s k o := fun k => by rw [Nat.add_comm, walkN_add, hN]
  have hcy : ∀ y, cycf (mkS (back s o)) y = (s.getD (nxt s (walkN s y o)) 0).toNat := by
    intro y
    unfold cycf
    rw [hsz, mkS_toList, List.getD, back_get s o _ (Nat.mod_lt _ (by omega))]
    show (s.getD (nxt s (walkN s (y % s.length) o)) 0).toNat = _
    rw [← walkN_mod s _ o y hN]
  have climb : ∀ x x' : Nat, walkN s x o < walkN s x' o → ∀ t, (∀ u, u < t → cycf (mkS (back s o)) (x + u) = cycf (mkS (back s o)) (x' + u)) → walkN s (x + t) o < walkN s (x' + t) o := by
    intro x x' hx t
    induction t with
    | zero => intro _; exact hx
    | succ t ih =>
      intro hu
      have h1 := ih (fun u hu' => hu u (by omega))
      have h2 := hu t (by omega)
      rw [hcy, hcy] at h2
      rcases vec_le s _ (walkN_lt s o ho (x' + t)) _ h1 with v | ⟨_, v⟩
      · omega
      · exact v
  have hord : Ord (cycf (mkS (back s o))) s.length s.length (fun i => ((g i : Nat) : Int)) := by
    refine ⟨fun k hk => ⟨by omega, by have := (hg k hk).1; show ((g k : Nat) : Int) < _; omega⟩, fun i i' _ hii hi' => .inl ?_⟩
    obtain ⟨g1, g2⟩ := hg i (by omega)
    obtain ⟨g3, g4⟩ := hg i' hi'
    simp only [Int.toNat_natCast]
    have hlt : walkN s (g i) o < walkN s (g i') o := by rw [g2, g4]; exact hii
    have cl := climb _ _ hlt
    rcases ltm_or (cycf (mkS (back s o))) (g i) (g i') s.length with p | p | p
    · exact p
    · exfalso
      have hcyc : Cyc (cycf (mkS (back s o))) s.length := by have := cycf_cyc (mkS (back s o)); rwa [hsz] at this
      have all : ∀ t, walkN s (g i + t) o < walkN s (g i' + t) o := fun t => cl t (fun u _ => eqm_any hcyc (by omega) p u)
      have grow : ∀ q, q ≤ walkN s (g i + (g i' + s.length - g i) * q) o := by
        intro q
        induction q with
        | zero => exact Nat.zero_le _
        | succ q ih =>
          have := all ((g i' + s.length - g i) * q)
          rw [Nat.mul_add, Nat.mul_one]
          have e : g i + ((g i' + s.length - g i) * q + (g i' + s.length - g i)) = g i' + (g i' + s.length - g i) * q + s.length := by omega
          rw [e, hW]
          omega
      have h1 := grow s.length
      have h2 := walkN_lt s o ho (g i + (g i' + s.length - g i) * s.length)
      omega
    · exfalso
      obtain ⟨t, _, t2, t3⟩ := p
      have h1 := cl t (fun u hu => (t2 u hu).symm)
      rw [hcy, hcy] at t3
      rcases vec_le s _ (walkN_lt s o ho _) _ h1 with v | ⟨v, _⟩
      · omega
      · omega
  refine ⟨_, hord, ?_, ?_⟩
  · refine last_ext (lastTo_length _ _ _) (fun i hi => ?_)
    rw [lastTo_length] at hi
    obtain ⟨b, h1, h2⟩ := lastTo_byte (mkS (back s o)) (fun i => ((g i : Nat) : Int)) s.length hi
    refine ⟨b, s.getD i 0, h1, by rw [List.getD, List.getElem?_eq_getElem hi]; rfl, ?_⟩
    rw [h2, hsz, hcy]
    simp only [Int.toNat_natCast]
    have e : nxt s (walkN s (g i + (s.length - 1)) o) = i := by
      show walkN s (g i + (s.length - 1) + 1) o = i
      rw [show g i + (s.length - 1) + 1 = g i + s.length by omega, hW]
      exact (hg i hi).2
    rw [e]
  · obtain ⟨h1, h2⟩ := orig_spec hord (by omega)
    have h3 := (hg _ h1).2
    have h4 : g (origTo (fun i => ((g i : Nat) : Int)) s.length) = 0 := by omega
    rw [h4] at h3
    exact h3.symm

end Go.Proofs.YthjmpiekjfnoiaaGreatDoor

/-
  The mathematics of chapter 15's statements: a squeezed text is restored.
-/
namespace Go.Proofs.YthjmpiekjfnoiaaGreatDoor
open Go.RowKit

theorem alphS_ne {s : ByteArray} (h0 : 0 < s.size) : s.data.toList ≠ [] := fun e => by
  have : s.data.toList.length = s.size := by simp
  rw [e] at this; simp at this; omega
theorem alphS_pos {s : ByteArray} (h0 : 0 < s.size) : 1 ≤ (alph s.data.toList).length := List.length_pos_iff.2 (alph_ne (alphS_ne h0))
theorem sqA_pos {s : ByteArray} (h0 : 0 < s.size) : sqA s = mkS (alph s.data.toList) := if_neg (by omega)
theorem sqO_pos {s : ByteArray} (h0 : 0 < s.size) : sqO s = ((origTo (oOf s) s.size : Nat) : Int) := if_neg (by omega)
theorem sqS_pos {s : ByteArray} (h0 : 0 < s.size) : sqS s = zenc 0 (mtfL (alph s.data.toList) (lastS s)) ++ [((alph s.data.toList).length : Int) + 1] := if_neg (by omega)
theorem sqE_pos {s : ByteArray} (h0 : 0 < s.size) : sqE s = 0 := if_neg (by omega)
theorem sqA_size {s : ByteArray} (h0 : 0 < s.size) : (sqA s).size = (alph s.data.toList).length := by rw [sqA_pos h0, mkS_size]
theorem sqA_le (s : ByteArray) : (sqA s).size ≤ 256 := by
  unfold sqA
  by_cases h : s.size = 0
  · rw [if_pos h]; decide
  · rw [if_neg h, mkS_size]; exact alph_le _
theorem sqA_ok {s : ByteArray} (h0 : 0 < s.size) : (sqA s).data.toList ≠ [] ∧ alph (sqA s).data.toList = (sqA s).data.toList := by
  rw [sqA_pos h0, mkS_toList]
  exact ⟨alph_ne (alphS_ne h0), alph_idem _⟩

theorem sq_enc {s : ByteArray} (h0 : 0 < s.size) (hO : OrdS s) : ∀ y ∈ zenc 0 (mtfL (alph s.data.toList) (lastS s)), 0 ≤ y ∧ y < ((alph s.data.toList).length : Int) + 1 := fun y hy => by
  have hr := mtfS_range hO
  have hp := alphS_pos h0
  rcases zenc_mem _ _ (fun x hx => (hr x hx).1) y hy with q | q | ⟨x, hx, q, _⟩
  · omega
  · omega
  · have := hr x hx; omega
theorem sq_may {s : ByteArray} (h0 : 0 < s.size) (hO : OrdS s) : mayP (sqS s) (((sqA s).size : Int) + 1) := by
  rw [sqS_pos h0, sqA_size h0]
  refine ⟨by simp, by simp, fun x hx => ?_⟩
  rw [List.length_append, List.length_singleton, Nat.add_sub_cancel, List.take_left'] at hx
  · exact sq_enc h0 hO x hx
  · rfl
theorem sq_zexL {s : ByteArray} (h0 : 0 < s.size) (hO : OrdS s) : zexL (sqS s) = mtfL (alph s.data.toList) (lastS s) := by
  unfold zexL
  rw [sqS_pos h0, List.length_append, List.length_singleton, Nat.add_sub_cancel, List.take_left' rfl, zexp_zenc _ _ (fun x hx => (mtfS_range hO x hx).1)]
  simp
theorem sq_zlen {s : ByteArray} (h0 : 0 < s.size) (hO : OrdS s) : (zexL (sqS s)).length = s.size := by
  rw [sq_zexL h0 hO, mtfL_length, lastS_length]
theorem sq_unL {s : ByteArray} (h0 : 0 < s.size) (hO : OrdS s) : unL (sqA s).data.toList (zexL (sqS s)) = lastS s := by
  rw [sq_zexL h0 hO, sqA_pos h0, mkS_toList]
  exact unL_mtfL _ _ (lastS_alph hO)
theorem orig_lt {s : ByteArray} (h0 : 0 < s.size) (hO : OrdS s) : origTo (oOf s) s.size < s.size ∧ oOf s (origTo (oOf s) s.size) = 0 := orig_spec hO h0

/-- By whatever origin there is: the text, turned. -/
theorem rest_turn {s : ByteArray} (h0 : 0 < s.size) (hO : OrdS s) {k : Nat} (hk : k < s.size) {most : Int} (hm : (s.size : Int) ≤ most) : rest (sqA s) (k : Int) (sqS s) most = (mkS (rot s (oOf s k).toNat), 0) := by
  rw [rest_ok (sqA_ok h0) (sq_may h0 hO) (by rw [sq_zlen h0 hO]; exact hm) (by rw [sq_zlen h0 hO]; omega), sq_unL h0 hO, Int.toNat_natCast]
  have : back (lastS s) k = rot s (oOf s k).toNat := back_last hO hk
  rw [this]
theorem rot_zero (s : ByteArray) : rot s 0 = s.data.toList := by
  unfold rot; simp
theorem rest_sq {s : ByteArray} (h0 : 0 < s.size) (hO : OrdS s) {most : Int} (hm : (s.size : Int) ≤ most) : rest (sqA s) (sqO s) (sqS s) most = (s, 0) := by
  obtain ⟨h1, h2⟩ := orig_lt h0 hO
  rw [sqO_pos h0, rest_turn h0 hO h1 hm, h2]
  simp only [Int.toNat_zero, rot_zero, mkS_of]
theorem rest_short {s : ByteArray} (h0 : 0 < s.size) (hO : OrdS s) (o : Int) {most : Int} (hm : most < (s.size : Int)) : rest (sqA s) o (sqS s) most = (emptyS, 4) :=
  rest_long (sqA_ok h0) (sq_may h0 hO) (by rw [sq_zlen h0 hO]; omega)
theorem rest_out {s : ByteArray} (h0 : 0 < s.size) (hO : OrdS s) {o most : Int} (hm : (s.size : Int) ≤ most) (ho : ¬ (0 ≤ o ∧ o < (s.size : Int))) : rest (sqA s) o (sqS s) most = (emptyS, 3) :=
  rest_orig (sqA_ok h0) (sq_may h0 hO) (by rw [sq_zlen h0 hO]; omega) (by rw [sq_zlen h0 hO]; exact ho)
theorem sq_inj {s t : ByteArray} (hs : 0 < s.size) (ht : 0 < t.size) (hOs : OrdS s) (hOt : OrdS t) (h : sqS s = sqS t ∧ sqA s = sqA t ∧ sqO s = sqO t) : s = t := by
  have e1 := rest_sq hs hOs (most := max s.size t.size) (by omega)
  have e2 := rest_sq ht hOt (most := max s.size t.size) (by omega)
  rw [h.1, h.2.1, h.2.2, e2] at e1
  exact (congrArg Prod.fst e1).symm
theorem same_dec {s t : ByteArray} (hs : 0 < s.size) (ht : 0 < t.size) (hOs : OrdS s) (hOt : OrdS t) : decide (sqS s = sqS t ∧ sqA s = sqA t ∧ sqO s = sqO t) = decide (s = t) := by
  by_cases h : s = t
  · subst h; simp
  · rw [decide_eq_false h, decide_eq_false (fun q => h (sq_inj hs ht hOs hOt q))]
/-- A turned text. -/
theorem ordS_bytes (s : ByteArray) : ∀ k, (rot s k).length = s.size ∨ s.size < k := fun k => by
  rcases Nat.lt_or_ge s.size k with h | h
  · exact .inr h
  · exact .inl (rot_length s k h)

end Go.Proofs.YthjmpiekjfnoiaaGreatDoor

/-
  What the rows of chapter 15 share: the listed variable's cell, a world that meets the condition, the readings of the arguments.
-/
namespace Go.Proofs.YthjmpiekjfnoiaaGreatDoor
open Go.ChangeShapes Go.WideShapes Go.ChangeAt Go.RowKit Go.Joins

theorem cardOwn : ownKnob Tryz.prog.godebug = none := by kernel_rfl
theorem cardLaidOut : laidOutB Tryz.prog = true := by kernel_rfl
theorem cardEt : Tryz.prog.globalNamed "errors.errorType" = some 0 := by kernel_rfl
theorem cardRt : (Tryz.prog.cutTypes.find? (·.1 == "internal/reflectlite.rtype")).map (·.2) = some 127 := by kernel_rfl
theorem cardSize : Tryz.prog.types.size = 206 := by kernel_rfl
theorem cardOne : ((List.range 206).filter fun t => Tryz.prog.rowNamed t [101, 114, 114, 111, 114]) = [60] := by kernel_rfl

abbrev cardLaid : List (String × DataW Unit) := [("errors.errorType", Rows.laid_errors_errorType)]

theorem errVar_of_laid {W : World} (h : laidMetH Tryz.prog cardLaid W) : ErrVar W := by
  have h' : laidMet Tryz.prog [] W ∧ handlesMet Tryz.prog cardLaid W := h
  obtain ⟨name, u, ty, e1, e2, e3, e4, e5⟩ := h'.2 _ (List.mem_singleton.2 rfl)
  have en : name = [101, 114, 114, 111, 114] := (Option.some.inj e1).symm
  subst en
  obtain rfl := Option.some.inj (cardRt.symm.trans e2)
  have hm : ty ∈ (List.range 206).filter fun t => Tryz.prog.rowNamed t [101, 114, 114, 111, 114] := List.mem_filter.2 ⟨List.mem_range.2 (by rw [← cardSize]; exact e3), e4⟩
  rw [cardOne] at hm
  obtain rfl := List.mem_singleton.1 hm
  have hh : typeHandle Tryz.prog 60 = .pointer (some ⟨2, 60, none⟩) := by kernel_rfl
  rw [hh] at e5
  have := World.var?_cell cardEt e5 0
  unfold ErrVar
  simpa using this

/-- A world that meets the condition. -/
noncomputable def cardWorld (os : Os) : World :=
  let w0 := World.holding Tryz.prog os ⟨#[], #[], []⟩
  { w0 with heap := w0.heap.modify 0 fun
      | .cells _ t frozen => .cells #[.iface 127 (.agg #[.pointer (some ⟨2, 60, none⟩)])] t frozen
      | o => o }
theorem cardWorld_met (os : Os) (args : Array Value) : laidMetH Tryz.prog cardLaid ((cardWorld os).forCall (fun _ _ => 0) ⟨#[], args, []⟩).memory :=
  laidMetH_of_parts (laidMet_nil _ _) (by kernel_rfl)

theorem card_i64 {n : Int} (h : (Lit.int .i64 n).wf = true) : -9223372036854775808 ≤ n ∧ n ≤ 9223372036854775807 := i64_of_wf h

theorem card_two {α : Type} : ∀ {l : List α}, l.length = 2 → ∃ x y, l = [x, y]
  | [x, y], _ => ⟨x, y, rfl⟩

section
variable {H : Type} {enc : TypeId × Value → H} {w : World} {base : Nat} {spare : Nat → Bool} {held : Bool}
set_option maxRecDepth 100000 in
/-- A slice of pairs that came in. -/
theorem card_pairs {fuel : Nat} {v : Value} {x : DataW H × List MemPlace} (h : DataW.trod enc Tryz.prog w base spare held fuel 22 [v] = some x) : ∃ l, RdP w v l ∧ WfP l := by
  have c50 : Tryz.prog.cellsOf 50 = 2 := by kernel_rfl
  have c3 : Tryz.prog.cellsOf 3 = 1 := by kernel_rfl
  rcases Go.Deep.open_slice Tryz.underlying22 h with ⟨hcs, _⟩ | ⟨a, len, cap, m, n, D, Pl, hcs, _, hl, hm, hmm, _, hi⟩
  · obtain rfl : v = .slice none 0 0 := by simpa using hcs
    exact ⟨[], ⟨none, 0, rfl, Nat.le_refl _, by simp [maxLen], fun h => absurd h (by simp)⟩, by intro p hp; simp at hp⟩
  · obtain rfl : v = .slice (some a) len cap := by simpa using hcs
    have hlm : len ≤ m := by rw [hmm]; split <;> omega
    have key : ∀ i, i < len → ∃ p : Int × Int, (w.cell? (a.add (i * 2)) = some (.int .i64 p.1) ∧ w.cell? (a.add (i * 2 + 1)) = some (.int .i64 p.2)) ∧ ((-9223372036854775808 ≤ p.1 ∧ p.1 ≤ 9223372036854775807) ∧ (-9223372036854775808 ≤ p.2 ∧ p.2 ≤ 9223372036854775807)) := fun i hil => by
      obtain ⟨cs', hc, ht⟩ := hi i (Nat.lt_of_lt_of_le hil hlm)
      rw [c50] at hc
      obtain ⟨xs, k, _, _, _, hx2, hel⟩ := DataW.trod_array Tryz.underlying50 ht
      obtain ⟨_, hcl, hat⟩ := World.cells?_some hc
      obtain ⟨u0, u1, rfl⟩ := card_two hcl
      obtain ⟨y0, y1, rfl⟩ := card_two hx2
      have e0 := hel 0 (by decide)
      have e1 := hel 1 (by decide)
      rw [c3] at e0 e1
      obtain ⟨n0, q0, _, b0⟩ := DataW.trod_int Tryz.underlying3 (show DataW.trod enc Tryz.prog w base spare held k 3 [u0] = some y0 from e0)
      obtain ⟨n1, q1, _, b1⟩ := DataW.trod_int Tryz.underlying3 (show DataW.trod enc Tryz.prog w base spare held k 3 [u1] = some y1 from e1)
      have q0' : u0 = .int .i64 n0 := List.singleton_inj.1 q0
      have q1' : u1 = .int .i64 n1 := List.singleton_inj.1 q1
      clear e0 e1 hel hi ht h
      subst q0' q1'
      have a0 := hat 0 (by decide)
      have a1 := hat 1 (by decide)
      refine ⟨(n0, n1), ⟨?_, ?_⟩, card_i64 b0, card_i64 b1⟩
      · have e0 : (a.add (i * 2)).add 0 = a.add (i * 2) := by rw [Go.Deep.add_add, Nat.add_zero]
        rw [← e0, a0]; rfl
      · simpa [← Go.Deep.add_add] using a1
    have hch : ∃ f : Nat → Int × Int, ∀ i, i < len → (w.cell? (a.add (i * 2)) = some (.int .i64 (f i).1) ∧ w.cell? (a.add (i * 2 + 1)) = some (.int .i64 (f i).2)) ∧ ((-9223372036854775808 ≤ (f i).1 ∧ (f i).1 ≤ 9223372036854775807) ∧ (-9223372036854775808 ≤ (f i).2 ∧ (f i).2 ≤ 9223372036854775807)) :=
      ⟨fun i => if h : i < len then (key i h).choose else (0, 0), fun i hil => by simp only [hil, dif_pos]; exact (key i hil).choose_spec⟩
    obtain ⟨f, hf⟩ := hch
    refine ⟨(List.range len).map f, ⟨some a, cap, by simp, by simpa using hl, hm, fun h0 => ?_⟩, fun p hp => ?_⟩
    · have h0' : 0 < len := by simpa using h0
      have c0 := (hf 0 h0').1.1
      obtain ⟨b, off, spot⟩ := a
      have hsp : spot = none := by simpa [Addr.add] using World.cell?_spot c0
      subst hsp
      refine ⟨b, off, rfl, World.block_lt_of_cell? w _ c0, fun j p hp => ?_⟩
      obtain ⟨hj, rfl⟩ : j < len ∧ f j = p := by
        rw [List.getElem?_map] at hp
        by_cases hj : j < len
        · rw [List.getElem?_range hj] at hp; exact ⟨hj, by simpa using hp⟩
        · rw [List.getElem?_eq_none (by simpa using hj)] at hp; simp at hp
      have e : ∀ q, (⟨b, off, none⟩ : Addr).add q = ⟨b, off + q, none⟩ := fun q => by unfold Addr.add; split <;> simp_all
      have := (hf j hj).1
      rw [e, e] at this
      exact ⟨this.1, by rw [Nat.add_assoc]; exact this.2⟩
    · rw [List.mem_map] at hp
      obtain ⟨i, hi', rfl⟩ := hp
      exact (hf i (by simpa using hi')).2
end

end Go.Proofs.YthjmpiekjfnoiaaGreatDoor
