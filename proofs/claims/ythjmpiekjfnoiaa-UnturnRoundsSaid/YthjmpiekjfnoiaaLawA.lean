/-
  The walks of what the statements of the chapters 13 and 14 share: the comparison of two lists, which of so many things a raw number speaks of, and texts of raw numbers.
-/
import Derived.Test.YthjmpiekjfnoiaaBase
namespace Go.Proofs.Ythjmpiekjfnoiaa
open Go.RowKit

theorem belT {a b c : World} (h : Below a.heap.size a b) (k : Below b.heap.size b c) : Below a.heap.size a c := h.trans (k.mono h.size)
theorem belA {a b : World} (h : Below a.heap.size a b) (o : Obj) : Below a.heap.size a (b.alloc o) := h.alloc h.size o

theorem take_eq_succ {l m : List Int} {k : Nat} {x y : Int} (h : l.take k = m.take k) (hl : l[k]? = some x) (hm : m[k]? = some y) (he : x = y) : l.take (k + 1) = m.take (k + 1) := by
  rw [List.take_add_one, List.take_add_one, h, hl, hm, he]

set_option maxHeartbeats 400000 in
theorem ints_any (va vb : Value) (la lb : List Int) (w : World) (ha : RdI w va la) (hb : RdI w vb lb) :
    Calls Try.prog 17 #[va, vb] w fun e w' => e = .returned (.bool (la == lb)) ∧ Below w.heap.size w w' := by
  obtain ⟨a, ca, rfl, hca, hma, hA⟩ := ha.open
  obtain ⟨b, cb, rfl, hcb, hmb, hB⟩ := hb.open
  clear ha hb
  unfold maxLen at hma hmb
  by_cases hl : la.length = lb.length
  case neg =>
    have hne : la ≠ lb := fun e => hl (by rw [e])
    have hd : ((la.length : Int) != (lb.length : Int)) = true := by rw [bne_iff_ne]; omega
    go_enter Try.func17, Try.ntmps17
    go_wp2
    go_ret
    exact ⟨ret_bool (by rw [beq_eq_false_iff_ne.2 hne]), Below.refl _ _⟩
  case pos =>
    have hd : ((la.length : Int) != (lb.length : Int)) = false := by rw [bne_eq_false_iff_eq]; omega
    have HL := hid hl
    have hle : la.length ≤ lb.length := by omega
    have hle' : lb.length ≤ la.length := by omega
    clear hl
    go_enter Try.func17, Try.ntmps17
    go_wp2
    go_loopw [5] (fun i wr => ∃ k : Nat, k ≤ la.length ∧ i = .int .i64 k ∧ Hid (la.take k = lb.take k) ∧ Below w.heap.size w wr) (fun i _ => la.length - (intOf i).toNat)
    case atStart => exact ⟨0, Nat.zero_le _, rfl, hid rfl, Below.refl _ _⟩
    case round =>
      obtain ⟨k, hk, rfl, HT, hbel⟩ := hrel
      by_cases hlt : k < la.length
      · obtain ⟨b1, o1, rfl, hb1, hc1⟩ := hA (by omega)
        obtain ⟨b2, o2, rfl, hb2, hc2⟩ := hB (by omega)
        obtain ⟨x, hx⟩ := getI hlt
        obtain ⟨y, hy⟩ := getI (l := lb) (k := k) (by omega)
        have c1 : wr.cell? ⟨b1, o1 + k, none⟩ = some (.int .i64 x) := by rw [hbel.cell (p := ⟨b1, o1 + k, none⟩) hb1]; exact hc1 k _ hx
        have c2 : wr.cell? ⟨b2, o2 + k, none⟩ = some (.int .i64 y) := by rw [hbel.cell (p := ⟨b2, o2 + k, none⟩) hb2]; exact hc2 k _ hy
        have HX := hid hx; have HY := hid hy
        clear hc1 hc2 hA hB hx hy
        go_wp2
        go_quiet (fail)
        go_wp2
        · have h : (x != y) = true := by assumption
          go_ret
          refine ⟨ret_bool ?_, below_drewN hbel _⟩
          have h' : x ≠ y := by simpa using h
          rw [eq_comm, beq_eq_false_iff_ne]
          intro e
          have := HX.out
          rw [e, HY.out] at this
          exact h' (by simpa using this.symm)
        · have h : (x != y) = false := by assumption
          go_roundw
          case rel => exact ⟨k + 1, by omega, by go_num, hid (take_eq_succ HT.out HX.out HY.out (by simpa using h)), below_drewN hbel _⟩
          case measure => simp [intOf]; omega
      · go_wp2
        go_ret
        exact ⟨ret_bool (by
          have e := HT.out
          rw [List.take_of_length_le (by omega), List.take_of_length_le (by omega)] at e
          simp [e]), hbel⟩

def Pick (c n : Int) : Int := (if c < 0 then -(c + 1) else c) % n
theorem Pick_bd (c n : Int) (h : 1 ≤ n) : 0 ≤ Pick c n ∧ Pick c n < n := ⟨Int.emod_nonneg _ (by omega), Int.emod_lt_of_pos _ (by omega)⟩

set_option maxHeartbeats 400000 in
theorem pick13_any (c n : Int) (w : World) (h1 : -9223372036854775808 ≤ c) (h2 : c ≤ 9223372036854775807) (h3 : 1 ≤ n) (h4 : n ≤ 1000000000) :
    Calls Try.prog 30 #[.int .i64 c, .int .i64 n] w fun e w' => e = .returned (.int .i64 (Pick c n)) ∧ w = w' := by
  by_cases hc : c < 0
  · have hfin := hid (show Pick c n = (-(c + 1)) % n from by simp [Pick, hc])
    go_enter Try.func30, Try.ntmps30
    go_wp2
    go_ret
    exact ⟨ret_int (by rw [hfin.out]; rw [← Int.neg_tmod, Int.tmod_eq_emod_of_nonneg (by omega)]), rfl⟩
  · have hfin := hid (show Pick c n = c % n from by simp [Pick, hc])
    have hc' : 0 ≤ c := by omega
    go_enter Try.func30, Try.ntmps30
    go_wp2
    go_ret
    exact ⟨ret_int (by rw [hfin.out]), rfl⟩

set_option maxHeartbeats 400000 in
theorem pick14_any (c n : Int) (w : World) (h1 : -9223372036854775808 ≤ c) (h2 : c ≤ 9223372036854775807) (h3 : 1 ≤ n) (h4 : n ≤ 1000000000) :
    Calls Try.prog 22 #[.int .i64 c, .int .i64 n] w fun e w' => e = .returned (.int .i64 (Pick c n)) ∧ w = w' := by
  by_cases hc : c < 0
  · have hfin := hid (show Pick c n = (-(c + 1)) % n from by simp [Pick, hc])
    go_enter Try.func22, Try.ntmps22
    go_wp2
    go_ret
    exact ⟨ret_int (by rw [hfin.out]; rw [← Int.neg_tmod, Int.tmod_eq_emod_of_nonneg (by omega)]), rfl⟩
  · have hfin := hid (show Pick c n = c % n from by simp [Pick, hc])
    have hc' : 0 ≤ c := by omega
    go_enter Try.func22, Try.ntmps22
    go_wp2
    go_ret
    exact ⟨ret_int (by rw [hfin.out]), rfl⟩

set_option maxRecDepth 100000 in
set_option maxHeartbeats 800000 in
theorem text13_any (v : Value) (raw : List Int) (most times : Int) (w : World) (hr : RdI w v raw) (hwf : WfI raw) (hm1 : 0 ≤ most) (hm2 : most ≤ 1000) (ht1 : -9223372036854775808 ≤ times) (ht2 : times ≤ 9223372036854775807) :
    Calls Try.prog 16 #[v, .int .i64 most, .int .i64 times] w fun e w' =>
      ∃ s : ByteArray, e = .returned (.string s) ∧ (s.size : Int) ≤ most ∧ Below w.heap.size w w' := by
  obtain ⟨a, ca, rfl, hca, hma, hA⟩ := hr.open
  unfold maxLen at hma
  clear hr
  go_enter Try.func16, Try.ntmps16
  go_wp2
  go_loopg [7, 8] raw.length (fun g one i wr => ∃ (k : Nat) (s : ByteArray), k ≤ raw.length ∧ (k : Int) ≤ most ∧ g = raw.length - k ∧ i = .int .i64 k ∧ one = .string s ∧ s.size = k ∧ Below w.heap.size w wr)
  case atStart => exact ⟨0, _, Nat.zero_le _, hm1, rfl, rfl, rfl, rfl, Below.refl _ _⟩
  case round =>
    obtain ⟨k, s, hk, hkm, hg, rfl, rfl, hsk, hbel⟩ := hrel
    have HG := hid hg
    have HSK := hid hsk
    have hsk1 : s.size ≤ 1000 := by omega
    have hsm : (s.size : Int) ≤ most := by omega
    clear hg hsk
    by_cases hlt : k < raw.length
    · by_cases hlm : (k : Int) < most
      · obtain ⟨b1, o1, rfl, hb1, hc1⟩ := hA (by omega)
        obtain ⟨x, hx⟩ := getI hlt
        have hxb := hwf.get hx
        have hc := hc1 k x hx
        have hn := hbel.size
        have c1 : ∀ o, (wr.alloc o).cell? ⟨b1, o1 + k, none⟩ = some (.int .i64 x) := fun o => by
          rw [World.cell?_alloc_past _ _ _ (by show b1 < wr.heap.size; omega), hbel.cell (p := ⟨b1, o1 + k, none⟩) hb1]; exact hc
        have hd : decide ((k : Int) < most) = true := by simpa using hlm
        obtain ⟨hp1, hp2⟩ := Pick_bd x 3 (by decide)
        obtain ⟨q, hq⟩ := Int.eq_ofNat_of_zero_le hp1
        have hq3 : q = 0 ∨ q = 1 ∨ q = 2 := by omega
        have HQ := hid hq
        clear hA hc1 hx hc hq hp1 hp2
        rcases hq3 with rfl | rfl | rfl
        all_goals
          go_wp2_with (go_at_call 30; refine (pick13_any _ _ _ ?_ ?_ ?_ ?_).mono ?_; omega; omega; decide; decide; rintro e w' ⟨rfl, rfl⟩; rw [HQ.out])
          have hg := HG.out
          have hs := HSK.out
          go_roundg (raw.length - (k + 1))
          case measure => omega
          case rel => exact ⟨k + 1, _, by omega, by omega, rfl, by go_num, rfl, by rw [ByteArray.size_append, hs]; rfl, hbel.alloc (by omega) _⟩
      · have hd : decide ((k : Int) < most) = false := by simpa using hlm
        go_wp2
        obtain ⟨wo, rfl⟩ : ∃ wo : World, wo = wr := ⟨_, rfl⟩
        obtain ⟨hp1, hp2⟩ := Pick_bd times 4 (by decide)
        go_loopg [9, 10] 4 (fun g out i wr => ∃ (j : Nat) (t : ByteArray), j ≤ 4 ∧ g = 4 - j ∧ i = .int .i64 j ∧ out = .string t ∧ (t.size : Int) ≤ most ∧ wr = wo)
        case atStart => exact ⟨0, s, by omega, rfl, rfl, rfl, by omega, rfl⟩
        case round =>
          obtain ⟨j, t, hj, hg2, rfl, rfl, ht, rfl⟩ := hrel
          have HG2 := hid hg2
          clear hg2
          by_cases hjl : (j : Int) < Pick times 4
          · have hd2 : decide ((j : Int) < Pick times 4) = true := by simpa using hjl
            by_cases htl : (t.size : Int) + (s.size : Int) ≤ most
            · have hd3 : decide ((t.size : Int) + (s.size : Int) ≤ most) = true := by simpa using htl
              go_wp2_with (go_at_call 30; refine (pick13_any _ _ _ ?_ ?_ ?_ ?_).mono ?_; omega; omega; decide; decide; rintro e w' ⟨rfl, rfl⟩)
              have hg2 := HG2.out
              go_roundg (4 - (j + 1))
              case measure => omega
              case rel => exact ⟨j + 1, _, by omega, rfl, by go_num, rfl, by rw [ByteArray.size_append]; omega, rfl⟩
            · have hd3 : decide ((t.size : Int) + (s.size : Int) ≤ most) = false := by simpa using htl
              go_wp2_with (go_at_call 30; refine (pick13_any _ _ _ ?_ ?_ ?_ ?_).mono ?_; omega; omega; decide; decide; rintro e w' ⟨rfl, rfl⟩)
              go_ret
              exact ⟨t, rfl, ht, hbel⟩
          · have hd2 : decide ((j : Int) < Pick times 4) = false := by simpa using hjl
            go_wp2_with (go_at_call 30; refine (pick13_any _ _ _ ?_ ?_ ?_ ?_).mono ?_; omega; omega; decide; decide; rintro e w' ⟨rfl, rfl⟩)
            go_ret
            exact ⟨t, rfl, ht, hbel⟩
    · have hlt2 := hlt
      go_wp2
      obtain ⟨wo, rfl⟩ : ∃ wo : World, wo = wr := ⟨_, rfl⟩
      obtain ⟨hp1, hp2⟩ := Pick_bd times 4 (by decide)
      go_loopg [9, 10] 4 (fun g out i wr => ∃ (j : Nat) (t : ByteArray), j ≤ 4 ∧ g = 4 - j ∧ i = .int .i64 j ∧ out = .string t ∧ (t.size : Int) ≤ most ∧ wr = wo)
      case atStart => exact ⟨0, s, by omega, rfl, rfl, rfl, by omega, rfl⟩
      case round =>
        obtain ⟨j, t, hj, hg2, rfl, rfl, ht, rfl⟩ := hrel
        have HG2 := hid hg2
        clear hg2
        by_cases hjl : (j : Int) < Pick times 4
        · have hd2 : decide ((j : Int) < Pick times 4) = true := by simpa using hjl
          by_cases htl : (t.size : Int) + (s.size : Int) ≤ most
          · have hd3 : decide ((t.size : Int) + (s.size : Int) ≤ most) = true := by simpa using htl
            go_wp2_with (go_at_call 30; refine (pick13_any _ _ _ ?_ ?_ ?_ ?_).mono ?_; omega; omega; decide; decide; rintro e w' ⟨rfl, rfl⟩)
            have hg2 := HG2.out
            go_roundg (4 - (j + 1))
            case measure => omega
            case rel => exact ⟨j + 1, _, by omega, rfl, by go_num, rfl, by rw [ByteArray.size_append]; omega, rfl⟩
          · have hd3 : decide ((t.size : Int) + (s.size : Int) ≤ most) = false := by simpa using htl
            go_wp2_with (go_at_call 30; refine (pick13_any _ _ _ ?_ ?_ ?_ ?_).mono ?_; omega; omega; decide; decide; rintro e w' ⟨rfl, rfl⟩)
            go_ret
            exact ⟨t, rfl, ht, hbel⟩
        · have hd2 : decide ((j : Int) < Pick times 4) = false := by simpa using hjl
          go_wp2_with (go_at_call 30; refine (pick13_any _ _ _ ?_ ?_ ?_ ?_).mono ?_; omega; omega; decide; decide; rintro e w' ⟨rfl, rfl⟩)
          go_ret
          exact ⟨t, rfl, ht, hbel⟩

end Go.Proofs.Ythjmpiekjfnoiaa
