/-
  The walk of the document's own Decode.
-/
import Derived.Test.YthjmpiekjfnoiaaGreatDoorZ3
import Derived.Test.YthjmpiekjfnoiaaGreatDoorZ2
import Derived.Sort.OwnSortedInts
namespace Go.Proofs.YthjmpiekjfnoiaaGreatDoor
open Go.RowKit

theorem zexp_lead (l : List Int) : zexp l = List.replicate (num (l.take (lead 1 l))) 0 ++ zexp (l.drop (lead 1 l)) := by
  have hr := zx_run (l.take (lead 1 l)) 0 1 (l.drop (lead 1 l)) (fun x hx => by have := lead_take 1 l x hx; omega)
  rw [List.take_append_drop] at hr
  have e0 : zexp l = zx 0 1 l := rfl
  rw [e0, hr]
  rcases Nat.lt_or_ge (lead 1 l) l.length with h | h
  · have hx := List.getElem?_eq_getElem h
    have := lead_at 1 l hx
    rw [List.drop_eq_getElem_cons h]
    have e1 : zexp (l[lead 1 l] :: l.drop (lead 1 l + 1)) = (l[lead 1 l] - 1) :: zexp (l.drop (lead 1 l + 1)) := by rw [zexp, zx_sym (by omega)]; simp
    rw [e1, zx_sym (by omega)]
    simp
  · rw [List.drop_of_length_le h, zx_end]
    simp [zexp, zx_end]
theorem zexp_sym {x : Int} {l : List Int} (h : 1 < x) : zexp (x :: l) = (x - 1) :: zexp l := by
  rw [zexp, zx_sym (by omega)]; simp

/-- What Decode answers. -/
def decL (m : List Int) (most : Int) : List Int := if ((zexp m).length : Int) ≤ most then zexp m else []
def decE (m : List Int) (most : Int) : Int := if ((zexp m).length : Int) ≤ most then 0 else 4

theorem decNo {m : List Int} {most : Int} (h : ¬ ((zexp m).length : Int) ≤ most) : decL m most = [] ∧ decE m most = 4 := by
  unfold decL decE
  rw [if_neg h, if_neg h]; exact ⟨rfl, rfl⟩
theorem decYes {m : List Int} {most : Int} (h : ((zexp m).length : Int) ≤ most) : decL m most = zexp m ∧ decE m most = 0 := by
  unfold decL decE
  rw [if_pos h, if_pos h]; exact ⟨rfl, rfl⟩

theorem sub_src {w : World} {b off cap : Nat} {l : List Int} (hb : b < w.heap.size) (hc : ∀ j x, l[j]? = some x → w.cell? ⟨b, off + j, none⟩ = some (.int .i64 x)) (i n : Nat) (hi : i + n ≤ l.length) (hcap : l.length ≤ cap) (hm : cap ≤ maxLen) :
    RdI w (.slice (some ⟨b, off + i, none⟩) n (cap - i)) ((l.drop i).take n) := by
  have hl : ((l.drop i).take n).length = n := by rw [List.length_take, List.length_drop]; omega
  refine ⟨some ⟨b, off + i, none⟩, cap - i, by rw [hl], by rw [hl]; omega, by omega, .inr ⟨b, off + i, rfl, hb, fun j hj => ?_⟩⟩
  rw [List.length_map, hl] at hj
  have hx : l[i + j]? = some (l[i + j]'(by omega)) := List.getElem?_eq_getElem _
  rw [Nat.add_assoc, hc _ _ hx]
  have h2 : ((l.drop i).take n)[j]? = some (l[i + j]'(by omega)) := by rw [List.getElem?_take_of_lt hj, List.getElem?_drop, hx]
  rw [List.getD, List.getElem?_map, h2]; rfl

set_option maxRecDepth 100000 in
set_option maxHeartbeats 1600000 in
theorem refDecode_any (v : Value) (m : List Int) (most : Int) (w : World) (hr : RdI w v m) (hlen : m.length ≤ 100000) (hv : ∀ x ∈ m, 0 ≤ x ∧ x ≤ 1000000) (hm1 : -9223372036854775808 ≤ most) (hm2 : most ≤ 1000000) :
    Calls Tryz.prog 43 #[v, .int .i64 most] w fun e w' => ∃ v', e = .returned (.tuple #[v', .int .i64 (decE m most)]) ∧ OwI w' w.heap.size v' (decL m most) ∧ Below w.heap.size w w' := by
  have HB := hid (refBelow_any v m w hr (fun x hx => (hv x hx).1))
  obtain ⟨a, ca, rfl, hca, hma, hA⟩ := hr.open
  have hma0 := hma
  unfold maxLen at hma
  have HV := hid hv
  have HM0 := hid hma0
  clear hr hv hma0
  go_enter Tryz.func43, Tryz.ntmps43
  go_wp2_with fail
  refine HB.out.mono ?_
  rintro e w1 ⟨rfl, rfl⟩
  clear HB
  go_wp2_with fail
  go_loopg [6, 7, 8, 9, 10, 11] m.length (fun gh s6 s7 _s8 _s9 _s10 _s11 wq => ∃ (i : Nat) (pre : List Int), i ≤ m.length ∧ gh = m.length - i ∧ s7 = .int .i64 i ∧ OwI wq w1.heap.size s6 pre ∧ Hid (pre ++ zexp (m.drop i) = zexp m) ∧ pre.length ≤ 1000000 + i ∧ Below w1.heap.size w1 wq)
  case atStart => exact ⟨0, [], Nat.zero_le _, rfl, rfl, OwI.nil _ _, hid rfl, by simp, Below.refl _ _⟩
  case round =>
  obtain ⟨i, pre, hi, hg, rfl, hown, HP, hpl, hbel⟩ := hrel
  have HG := hid hg
  clear hg
  by_cases hil : i < m.length
  · obtain ⟨b0, o0, rfl, hb0, hc0⟩ := hA (by omega)
    obtain ⟨n, hn⟩ : ∃ n, n = lead 1 (m.drop i) := ⟨_, rfl⟩
    have hnl : n ≤ m.length - i := by rw [hn]; have := lead_le 1 (m.drop i); rwa [List.length_drop] at this
    have hz := hid (show ∀ j, j < n → ∀ x, m[i + j]? = some x → x = 0 ∨ x = 1 from fun j hj x hx => by
      have hx' : (m.drop i)[j]? = some x := by rw [List.getElem?_drop]; exact hx
      have h1 := lead_take 1 (m.drop i) x (by rw [← hn]; exact List.mem_of_getElem? (i := j) (by rw [List.getElem?_take_of_lt hj]; exact hx'))
      have h2 := (HV.out x (List.mem_of_getElem? hx)).1
      omega)
    have hnz := hid (show ∀ x, m[i + n]? = some x → 1 < x from fun x hx => lead_at 1 (m.drop i) (by rw [← hn, List.getElem?_drop]; exact hx))
    have hzl := hid (show zexp (m.drop i) = List.replicate (num ((m.drop i).take n)) 0 ++ zexp (m.drop (i + n)) by rw [zexp_lead, ← hn, List.drop_drop])
    clear hn
    obtain ⟨wo, rfl⟩ : ∃ wo : World, wo = wr := ⟨_, rfl⟩
    have hcel := hid (show ∀ j x, m[j]? = some x → wo.cell? ⟨b0, o0 + j, none⟩ = some (.int .i64 x) from fun j x hx => by rw [hbel.cell (p := ⟨b0, o0 + j, none⟩) hb0]; exact hc0 j x hx)
    have HC0 := hid hc0
    clear hc0 hA
    have hbs := hbel.size
    go_wp2_with fail
    go_loopg [8] n (fun gh s8 wq => ∃ q : Nat, q ≤ n ∧ gh = n - q ∧ s8 = .int .i64 q ∧ wo = wq)
    case atStart => exact ⟨0, Nat.zero_le _, rfl, rfl, rfl⟩
    case round =>
    obtain ⟨q, hq, hg, rfl, rfl⟩ := hrel
    have HG2 := hid hg
    clear hg
    by_cases hqn : q < n
    · obtain ⟨x, hx⟩ := getI (l := m) (k := i + q) (by omega)
      have c1 := hcel.out (i + q) x hx
      have hx0 := hz.out q hqn x hx
      have t1 : decide (x < 2) = true := decide_eq_true (by omega)
      have t3 : x < 2 := by omega
      have t2 : decide (i + q < m.length) = true := decide_eq_true (by omega)
      clear hx hx0
      go_wp2_with fail
      have hg := HG2.out
      go_roundg (n - (q + 1))
      case measure => omega
      case rel => exact ⟨q + 1, by omega, rfl, by go_num, rfl⟩
    · obtain rfl : n = q := by omega
      clear hq hqn HG2
      rcases Nat.eq_zero_or_pos n with h0 | h0
      · subst h0
        obtain ⟨x, hx⟩ := getI (l := m) (k := i) hil
        have c1 := hcel.out i x hx
        have hx0 := hnz.out x hx
        have hxb := HV.out x (List.mem_of_getElem? hx)
        have t1 : decide (x < 2) = false := decide_eq_false (by omega)
        have t3 : 2 ≤ x := by omega
        have t2 : decide (i < m.length) = true := decide_eq_true (by omega)
        have e2 := hid (show zexp (m.drop i) = (x - 1) :: zexp (m.drop (i + 1)) by
          rw [List.drop_eq_getElem_cons hil, show m[i] = x from (List.getElem?_eq_some_iff.1 hx).2, zexp_sym hx0])
        clear hx
        go_wp2_with (at_builtin; refine appI rfl _ _ rfl w1.heap.size _ _ rfl (hown.alloc _) wo.heap.size (x - 1) rfl ?_ ?_ ?_ ?_; (exact newc _ _ _); omega; (simp; omega); intro v4 w4 hown4 hB4 hgrow4)
        have hg := HG.out
        go_roundg (m.length - (i + 1))
        case measure => omega
        case rel =>
          refine ⟨i + 1, pre ++ [x - 1], by omega, rfl, by go_num, hown4, hid ?_, by simp only [List.length_append, List.length_singleton]; omega, (hbel.alloc hbs _).trans hB4⟩
          rw [List.append_assoc, List.singleton_append, ← e2.out]; exact HP.out
      · have HND := hid (show ∀ x ∈ (m.drop i).take n, x = 0 ∨ x = 1 from fun x hx => by
          obtain ⟨j, hj, rfl⟩ := List.mem_iff_getElem.1 hx
          rw [List.length_take, List.length_drop] at hj
          refine hz.out j (by omega) _ ?_
          rw [List.getElem_take, List.getElem_drop]
          exact List.getElem?_eq_getElem _)
        have HSUB := hid (sub_src (w := wo) (cap := ca) (Nat.lt_of_lt_of_le hb0 hbs) hcel.out i n (by omega) hca HM0.out)
        obtain ⟨N, hN⟩ : ∃ N, N = num ((m.drop i).take n) := ⟨_, rfl⟩
        have hlenz := hid (show (zexp m).length = pre.length + N + (zexp (m.drop (i + n))).length by
          rw [← HP.out, List.length_append, hzl.out, List.length_append, List.length_replicate, ← hN]; omega)
        have HN := hid hN
        have hcn : ¬ ca = i := by omega
        have t4 : ((n : Int) == 0) = false := by rw [beq_eq_false_iff_ne]; omega
        have t5 : n ≤ m.length - i := hnl
        clear hN
        have hend : (m.length ≤ i + n) ∨ (i + n < m.length ∧ ∃ x, wo.cell? ⟨b0, o0 + (i + n), none⟩ = some (.int .i64 x) ∧ 2 ≤ x) := by
          rcases Nat.lt_or_ge (i + n) m.length with h | h
          · obtain ⟨x, hx⟩ := getI h
            exact .inr ⟨h, x, hcel.out _ _ hx, by have := hnz.out x hx; omega⟩
          · exact .inl h
        rcases hend with h1 | ⟨h1, x, c1, t3⟩
        all_goals
          obtain ⟨ao, co, rfl, hoc, hom, _⟩ := hown.rd.open
          unfold maxLen at hom
          go_wp2_with fail
          refine (refNumber_any _ ((m.drop i).take n) _ HSUB.out HND.out).mono ?_
          rintro e w2 ⟨rfl, rfl⟩
          by_cases hbig : N ≤ 1099511627776
          · have nv : numV ((m.drop i).take n) = (N : Int) := by unfold numV; rw [← HN.out, if_pos hbig]
            have ne : numE ((m.drop i).take n) = 0 := by unfold numE; rw [← HN.out, if_pos hbig]
            rw [nv, ne]
            clear nv ne
            by_cases hlong : most < (pre.length : Int) + (N : Int)
            · have t6 : decide (most < (pre.length : Int) + (N : Int)) = true := decide_eq_true hlong
              go_wp2_with fail
              go_ret2
              have e1 : ¬ ((zexp m).length : Int) ≤ most := by have := hlenz.out; omega
              obtain ⟨d1, d2⟩ := decNo e1
              rw [d1, d2]
              exact ⟨_, rfl, OwI.nil _ _, hbel⟩
            · have t6 : decide (most < (pre.length : Int) + (N : Int)) = false := decide_eq_false hlong
              go_wp2_with fail
              go_loopg [6, 11] N (fun gh s6 s11 wq => ∃ j : Nat, j ≤ N ∧ gh = N - j ∧ s11 = .int .i64 j ∧ OwI wq w1.heap.size s6 (pre ++ List.replicate j 0) ∧ Below w1.heap.size w1 wq)
              case atStart => exact ⟨0, Nat.zero_le _, rfl, rfl, by rw [List.replicate_zero, List.append_nil]; exact hown, hbel⟩
              case round =>
              clear hown hbel hcel HSUB hbs
              obtain ⟨j, hj, hg, rfl, hown, hbel⟩ := hrel
              have HG3 := hid hg
              have hbs := hbel.size
              have hll : (pre ++ List.replicate j (0 : Int)).length = pre.length + j := by simp
              have HLL := hid hll
              clear hg hll
              by_cases hjN : j < N
              · go_wp2_with (at_builtin; refine appI rfl _ _ rfl w1.heap.size _ _ rfl (hown.alloc _) wr.heap.size 0 rfl ?_ ?_ ?_ ?_; (exact newc _ _ _); (rw [HLL.out]; omega); (simp; omega); intro v4 w4 hown4 hB4 hgrow4)
                have hg := HG3.out
                go_roundg (N - (j + 1))
                case measure => omega
                case rel => exact ⟨j + 1, by omega, rfl, by go_num, by rw [List.replicate_succ', ← List.append_assoc]; exact hown4, (hbel.alloc hbs _).trans hB4⟩
              · obtain rfl : j = N := by omega
                go_wp2_with fail
                have hg := HG.out
                go_roundg (m.length - (i + n))
                case measure => omega
                case rel =>
                  refine ⟨i + n, pre ++ List.replicate j 0, by omega, rfl, by go_num, hown, hid ?_, by rw [HLL.out]; omega, hbel⟩
                  have := hzl.out
                  rw [← HN.out] at this
                  rw [List.append_assoc, ← this]; exact HP.out
          · have ne : numE ((m.drop i).take n) = 4 := by unfold numE; rw [← HN.out, if_neg hbig]
            rw [ne]
            clear ne
            go_wp2_with fail
            go_ret2
            have e1 : ¬ ((zexp m).length : Int) ≤ most := by have := hlenz.out; omega
            obtain ⟨d1, d2⟩ := decNo e1
            rw [d1, d2]
            exact ⟨_, rfl, OwI.nil _ _, hbel⟩
  · have hie := hid (show pre = zexp m by have := HP.out; rw [List.drop_of_length_le (by omega), show zexp [] = [] from rfl, List.append_nil] at this; exact this)
    obtain ⟨ao, co, rfl, hoc, hom, _⟩ := hown.rd.open
    unfold maxLen at hom
    by_cases hlong : most < (pre.length : Int)
    · have t6 : decide (most < (pre.length : Int)) = true := decide_eq_true hlong
      go_wp2_with fail
      go_ret2
      have e1 : ¬ ((zexp m).length : Int) ≤ most := by rw [← hie.out]; omega
      obtain ⟨d1, d2⟩ := decNo e1
      rw [d1, d2]
      exact ⟨_, rfl, OwI.nil _ _, hbel⟩
    · have t6 : decide (most < (pre.length : Int)) = false := decide_eq_false hlong
      go_wp2_with fail
      go_ret2
      have e1 : ((zexp m).length : Int) ≤ most := by rw [← hie.out]; omega
      obtain ⟨d1, d2⟩ := decYes e1
      rw [d1, d2, ← hie.out]
      exact ⟨_, rfl, hown, hbel⟩

end Go.Proofs.YthjmpiekjfnoiaaGreatDoor

/-
  The walk of Decode.
-/
namespace Go.Proofs.YthjmpiekjfnoiaaGreatDoor
open Go.RowKit

theorem src_zeros (w : World) (n : Nat) : SrcI (w.alloc (.cells (zeros (.int .i64 0) n) 3)) (.slice (some ⟨w.heap.size, 0, none⟩) n n) (List.replicate n 0) := by
  refine .inr ⟨w.heap.size, 0, n, by rw [List.length_replicate], by simp, fun j x hx => ?_⟩
  obtain ⟨hj, hx'⟩ := List.getElem?_eq_some_iff.1 hx
  rw [List.length_replicate] at hj
  rw [List.getElem_replicate] at hx'
  subst hx'
  rw [Nat.zero_add]
  exact (Arr.made w 3 (.int .i64 0) n).cell (by simp [hj])

theorem run_bits {l : List Int} (h0 : ∀ x ∈ l, 0 ≤ x) : ∀ x ∈ l.take (lead 1 l), x = 0 ∨ x = 1 := fun x hx => by
  have h1 := lead_take 1 l x hx
  have h2 := h0 x (List.mem_of_mem_take hx)
  omega

set_option maxRecDepth 100000 in
set_option maxHeartbeats 1600000 in
theorem decode_any (v : Value) (m : List Int) (most : Int) (w : World) (hr : RdI w v m) (hlen : m.length ≤ 100000) (hv : ∀ x ∈ m, 0 ≤ x ∧ x ≤ 1000000) (hm1 : -9223372036854775808 ≤ most) (hm2 : most ≤ 1000000) (hne : 0 < m.length) :
    Calls Tryz.prog 20 #[v, .int .i64 most] w fun e w' => ∃ v', e = .returned (.tuple #[v', .int .i64 (decE m most)]) ∧ OwI w' w.heap.size v' (decL m most) ∧ Below w.heap.size w w' := by
  have hb : Calls Tryz.prog 46 #[v] w fun e w' => e = .returned (.bool false) ∧ w' = w := (below_any v m w hr).mono fun e w' ⟨h1, h2⟩ => by
    rw [idxP_none (fun x hx => decide_eq_false (by have := hv x hx; omega))] at h1
    exact ⟨h1, h2⟩
  have HB := hid hb
  obtain ⟨a, ca, rfl, hca, hma, hA⟩ := hr.open
  obtain ⟨b0, o0, rfl, hb0, hc0⟩ := hA hne
  have HV := hid hv
  have HA := hid hc0
  have HM0 := hid hma
  unfold maxLen at hma
  obtain ⟨M, hM1, hM2, hM3, hM4, hM5⟩ : ∃ M : Nat, (if most < 0 then 0 else most) = (M : Int) ∧ max most 0 = (M : Int) ∧ M ≤ 1000000 ∧ most ≤ (M : Int) ∧ (if 0 < most then most else 0) = (M : Int) := ⟨most.toNat, by split <;> omega, by omega, by omega, by omega, by split <;> omega⟩
  clear hr hA hv hc0 hb
  go_enter Tryz.func20, Tryz.ntmps20
  go_wp2_with fail
  refine HB.out.mono ?_
  rintro e w1 ⟨rfl, rfl⟩
  clear HB
  go_wp2_with fail
  go_loopg [0, 8, 9, 10] m.length (fun gh s0 _s8 _s9 _s10 wq => ∃ (rest pre : List Int) (off cap : Nat), s0 = .slice (some ⟨b0, off, none⟩) rest.length cap ∧ rest.length ≤ cap ∧ cap ≤ maxLen ∧ rest.length ≤ m.length ∧ gh = rest.length ∧ LayL wq w1.heap.size pre ∧ Hid (pre ++ zexp rest = zexp m) ∧ pre.length ≤ 1000001 ∧
    Below w1.heap.size w1 wq ∧ Hid (∀ j x, rest[j]? = some x → w1.cell? ⟨b0, off + j, none⟩ = some (.int .i64 x)) ∧ Hid (∀ x ∈ rest, 0 ≤ x ∧ x ≤ 1000000))
  case atStart => exact ⟨m, [], o0, ca, rfl, hca, HM0.out, Nat.le_refl _, rfl, ⟨.slice none 0 0, Arr.new w1 _ _, OwI.nil _ _⟩, hid rfl, by simp, (Below.refl _ _).alloc (Nat.le_refl _) _, HA, HV⟩
  case round =>
  obtain ⟨rest, pre, off, cap, rfl, hkc, hcm, hrm, hg, hlay, HP, hpl, hbel, HCL, HR⟩ := hrel
  have HG := hid hg
  clear hg
  by_cases hrl : 0 < rest.length
  · have hrd : RdI wr (.slice (some ⟨b0, off, none⟩) rest.length cap) rest :=
      ⟨_, _, rfl, hkc, hcm, .inr ⟨b0, off, rfl, Nat.lt_of_lt_of_le hb0 hbel.size, fun j hj => by
        rw [List.length_map] at hj
        rw [hbel.cell (p := ⟨b0, off + j, none⟩) hb0, HCL.out j _ (List.getElem?_eq_getElem hj)]
        simp [List.getD, hj]⟩⟩
    have HRD := hid hrd
    have HCM := hid hcm
    have hle := lead_le 1 rest
    obtain ⟨k, hk⟩ : ∃ k, k = lead 1 rest := ⟨_, rfl⟩
    have hzl := zexp_lead rest
    have hbits := run_bits (l := rest) (fun x hx => (HR.out x hx).1)
    rw [← hk] at hle hzl hbits
    have HK := hid hk
    obtain ⟨N, hN⟩ : ∃ N, N = num (rest.take k) := ⟨_, rfl⟩
    rw [← hN] at hzl
    have HN := hid hN
    have HZ := hid hzl
    have HBT := hid hbits
    unfold maxLen at hcm
    have hlz := hid (show (zexp m).length = pre.length + N + (zexp (rest.drop k)).length by
      rw [← HP.out, List.length_append, HZ.out, List.length_append, List.length_replicate]; omega)
    clear hrd hk hzl hbits hN
    go_wp2_with fail
    refine (row_any _ rest 1 _ HRD.out).mono ?_
    rintro e w2 ⟨rfl, h2⟩
    rw [← HK.out]
    have hlay2 := hlay.below h2
    have hB2 := belT hbel h2
    have HSUB := hid (show RdI w2 (.slice (some ⟨b0, off, none⟩) k cap) (rest.take k) by
      have := sub_src (w := w2) (b := b0) (off := off) (cap := cap) (Nat.lt_of_lt_of_le hb0 hB2.size) (fun j x hx => by rw [hB2.cell (p := ⟨b0, off + j, none⟩) hb0]; exact HCL.out j x hx) 0 k (by omega) hkc HCM.out
      simpa using this)
    clear hlay hbel HRD h2
    go_wp2_with fail
    refine (number_any _ (rest.take k) _ HSUB.out (by rw [List.length_take]; omega) HBT.out).mono ?_
    rintro e w3 ⟨rfl, h3⟩
    have hlay3 := hlay2.below h3
    have hB3 := belT hB2 h3
    clear hlay2 hB2 h3
    obtain ⟨lv, harr, hown⟩ := hlay3
    obtain ⟨la, lc, rfl, hlc, hlm, _⟩ := hown.rd.open
    have c1 := harr.cell (i := 0) rfl
    have hlay3 : LayL w3 w1.heap.size pre := ⟨_, harr, hown⟩
    unfold maxLen at hlm
    by_cases hbig : N ≤ 1099511627776
    · have nv : numV (rest.take k) = (N : Int) := by unfold numV; rw [← HN.out, if_pos hbig]
      have ne : numE (rest.take k) = 0 := by unfold numE; rw [← HN.out, if_pos hbig]
      rw [nv, ne]
      clear nv ne
      by_cases hlong : (M : Int) - (pre.length : Int) < (N : Int)
      · have t6 : decide ((M : Int) - (pre.length : Int) < (N : Int)) = true := decide_eq_true hlong
        go_wp2_with fail
        go_ret2
        have e1 : ¬ ((zexp m).length : Int) ≤ most := by have := hlz.out; omega
        obtain ⟨d1, d2⟩ := decNo e1
        rw [d1, d2]
        exact ⟨_, rfl, OwI.nil _ _, hB3⟩
      · have t6 : decide ((M : Int) - (pre.length : Int) < (N : Int)) = false := decide_eq_false hlong
        go_wp2_with (at_make; refine mkA elInt rfl _ _ rfl N rfl rfl ?_ ?_; omega)
        refine (lay_any w1.heap.size _ pre (List.replicate N 0) _ (hlay3.below ((Below.refl _ _).alloc (Nat.le_refl _) _)) (src_zeros _ _) (by rw [List.length_replicate]; omega)).mono ?_
        rintro e w4 ⟨rfl, hlay4, h4⟩
        have hB4 := (belA hB3 _).trans h4
        have hl4 : (pre ++ List.replicate N (0 : Int)).length = pre.length + N := by simp
        have HL4 := hid hl4
        clear hlay3 harr hown c1 h4 hB3 hl4 t6
        by_cases hend : k = rest.length
        · have hnew := hid (show (pre ++ List.replicate N 0) ++ zexp [] = zexp m by
            have := HZ.out
            rw [List.drop_of_length_le (by omega)] at this
            rw [List.append_assoc, ← this]; exact HP.out)
          have d1 : decide (0 < rest.length - k) = false := decide_eq_false (by omega)
          have e0 : rest.length - k = 0 := by omega
          by_cases hcn : cap = k
          all_goals
            go_wp2_with fail
            have hg := HG.out
            go_roundg 0
            case measure => omega
            case rel => exact ⟨[], _, _, _, rfl, Nat.zero_le _, by unfold maxLen; omega, Nat.zero_le _, rfl, hlay4, hnew, by rw [HL4.out]; omega, hB4, hid (fun j x hx => by simp at hx), hid (fun x hx => by simp at hx)⟩
        · have hml : k < rest.length := by omega
          obtain ⟨x, hx⟩ := getI hml
          have hxb := HR.out x (List.mem_of_getElem? hx)
          have hx1 : 1 < x := lead_at 1 rest (by rw [← HK.out]; exact hx)
          have c1 : w4.cell? ⟨b0, off + k, none⟩ = some (.int .i64 x) := by
            rw [hB4.cell (p := ⟨b0, off + k, none⟩) hb0]; exact HCL.out k x hx
          have hnew := hid (show ((pre ++ List.replicate N 0) ++ [x - 1]) ++ zexp (rest.drop (k + 1)) = zexp m by
            have := HZ.out
            rw [List.drop_eq_getElem_cons hml, (List.getElem?_eq_some_iff.1 hx).2, zexp_sym hx1] at this
            rw [List.append_assoc, List.append_assoc, List.singleton_append, ← this]; exact HP.out)
          have d1 : decide (0 < rest.length - k) = true := decide_eq_true (by omega)
          have d2 : 0 < rest.length - k := by omega
          have hcn : ¬ cap = k := by omega
          have hl := hid (show rest.length - k - 1 = (rest.drop (k + 1)).length by rw [List.length_drop]; omega)
          have hR' : Hid (∀ x ∈ rest.drop (k + 1), 0 ≤ x ∧ x ≤ 1000000) := hid (fun y hy => HR.out y (List.mem_of_mem_drop hy))
          have HE := hid hend
          clear hx hend
          by_cases hc1 : cap - k = 1
          all_goals
            go_wp2_with fail
            refine (lay_any w1.heap.size _ (pre ++ List.replicate N 0) [x - 1] _ (hlay4.below ((Below.refl _ _).alloc (Nat.le_refl _) _)) (src_new _ _ _) (by rw [HL4.out, List.length_singleton]; omega)).mono ?_
            rintro e w5 ⟨rfl, hlay5, h5⟩
            have hB5 := (belA hB4 _).trans h5
            go_wp2_with fail
            rw [hl.out]
            have hg := HG.out
            go_roundg (rest.drop (k + 1)).length
            case measure => rw [List.length_drop]; omega
          · refine ⟨rest.drop (k + 1), _, off + k, 0, rfl, by rw [List.length_drop]; omega, by simp [maxLen], by rw [List.length_drop]; omega, rfl, hlay5, hnew, by rw [List.length_append, HL4.out, List.length_singleton]; omega, hB5, hid (fun j y hy => ?_), hR'⟩
            rw [List.drop_of_length_le (by omega)] at hy; simp at hy
          · refine ⟨rest.drop (k + 1), _, off + k + 1, cap - k - 1, rfl, by rw [List.length_drop]; omega, by unfold maxLen; omega, by rw [List.length_drop]; omega, rfl, hlay5, hnew, by rw [List.length_append, HL4.out, List.length_singleton]; omega, hB5, hid (fun j y hy => ?_), hR'⟩
            have := RdI.dropS HCL.out (k + 1) j y hy
            rw [Nat.add_assoc off k 1]; exact this
    · have ne : numE (rest.take k) = 4 := by unfold numE; rw [← HN.out, if_neg hbig]
      rw [ne]
      clear ne
      go_wp2_with fail
      go_ret2
      have e1 : ¬ ((zexp m).length : Int) ≤ most := by have := hlz.out; omega
      obtain ⟨d1, d2⟩ := decNo e1
      rw [d1, d2]
      exact ⟨_, rfl, OwI.nil _ _, hB3⟩
  · have hre : rest = [] := List.eq_nil_of_length_eq_zero (by omega)
    subst hre
    obtain ⟨lv, harr, hown⟩ := hlay
    obtain ⟨la, lc, rfl, hlc, hlm, _⟩ := hown.rd.open
    have c1 := harr.cell (i := 0) rfl
    unfold maxLen at hlm
    have hie := hid (show pre = zexp m by have := HP.out; rw [show zexp [] = [] from rfl, List.append_nil] at this; exact this)
    by_cases hlong : most < (pre.length : Int)
    · have t6 : decide (most < (pre.length : Int)) = true := decide_eq_true hlong
      go_wp2_with fail
      go_ret2
      have e1 : ¬ ((zexp m).length : Int) ≤ most := by rw [← hie.out]; omega
      obtain ⟨d1, d2⟩ := decNo e1
      rw [d1, d2]
      exact ⟨_, rfl, OwI.nil _ _, hbel⟩
    · have t6 : decide (most < (pre.length : Int)) = false := decide_eq_false hlong
      go_wp2_with fail
      go_ret2
      have e1 : ((zexp m).length : Int) ≤ most := by rw [← hie.out]; omega
      obtain ⟨d1, d2⟩ := decYes e1
      rw [d1, d2, ← hie.out]
      exact ⟨_, rfl, Ow.base hown (Nat.le_succ _), hbel⟩

end Go.Proofs.YthjmpiekjfnoiaaGreatDoor

/-
  The walks of sort, by ranks; of nothing, too.
-/
namespace Go.Proofs.YthjmpiekjfnoiaaGreatDoor
open Go.RowKit

set_option maxRecDepth 100000 in
set_option maxHeartbeats 800000 in
theorem insertion_nil (p : Option Addr) (cap : Nat) (cv : Value) (w : World) :
    Calls Tryz.prog 117 #[.slice p 0 cap, .int .i64 0, .int .i64 0, cv] w fun e w' => e = .returned (.tuple #[]) ∧ w = w' := by
  go_enter Tryz.func117, Tryz.ntmps117
  go_wp2
  go_loopg [8] 0 (fun _gh i wr => i = .int .i64 1 ∧ w = wr)
  case atStart => exact ⟨rfl, rfl⟩
  case round =>
    obtain ⟨rfl, rfl⟩ := hrel
    go_wp2
    go_end0
    exact ⟨rfl, rfl⟩

set_option maxRecDepth 100000 in
set_option maxHeartbeats 800000 in
theorem stable_nil (p : Option Addr) (cap : Nat) (cv : Value) (w : World) :
    Calls Tryz.prog 109 #[.slice p 0 cap, .int .i64 0, cv] w fun e w' => e = .returned (.tuple #[]) ∧ w = w' := by
  go_enter Tryz.func109, Tryz.ntmps109
  go_wp2
  go_loopg [7, 8] 0 (fun _gh i j wr => i = .int .i64 0 ∧ j = .int .i64 20 ∧ w = wr)
  case atStart => exact ⟨rfl, rfl, rfl⟩
  case round =>
    obtain ⟨rfl, rfl, rfl⟩ := hrel
    go_wp2_with fail
    refine (insertion_nil p cap cv w).mono ?_
    rintro e w1 ⟨rfl, rfl⟩
    go_wp2_with fail
    go_loopg [6, 7, 8, 9] 0 (fun _gh s6 _s7 _s8 _s9 wr => s6 = .int .i64 20 ∧ w = wr)
    case atStart => exact ⟨rfl, rfl⟩
    case round =>
      obtain ⟨rfl, rfl⟩ := hrel
      go_wp2_with fail
      go_end0
      exact ⟨rfl, rfl⟩

set_option maxRecDepth 100000 in
theorem sortStable_nil (p : Option Addr) (cap : Nat) (cv : Value) (w : World) :
    Calls Tryz.prog 92 #[.slice p 0 cap, cv] w fun e w' => e = .returned (.tuple #[]) ∧ w = w' := by
  go_enter Tryz.func92, Tryz.ntmps92
  go_wp2_with fail
  refine (stable_nil p cap cv w).mono ?_
  rintro e w1 ⟨rfl, rfl⟩
  go_wp2
  go_end0
  exact ⟨rfl, rfl⟩

set_option maxRecDepth 100000 in
theorem sort_nil (p : Option Addr) (cap : Nat) (t : TypeId) (rv : Value) (w : World) :
    Calls Tryz.prog 79 #[.slice p 0 cap, .iface t rv] w fun e w' => e = .returned (.tuple #[]) ∧ Below w.heap.size w w' := by
  go_enter Tryz.func79, Tryz.ntmps79
  go_wp2_with fail
  refine (sortStable_nil p cap _ _).mono ?_
  rintro e w1 ⟨rfl, rfl⟩
  go_wp2
  go_end0
  exact ⟨rfl, belowNew _ _⟩

/-- What the comparison says: the first of two is less by its first bytes. -/
noncomputable def kltB (c : Nat → Nat) (m : Nat) (x y : Int) : Bool := @decide (ltm c m x.toNat y.toNat) (Classical.propDecidable _)
theorem kltB_iff (c : Nat → Nat) (m : Nat) (x y : Int) : kltB c m x y = true ↔ ltm c m x.toNat y.toNat := by unfold kltB; exact @decide_eq_true_iff _ (Classical.propDecidable _)
theorem kltB_cmp (c : Nat → Nat) (m : Nat) : Cmp (bef c m) (kltB c m) :=
  ⟨bef_strict c m, fun x y hxy => by
    rw [kltB_iff]
    unfold bef
    constructor
    · exact .inl
    · rintro (h | ⟨_, h⟩)
      · exact h
      · omega⟩

theorem cmpOK_of {s : ByteArray} {b g bx n M : Nat} {r : Nat → Int} {w : World} {c : Nat → Nat} (hs : s.size = n) (hn : n ≤ 1000000) (hM : M ≤ 4000000) (hr : Arr w b 3 (tab n r)) (hbg : b ≠ g) (hbx : bx ≠ g) (hb : w.cell? ⟨bx, 0, none⟩ = some (sorterV s b n M))
    (hc : Cyc c n) (hk : RankOK c n (max M 1) r) : CmpOK w g n bx (kltB c (max (2 * M) 1)) := by
  intro W hW x y hx0 hx1 hy0 hy1
  have ex : ((x.toNat : Nat) : Int) = x := by omega
  have ey : ((y.toNat : Nat) : Int) = y := by omega
  have hlt := World.block_lt_of_cell? w _ hb
  have hcell : W.cell? ⟨bx, 0, none⟩ = some (sorterV s b n M) := by
    rw [← hb]
    exact World.cell?_of_block (w := w) (hW.block bx hlt (fun e => hbx (by have := Option.some.inj e; omega)))
  have hA : Arr W b 3 (tab n r) := hr.grown hW (fun e => hbg (by have := Option.some.inj e; omega))
  have := cmpFn_any s b bx n M x.toNat y.toNat r W hs hn hM (by omega) (by omega) hA hcell
  rw [ex, ey] at this
  refine this.mono ?_
  rintro e w' ⟨rfl, hbel⟩
  refine ⟨_, rfl, ?_, hbel⟩
  rw [cmpI_eq]
  have sp := (kcmp_spec (x := x.toNat) (y := y.toNat) hc hk (by omega) (by omega)).1
  by_cases h : ltm c (max (2 * M) 1) x.toNat y.toNat
  · rw [(kltB_iff _ _ _ _).2 h]; exact decide_eq_true (sp.2 h)
  · have : kltB c (max (2 * M) 1) x y = false := by
      cases hk' : kltB c (max (2 * M) 1) x y with
      | false => rfl
      | true => exact absurd ((kltB_iff _ _ _ _).1 hk') h
    rw [this]; exact decide_eq_false (fun h' => h (sp.1 h'))

set_option maxRecDepth 100000 in
theorem sort_any (s : ByteArray) (b g cap n M : Nat) (r : Nat → Int) (w : World) (c : Nat → Nat) (hs : s.size = n) (hn : n ≤ 1000000) (hM : M ≤ 4000000) (hr : Arr w b 3 (tab n r)) (hbg : b ≠ g) (hd : Dat w g cap n (fun k => (k : Int))) (hcap : cap ≤ maxLen)
    (hc : Cyc c n) (hk : RankOK c n (max M 1) r) :
    Calls Tryz.prog 79 #[.slice (some ⟨g, 0, none⟩) n cap, sorterV s b n M] w fun e w' =>
      e = .returned (.tuple #[]) ∧ (∃ h, Ord c n (max (2 * M) 1) h ∧ Dat w' g cap n h) ∧ w.grownBy w' (some g) := by
  have hg := hd.lt
  have hN := belowNew w (.cells #[sorterV s b n M] 145)
  have hok := cmpOK_of (bx := w.heap.size) hs hn hM (hr.alloc (.cells #[sorterV s b n M] 145)) hbg (by omega) (newc w (sorterV s b n M) 145) hc hk
  have hst := sortStable_any g cap n w.heap.size (fun k => (k : Int)) _ (bef c (max (2 * M) 1)) _ (hd.below hN hg) hn hcap (fun k hk => by show 0 ≤ (k : Int) ∧ (k : Int) < (n : Int); omega) (fun i j _ h2 _ => by show (i : Int) < (j : Int); omega) hok (kltB_cmp c _)
  unfold maxLen at hcap
  unfold cmpV at hst
  have HST := hid hst
  have HN := hid hN
  have HD := hid hd
  clear hst hok hN hk hc hr hd
  unfold sorterV at HST HN ⊢
  obtain ⟨rv, hrv⟩ : ∃ rv, rv = ranksV s b n M := ⟨_, rfl⟩
  rw [← hrv] at HST HN ⊢
  clear hrv
  go_enter Tryz.func79, Tryz.ntmps79
  go_wp2_with fail
  refine HST.out.mono ?_
  rintro e w1 ⟨rfl, ⟨h, hB, hD⟩, hG⟩
  go_wp2
  go_end0
  refine ⟨rfl, ⟨h, ⟨fun k hk => ?_, hB.srt⟩, hD⟩, gTrans (gBelow HN.out) hG⟩
  obtain ⟨k', _, p2, p3⟩ := hB.frm k (Nat.zero_le _) hk
  rw [p3]; show 0 ≤ (k' : Int) ∧ (k' : Int) < (n : Int); omega

end Go.Proofs.YthjmpiekjfnoiaaGreatDoor

/-
  The library's sort of integers, on places in any order; rows owned, and known by a function of the place.
-/
namespace Go.Proofs.YthjmpiekjfnoiaaGreatDoor
open Go.RowKit

def outL (n : Nat) (o : Nat → Int) : List Int := (List.range n).map o
theorem outL_length (n : Nat) (o : Nat → Int) : (outL n o).length = n := by simp [outL]
theorem outL_get (n : Nat) (o : Nat → Int) (k : Nat) (h : k < n) : (outL n o)[k]? = some (o k) := by simp [outL, h]
theorem outL_succ (n : Nat) (o : Nat → Int) : outL (n + 1) o = outL n o ++ [o n] := by simp [outL, List.range_succ]
theorem outL_congr {n : Nat} {o o' : Nat → Int} (h : ∀ k, k < n → o k = o' k) : outL n o = outL n o' := by
  unfold outL
  exact List.map_congr_left (fun k hk => h k (by simpa using hk))
theorem outL_of (l : List Int) : outL l.length (fun k => l.getD k 0) = l := by
  apply List.ext_getElem?
  intro k
  by_cases h : k < l.length
  · rw [outL_get _ _ _ h]; simp [List.getD, List.getElem?_eq_getElem h]
  · rw [List.getElem?_eq_none (by rw [outL_length]; omega), List.getElem?_eq_none (by omega)]

theorem take_of_cells {cur : Array Value} {n : Nat} {f : Nat → Int} (hn : n ≤ cur.size) (h : ∀ k, k < n → cur[k]? = some (.int .i64 (f k))) : cur.toList.take n = (outL n f).map (Value.int .i64) := by
  apply List.ext_getElem?
  intro k
  by_cases hk : k < n
  · rw [List.getElem?_take_of_lt hk, Array.getElem?_toList, h k hk, List.getElem?_map, outL_get _ _ _ hk]; rfl
  · rw [List.getElem?_eq_none (by simp; omega), List.getElem?_eq_none (by simp [outL]; omega)]

theorem dat_of_own {w : World} {B : Nat} {v : Value} {l : List Int} (h : OwI w B v l) (hl : l ≠ []) :
    ∃ g cap, v = .slice (some ⟨g, 0, none⟩) l.length cap ∧ B ≤ g ∧ Dat w g cap l.length (fun k => l.getD k 0) ∧ cap ≤ maxLen := by
  obtain ⟨hlen, h⟩ := h
  rw [List.length_map] at h
  rcases h with ⟨rfl, hn⟩ | ⟨g, cap, cur, rfl, hb, hg, hnc, hcm, hcs, ht⟩
  · exact absurd (by cases l with | nil => rfl | cons x l => simp at hn) hl
  · refine ⟨g, cap, rfl, hb, ⟨cur, hg, by omega, hnc, fun k hk => ?_⟩, hcm⟩
    have : (cur.toList.take l.length)[k]? = (l.map (Value.int .i64))[k]? := by rw [← ht, Nat.mul_one]
    rw [List.getElem?_take_of_lt hk, Array.getElem?_toList] at this
    rw [this]; simp [List.getD, List.getElem?_eq_getElem hk]

theorem own_of_dat {w : World} {B g cap n : Nat} {f : Nat → Int} (h : Dat w g cap n f) (hB : B ≤ g) (hcap : cap ≤ maxLen) : OwI w B (.slice (some ⟨g, 0, none⟩) n cap) (outL n f) := by
  obtain ⟨cur, hg, hs, hn, hc⟩ := h
  refine ⟨(Nat.mul_one _).symm, .inr ⟨g, cap, cur, by rw [List.length_map, outL_length], hB, hg, by rw [List.length_map, outL_length]; exact hn, hcap, by omega, ?_⟩⟩
  rw [List.length_map, outL_length, Nat.mul_one]
  exact take_of_cells (by omega) hc

theorem Dat.other {w : World} {g cap n : Nat} {f : Nat → Int} (h : Dat w g cap n f) (p : Addr) (hp : p.block ≠ g) (v : Value) : Dat (w.setCell p v) g cap n f := by
  obtain ⟨cur, h, hr⟩ := h
  exact ⟨cur, by rw [Below.heap_setCell w p v g (fun e => hp e.symm)]; exact h, hr⟩

theorem sorted_id {n : Nat} {o : Nat → Int} (hr : ∀ k, k < n → 0 ≤ o k ∧ o k < (n : Int)) (hne : ∀ i j, i < j → j < n → o i ≠ o j) :
    (outL n o).mergeSort (fun x y => decide (x ≤ y)) = outL n (fun k => (k : Int)) := by
  obtain ⟨l, hl⟩ : ∃ l, l = (outL n o).mergeSort (fun x y => decide (x ≤ y)) := ⟨_, rfl⟩
  rw [← hl]
  have hp : l.Perm (outL n o) := by rw [hl]; exact List.mergeSort_perm _ _
  have hs : l.Pairwise (fun x y => decide (x ≤ y) = true) := by
    rw [hl]
    exact List.pairwise_mergeSort (fun a b c h1 h2 => by simp at *; omega) (fun a b => by simp; omega) _
  have hlen : l.length = n := by rw [hp.length_eq, outL_length]
  have hnd : l.Nodup := by
    rw [hp.nodup_iff]
    unfold outL List.Nodup
    rw [List.pairwise_map]
    refine List.Pairwise.imp_of_mem ?_ List.pairwise_lt_range
    intro a b ha hb hab
    exact hne a b hab (by simpa using hb)
  have hmem : ∀ k, k < n → 0 ≤ l.getD k 0 ∧ l.getD k 0 < (n : Int) := by
    intro k hk
    have hk' : k < l.length := by omega
    have h1 : l.getD k 0 ∈ l := by simp [List.getD, List.getElem?_eq_getElem hk']
    have h2 := hp.mem_iff.1 h1
    unfold outL at h2
    obtain ⟨i, hi, e⟩ := List.mem_map.1 h2
    rw [← e]; exact hr i (by simpa using hi)
  have hst : ∀ k, k + 1 < n → l.getD k 0 < l.getD (k + 1) 0 := by
    intro k hk
    have a1 : k < l.length := by omega
    have a2 : k + 1 < l.length := by omega
    have h1 := List.pairwise_iff_getElem.1 hs k (k + 1) a1 a2 (by omega)
    have h2 := List.pairwise_iff_getElem.1 hnd k (k + 1) a1 a2 (by omega)
    simp only [decide_eq_true_eq] at h1
    simp only [List.getD, List.getElem?_eq_getElem a1, List.getElem?_eq_getElem a2, Option.getD_some]
    omega
  have key := rise_id hmem hst
  rw [← outL_of l, hlen]
  exact outL_congr key

theorem sortInts_any (g cap n : Nat) (o : Nat → Int) (w : World) (hd : Dat w g cap n o) (hn : n ≤ 1000000) (hr : ∀ k, k < n → 0 ≤ o k ∧ o k < (n : Int)) (hne : ∀ i j, i < j → j < n → o i ≠ o j) :
    Calls Tryz.prog 78 #[.slice (some ⟨g, 0, none⟩) n cap] w fun e w' => e = .returned (.tuple #[]) ∧ Dat w' g cap n (fun k => (k : Int)) ∧ w.grownBy w' (some g) := by
  obtain ⟨cur, hg, hs, hnc, hc⟩ := hd
  have ht := take_of_cells (by omega) hc
  have hH : Go.Sort.Holds (Value.int .i64) w g 0 (outL n o).toArray := holds_of_blockI hg (by rw [outL_length]; exact ht)
  have hlt : g < w.heap.size := (Array.getElem?_eq_some_iff.1 hg).1
  have h := Tryz.slices_Sort_int g 0 cap (outL n o) w hH hlt (by rw [outL_length]; omega)
  rw [outL_length, sorted_id hr hne] at h
  refine h.mono ?_
  rintro e w' ⟨rfl, m, os, rfl⟩
  refine ⟨rfl, ?_, grownBy_sortedI _⟩
  refine ⟨_, heap_sortedI _ hg, by simp [Go.Sort.putCells, hs], hnc, fun k hk => ?_⟩
  have := take_putCellsI cur (outL n (fun k => (k : Int))) (by rw [outL_length]; omega)
  have e := congrArg (fun l => l[k]?) this
  rw [outL_length, List.getElem?_take_of_lt hk, Array.getElem?_toList] at e
  rw [e, List.getElem?_map, outL_get _ _ _ hk]; rfl

/-- The ranks that a round tells, by the place in the order. -/
noncomputable def vr (c : Nat → Nat) (m : Nat) (o : Nat → Int) : Nat → Int
  | 0 => 0
  | i + 1 => vr c m o i + @ite _ (eqm c m (o i).toNat (o (i + 1)).toNat) (Classical.propDecidable _) 0 1
theorem vr_step (c : Nat → Nat) (m : Nat) (o : Nat → Int) (i : Nat) : (eqm c m (o i).toNat (o (i + 1)).toNat ∧ vr c m o (i + 1) = vr c m o i) ∨ (¬ eqm c m (o i).toNat (o (i + 1)).toNat ∧ vr c m o (i + 1) = vr c m o i + 1) := by
  by_cases h : eqm c m (o i).toNat (o (i + 1)).toNat
  · exact .inl ⟨h, by rw [vr, @if_pos _ (Classical.propDecidable _) h]; omega⟩
  · exact .inr ⟨h, by rw [vr, @if_neg _ (Classical.propDecidable _) h]⟩
theorem vr_bd (c : Nat → Nat) (m : Nat) (o : Nat → Int) : ∀ i, 0 ≤ vr c m o i ∧ vr c m o i ≤ (i : Int) := by
  intro i
  induction i with
  | zero => exact ⟨Int.le_refl _, Int.le_refl _⟩
  | succ i ih => rcases vr_step c m o i with h | h <;> omega

/-- The cyclic bytes of a text. -/
def cycf (s : ByteArray) (i : Nat) : Nat := (s.data.toList.getD (i % s.size) 0).toNat
theorem cycf_cyc (s : ByteArray) : Cyc (cycf s) s.size := fun i => by unfold cycf; rw [Nat.add_mod_right]
theorem cycf_small (s : ByteArray) {i : Nat} (h : i < s.size) : cycf s i = (s.data.toList.getD i 0).toNat := by unfold cycf; rw [Nat.mod_eq_of_lt h]
theorem rank0 (s : ByteArray) : RankOK (cycf s) s.size 1 (fun k => (cycf s k : Int)) := by
  intro a b _ _
  constructor
  · intro h; exact ⟨0, by omega, fun u hu => by omega, by simp only [Nat.add_zero]; have h' : (cycf s a : Int) < (cycf s b : Int) := h; omega⟩
  · rintro ⟨t, t1, _, t3⟩
    have : t = 0 := by omega
    subst this
    simp only [Nat.add_zero] at t3
    show (cycf s a : Int) < (cycf s b : Int)
    omega

end Go.Proofs.YthjmpiekjfnoiaaGreatDoor

/-
  The walk of Order, of the empty text.
-/
namespace Go.Proofs.YthjmpiekjfnoiaaGreatDoor
open Go.RowKit

theorem empty_of {s : ByteArray} (h : s.size = 0) : s = mkS [] := by
  apply eq_mkS
  apply List.eq_nil_of_length_eq_zero
  simpa using h

set_option maxRecDepth 100000 in
set_option maxHeartbeats 1600000 in
theorem order_nil (w : World) :
    Calls Tryz.prog 51 #[.string (mkS [])] w fun e w' => e = .returned (.slice none 0 0) ∧ Below w.heap.size w w' := by
  have hz : (mkS []).size = 0 := rfl
  obtain ⟨s, hs⟩ : ∃ s, s = mkS [] := ⟨_, rfl⟩
  rw [← hs] at hz ⊢
  clear hs
  go_enter Tryz.func51, Tryz.ntmps51
  go_wp2_with (at_make; refine mkA elInt rfl _ _ rfl 0 rfl rfl ?_ ?_; omega)
  go_loopg [2, 4, 15] 0 (fun _gh s2 _s4 s15 wr => s15 = .int .i64 0 ∧ s2 = .slice none 0 0 ∧
      Arr wr (w.heap.size + 1) 120 [.string s, .slice (some ⟨w.heap.size, 0, none⟩) 0 0, .int .i64 0] ∧
      Below w.heap.size w wr ∧ w.heap.size + 2 ≤ wr.heap.size)
  case atStart =>
    refine ⟨rfl, rfl, ?_, (belowNew _ _).trans ((Below.refl _ _).alloc (by simp) _), by simp⟩
    have := Arr.new (w.alloc (.cells (zeros (.int .i64 0) 0) 3)) 120 [.string s, .slice (some ⟨w.heap.size, 0, none⟩) 0 0, .int .i64 0]
    rwa [World.size_alloc] at this
  case round =>
    obtain ⟨rfl, rfl, hst, hbel, hsz⟩ := hrel
    obtain ⟨wo, rfl⟩ : ∃ wo : World, wo = wr := ⟨_, rfl⟩
    go_wp2_with fail
    go_loopg [2, 5, 6] 0 (fun _gh s2 _s5 _s6 wr => s2 = .slice none 0 0 ∧ wo = wr)
    case atStart => exact ⟨rfl, rfl⟩
    case round =>
      obtain ⟨rfl, rfl⟩ := hrel
      go_wp2_with fail
      refine (Tryz.slices_Sort_int_none none 0 _).mono ?_
      rintro e w1 ⟨rfl, h⟩
      subst h
      have c0 := hst.cell (i := 0) rfl
      have c1 := hst.cell (i := 1) rfl
      have c2 := hst.cell (i := 2) rfl
      go_wp2_with fail
      refine (sort_nil none 0 _ _ _).mono ?_
      rintro e w2 ⟨rfl, hb2⟩
      have hst2 := hst.below hb2 hst.lt
      have hbel2 := hbel.trans (hb2.mono hbel.size)
      have hsz2 := hb2.size
      clear hst hbel c0 c1 c2
      go_wp2_with (at_make; refine mkA elInt rfl _ _ rfl 0 rfl rfl ?_ ?_; omega)
      go_loopg [6] 0 (fun _gh s6 wr => s6 = .int .i64 1 ∧ Arr wr (w.heap.size + 1) 120 [.string s, .slice (some ⟨w.heap.size, 0, none⟩) 0 0, .int .i64 0] ∧ Below w.heap.size w wr)
      case atStart => exact ⟨rfl, hst2.alloc _, hbel2.alloc hbel2.size _⟩
      case round =>
        obtain ⟨rfl, hst, hbel⟩ := hrel
        have c0 := hst.cell (i := 0) rfl
        have c1 := hst.cell (i := 1) rfl
        have c2 := hst.cell (i := 2) rfl
        have f1 := hst.free 1
        have f2 := hst.free 2
        go_wp2_with fail
        go_ret
        exact ⟨rfl, (hbel.setCell (by show w.heap.size ≤ w.heap.size + 1; omega) _).setCell (by show w.heap.size ≤ w.heap.size + 1; omega) _⟩

end Go.Proofs.YthjmpiekjfnoiaaGreatDoor

/-
  The walk of Order: ranks by the first byte, and then by twice as many ones again and again.
-/
namespace Go.Proofs.YthjmpiekjfnoiaaGreatDoor
open Go.RowKit

theorem tab_congr {n : Nat} {f f' : Nat → Int} (h : ∀ d, d < n → f d = f' d) : tab n f = tab n f' := List.map_congr_left (fun d hd => by rw [h d (by simpa using hd)])

theorem cycf_at (s : ByteArray) {k : Nat} (h : k < s.size) : cycf s k = s[k].toNat := by
  rw [cycf_small s h]; simp [List.getD, byteAt s k h]

set_option maxRecDepth 100000 in
set_option maxHeartbeats 1600000 in
theorem order_some (s : ByteArray) (w : World) (hn : s.size ≤ 1000000) (hpos : 0 < s.size) :
    Calls Tryz.prog 51 #[.string s] w fun e w' => ∃ v o, e = .returned v ∧ Ord (cycf s) s.size s.size o ∧ OwI w' w.heap.size v (outL s.size o) ∧ Below w.heap.size w w' := by
  go_enter Tryz.func51, Tryz.ntmps51
  go_wp2_with (at_make; refine mkA elInt rfl _ _ rfl s.size rfl rfl ?_ ?_; omega)
  go_loopg [2, 4, 15] s.size (fun gh s2 _s4 s15 wr => ∃ k : Nat, k ≤ s.size ∧ gh = s.size - k ∧ s15 = .int .i64 k ∧ (k = 0 → s2 = .slice none 0 0) ∧ OwI wr (w.heap.size + 2) s2 (outL k (fun d => (d : Int))) ∧
      Arr wr w.heap.size 3 (tab s.size (fun d => if d < k then (cycf s d : Int) else 0)) ∧ Arr wr (w.heap.size + 1) 120 [.string s, .slice (some ⟨w.heap.size, 0, none⟩) s.size s.size, .int .i64 0] ∧
      Below w.heap.size w wr ∧ w.heap.size + 2 ≤ wr.heap.size)
  case atStart =>
    refine ⟨0, Nat.zero_le _, rfl, rfl, fun _ => rfl, OwI.nil _ _, ?_, ?_, (belowNew _ _).trans ((Below.refl _ _).alloc (by simp) _), by simp⟩
    · have := (Arr.made w 3 (.int .i64 0) s.size).alloc (.cells #[.string s, .slice (some ⟨w.heap.size, 0, none⟩) s.size s.size, .int .i64 0] 120)
      rw [tab_zero] at this
      have e : (fun d => if d < 0 then (cycf s d : Int) else 0) = fun _ => (0 : Int) := by funext d; simp
      rw [e]; exact this
    · have := Arr.new (w.alloc (.cells (zeros (.int .i64 0) s.size) 3)) 120 [.string s, .slice (some ⟨w.heap.size, 0, none⟩) s.size s.size, .int .i64 0]
      rwa [World.size_alloc] at this
  case round =>
    obtain ⟨k, hk, hg, rfl, hnil, hown, hrk, hst, hbel, hsz⟩ := hrel
    have HG := hid hg
    have HNIL := hid hnil
    clear hg hnil
    by_cases hlt : k < s.size
    · have hb : s[k].toNat < 256 := s[k].toNat_lt
      have HB := hid (cycf_at s hlt)
      go_wp2_with (at_builtin; refine appI rfl _ _ rfl (w.heap.size + 2) _ _ rfl (hown.alloc _) wr.heap.size (k : Int) rfl ?_ ?_ ?_ ?_; (exact newc _ _ _); (rw [outL_length]; omega); (simp; omega); intro v' w1 hown' hB hgrow; (have hrk1 := (hrk.alloc (.cells #[.int .i64 (k : Int)] 3)).below hB (by omega)); (have hst1 := (hst.alloc (.cells #[.int .i64 (k : Int)] 3)).below hB (by omega)))
      have c1 : w1.cell? ⟨w.heap.size + 1, 1, none⟩ = some (.slice (some ⟨w.heap.size, 0, none⟩) s.size s.size) := hst1.cell rfl
      have c2 := hrk1.cell (tab_get s.size (fun d => if d < k then (cycf s d : Int) else 0) k hlt)
      have f1 := hrk1.free k
      have hsz1 := hB.size
      rw [World.size_alloc] at hsz1
      go_region
      all_goals go_wp2
      have hg := HG.out
      go_roundg (s.size - (k + 1))
      case measure => omega
      case rel =>
        refine ⟨k + 1, by omega, rfl, by go_num, fun h => by omega, ?_, ?_, ?_, ?_, ?_⟩
        · rw [outL_succ]
          exact Ow.drewN (ownsRow_setCell_below hown' (by show w.heap.size < _; omega) _) 1
        · have e := tab_set s.size (fun d => if d < k then (cycf s d : Int) else 0) (fun d => if d < k + 1 then (cycf s d : Int) else 0) k (s[k].toNat : Int) (fun d _ => by
            by_cases h1 : d = k
            · rw [if_pos h1, h1]; show (if k < k + 1 then (cycf s k : Int) else 0) = _; rw [if_pos (by omega), HB.out]
            · rw [if_neg h1]
              by_cases h2 : d < k
              · show (if d < k + 1 then (cycf s d : Int) else 0) = (if d < k then (cycf s d : Int) else 0); rw [if_pos (by omega), if_pos h2]
              · show (if d < k + 1 then (cycf s d : Int) else 0) = (if d < k then (cycf s d : Int) else 0); rw [if_neg (by omega), if_neg h2])
          rw [← e]
          exact (hrk1.set k _).drewN 1
        · exact (hst1.other ⟨w.heap.size, k, none⟩ (by simp) _).drewN 1
        · exact (((hbel.alloc (by omega) _).trans (hB.mono (by omega))).setCell (Nat.le_refl _) _).drew
        · show w.heap.size + 2 ≤ (w1.setCell _ _).heap.size
          exact Nat.le_trans (by omega) (gSet w1 _ _ _).size
    · have hke : k = s.size := by omega
      subst hke
      have hrk' : Arr wr w.heap.size 3 (tab s.size (fun d => (cycf s d : Int))) := by
        rw [tab_congr (f' := fun d => if d < s.size then (cycf s d : Int) else 0) (fun d hd => (if_pos hd).symm)]; exact hrk
      clear hrk hlt
      rcases Nat.eq_zero_or_pos s.size with h0 | h0
      · omega
      · obtain ⟨g, cap, hv, hBg, hd, hcap⟩ := dat_of_own hown (by intro e; have := congrArg List.length e; rw [outL_length, List.length_nil] at this; omega)
        subst hv
        rw [outL_length] at hd ⊢
        have hd' : Dat wr g cap s.size (fun d => (d : Int)) := hd.congr (fun d hd => by simp [List.getD, outL_get _ _ _ hd])
        clear hd hown hk
        obtain ⟨wo, rfl⟩ : ∃ wo : World, wo = wr := ⟨_, rfl⟩
        go_wp2_with fail
        go_loopg [2, 5, 6] s.size (fun gh s2 _s5 _s6 wr => ∃ (M b : Nat) (r o : Nat → Int), M < s.size ∧ gh = s.size - M ∧ s2 = .slice (some ⟨g, 0, none⟩) s.size cap ∧ Dat wr g cap s.size o ∧
          Hid ((∀ k, k < s.size → 0 ≤ o k ∧ o k < (s.size : Int)) ∧ ∀ i j, i < j → j < s.size → o i ≠ o j) ∧ Arr wr b 3 (tab s.size r) ∧
          Arr wr (w.heap.size + 1) 120 [.string s, .slice (some ⟨b, 0, none⟩) s.size s.size, .int .i64 (M : Int)] ∧ Hid (RankOK (cycf s) s.size (max M 1) r) ∧ b ≠ g ∧ w.heap.size ≤ b ∧ b ≠ w.heap.size + 1 ∧
          Below w.heap.size w wr)
        case atStart => exact ⟨0, w.heap.size, _, _, h0, rfl, rfl, hd', hid ⟨fun k hk => by show 0 ≤ (k : Int) ∧ (k : Int) < (s.size : Int); omega, fun i j h1 h2 => by show (i : Int) ≠ (j : Int); omega⟩, hrk', hst, hid (rank0 s), by omega, Nat.le_refl _, by omega, hbel⟩
        case round =>
          clear hd' hst hbel hrk' hsz
          obtain ⟨M, b, r, o, hMn, hg, rfl, hd, HO, hr, hst, HK, hbg, hbB, hbq, hbel⟩ := hrel
          have HG2 := hid hg
          clear hg
          obtain ⟨wp, rfl⟩ : ∃ wp : World, wp = wr := ⟨_, rfl⟩
          go_wp2_with fail
          refine (sortInts_any g cap s.size o _ hd hn HO.out.1 HO.out.2).mono ?_
          rintro e w1 ⟨rfl, hd1, hg1⟩
          have hr1 := hr.grown hg1 (fun e => hbg (Option.some.inj e))
          have hst1 := hst.grown hg1 (fun e => by have := Option.some.inj e; omega)
          have hbel1 := hbel.trans (gBelowOf hg1 (B := w.heap.size) (by omega) hbel.size)
          clear hd hr hst hbel hg1
          have c0 := hst1.cell (i := 0) rfl
          have c1 := hst1.cell (i := 1) rfl
          have c2 := hst1.cell (i := 2) rfl
          have hsrt := sort_any s b g cap s.size M r w1 (cycf s) rfl hn (by omega) hr1 hbg hd1 hcap (cycf_cyc s) HK.out
          unfold sorterV ranksV at hsrt
          have HS := hid hsrt
          clear hsrt
          go_wp2_with fail
          refine HS.out.mono ?_
          rintro e w2 ⟨rfl, ⟨h, hO, hd2⟩, hg2⟩
          have hr2 := hr1.grown hg2 (fun e => hbg (Option.some.inj e))
          have hst2 := hst1.grown hg2 (fun e => by have := Option.some.inj e; omega)
          have hbel2 := hbel1.trans (gBelowOf hg2 (B := w.heap.size) (by omega) hbel1.size)
          have HORD := hid hO
          clear HS HO hO hd1 hr1 hst1 hbel1 hg2 c0 c1 c2
          go_wp2_with (at_make; refine mkA elInt rfl _ _ rfl s.size rfl rfl ?_ ?_; omega)
          go_loopg [6] (s.size - 1) (fun gh s6 wr => ∃ (p : Nat) (f : Nat → Int), 1 ≤ p ∧ p ≤ s.size ∧ gh = s.size - p ∧ s6 = .int .i64 p ∧ Dat wr g cap s.size h ∧ Arr wr b 3 (tab s.size r) ∧
            Arr wr (w.heap.size + 1) 120 [.string s, .slice (some ⟨b, 0, none⟩) s.size s.size, .int .i64 (M : Int)] ∧ Arr wr w2.heap.size 3 (tab s.size f) ∧
            Hid (∀ j, j < p → f (h j).toNat = vr (cycf s) (max (2 * M) 1) h j) ∧ Below w.heap.size w wr)
          case atStart =>
            refine ⟨1, fun _ => 0, Nat.le_refl _, h0, ?_, rfl, hd2.below (belowNew _ _) hd2.lt, hr2.alloc _, hst2.alloc _, ?_, hid (fun j hj => ?_), hbel2.alloc hbel2.size _⟩
            · rfl
            · have := Arr.made w2 3 (.int .i64 0) s.size
              rwa [tab_zero] at this
            · have : j = 0 := by omega
              subst this; rfl
          case round =>
            have hw2 := hbel2.size
            have hgw2 := hd2.lt
            have hbw2 := hr2.lt
            have hqw2 := hst2.lt
            clear hd2 hr2 hst2 hbel2
            obtain ⟨p, f, hp1, hpn, hg, rfl, hd, hr, hst, hnx, HV, hbel⟩ := hrel
            have HG3 := hid hg
            clear hg
            by_cases hlt : p < s.size
            · obtain ⟨x, hx⟩ : ∃ x, x = (h p).toNat := ⟨_, rfl⟩
              obtain ⟨y, hy⟩ : ∃ y, y = (h (p - 1)).toNat := ⟨_, rfl⟩
              have bx := HORD.out.rng p hlt
              have by' := HORD.out.rng (p - 1) (by omega)
              have ex : h p = (x : Int) := by omega
              have ey : h (p - 1) = (y : Int) := by omega
              have hxn : x < s.size := by omega
              have hyn : y < s.size := by omega
              have c1 := hd.cell (k := p) hlt
              have c2 := hd.cell (k := p - 1) (by omega)
              rw [ex] at c1
              rw [ey] at c2
              have c3 := hnx.cell (tab_get s.size f y hyn)
              have c4 := hnx.cell (tab_get s.size f x hxn)
              have f1 := hnx.free x
              have hz := HV.out (p - 1) (by omega)
              rw [← hy] at hz
              have vb := vr_bd (cycf s) (max (2 * M) 1) h (p - 1)
              rw [← hz] at vb
              obtain ⟨z, hzz⟩ : ∃ z, z = f y := ⟨_, rfl⟩
              rw [← hzz] at c3 vb hz
              have HX := hid hx
              have HY := hid hy
              have EX := hid ex
              have EY := hid ey
              have HZ := hid hz
              clear hx hy ex ey hz hzz bx by'
              have s1 : IntKind.i64.wrap ((p : Int) - 1) = (p : Int) - 1 := IntWalk.i64_in _ (by omega)
              have s2 : ((p : Int) - 1).toNat = p - 1 := by omega
              have s3 : (0 : Int) ≤ (p : Int) - 1 := by omega
              have s4 : (p : Int) - 1 < (s.size : Int) := by omega
              have s6 : (1 : Int) ≤ (p : Int) := by omega
              have s11 : (p : Int) < (s.size : Int) := by omega
              have s12 : (0 : Int) ≤ (p : Int) := by omega
              have s7 : 1 ≤ p := hp1
              have s8 : 0 < p := by omega
              have s9 : (p : Int) ≤ (s.size : Int) := by omega
              go_wp2_with fail
              go_cut [] (fun wx => Dat wx g cap s.size h ∧ Arr wx b 3 (tab s.size r) ∧ Arr wx (w.heap.size + 1) 120 [.string s, .slice (some ⟨b, 0, none⟩) s.size s.size, .int .i64 (M : Int)] ∧
                Arr wx w2.heap.size 3 (tab s.size (setF f x z)) ∧ Below w.heap.size w wx)
              case first => as_aux_lemma =>
                go_region
                all_goals go_wp2_with fail
                all_goals go_meet
                exact ⟨(hd.other _ (by show w2.heap.size ≠ g; omega) _).drew, (hr.other _ (by show w2.heap.size ≠ b; omega) _).drewN 1, (hst.other _ (by show w2.heap.size ≠ w.heap.size + 1; omega) _).drewN 1,
                  (by have e := tab_set s.size f (setF f x z) x z (fun d _ => rfl); rw [← e]; exact (hnx.set x _).drewN 1), (hbel.setCell (by show w.heap.size ≤ w2.heap.size; omega) _).drew⟩
              case rest =>
                obtain ⟨hd', hr', hst', hnx', hbel'⟩ := hcut
                clear hd hr hst hnx hbel c1 c2 c3 c4 f1
                have c1 := hd'.cell (k := p) hlt
                have c2 := hd'.cell (k := p - 1) (by omega)
                rw [EX.out] at c1
                rw [EY.out] at c2
                have d0 := hst'.cell (i := 0) rfl
                have d1 := hst'.cell (i := 1) rfl
                have d2 := hst'.cell (i := 2) rfl
                obtain ⟨wq, hwq⟩ : ∃ wq : World, wq = wc := ⟨_, rfl⟩
                rw [← hwq] at hd' hr' hst' hnx' hbel' c1 c2 d0 d1 d2
                rw [← hwq]
                clear hwq
                go_wp2_with fail
                go_cut [71] (fun s71 wx => s71 = .bool (cmpI r s.size M y x != 0) ∧ Dat wx g cap s.size h ∧ Arr wx b 3 (tab s.size r) ∧ Arr wx (w.heap.size + 1) 120 [.string s, .slice (some ⟨b, 0, none⟩) s.size s.size, .int .i64 (M : Int)] ∧
                  Arr wx w2.heap.size 3 (tab s.size (setF f x z)) ∧ Below w.heap.size w wx)
                case first => as_aux_lemma =>
                  have hcmp : ∀ W, Arr W b 3 (tab s.size r) → Calls Tryz.prog 80 #[ranksV s b s.size M, .int .i64 (y : Int), .int .i64 (x : Int)] W fun e w' => e = .returned (.int .i64 (cmpI r s.size M y x)) ∧ Below W.heap.size W w' :=
                    fun W hW => compare_any s b s.size M y x r W rfl hn (by omega) hyn hxn hW
                  unfold ranksV at hcmp
                  have HC := hid hcmp
                  clear hcmp
                  have hbq' := hr'.lt
                  have hS0 := keepS ⟨d0, d1, d2, c2, c1, Below.refl wq.heap.size wq, Nat.le_refl _⟩ (Below.refl wq.heap.size wq).drew
                  clear c1 c2 d0 d1 d2
                  go_region_held3 (fun w' => w'.cell? ⟨w.heap.size + 1, 0, none⟩ = some (.string s) ∧ w'.cell? ⟨w.heap.size + 1, 1, none⟩ = some (.slice (some ⟨b, 0, none⟩) s.size s.size) ∧ w'.cell? ⟨w.heap.size + 1, 2, none⟩ = some (.int .i64 (M : Int)) ∧
                      w'.cell? ⟨g, p - 1, none⟩ = some (.int .i64 (y : Int)) ∧ w'.cell? ⟨g, p, none⟩ = some (.int .i64 (x : Int)) ∧ Below wq.heap.size wq w' ∧ wq.heap.size ≤ w'.heap.size)
                    (first
                      | with_reducible assumption
                      | with_reducible exact keepS (by assumption) (by assumption))
                    (first
                      | (go_at_call 80; refine (HC.out _ (keepArr hr' hbq' (by assumption))).mono ?_; rintro e w' ⟨rfl, hb⟩))
                  all_goals go_wp2_with fail
                  all_goals go_meet
                  all_goals (have hb := keepB (Below.refl wq.heap.size wq) (by assumption) (Nat.le_refl _); exact ⟨rfl, hd'.below hb hd'.lt, hr'.below hb hr'.lt, hst'.below hb hst'.lt, hnx'.below hb hnx'.lt, hbel'.trans (hb.mono hbel'.size)⟩)
                case rest =>
                  obtain ⟨rfl, hd, hr, hst, hnx, hbel⟩ := hcut
                  clear hd' hr' hst' hnx' hbel' c1 c2 d0 d1 d2
                  have hcs := (kcmp_spec (x := y) (y := x) (cycf_cyc s) HK.out hyn hxn).2
                  rw [← cmpI_eq] at hcs
                  have hvs := vr_step (cycf s) (max (2 * M) 1) h (p - 1)
                  rw [show p - 1 + 1 = p by omega, ← HX.out, ← HY.out, ← HZ.out] at hvs
                  by_cases hne : cmpI r s.size M y x = 0
                  · have t1 : (cmpI r s.size M y x != 0) = false := by simp [hne]
                    have hvp : vr (cycf s) (max (2 * M) 1) h p = z := (hvs.resolve_right (fun q => q.1 (hcs.1 hne))).2
                    have HVP := hid hvp
                    clear hvp hvs hcs hne
                    rw [t1]
                    clear t1
                    go_wp2_with fail
                    have hg := HG3.out
                    go_roundg (s.size - (p + 1))
                    case measure => omega
                    case rel =>
                      refine ⟨p + 1, setF f x z, by omega, by omega, rfl, by go_num, hd, hr, hst, hnx, hid (fun j hj => ?_), hbel⟩
                      unfold setF
                      rcases Nat.lt_or_ge j p with q | q
                      · have hnj := HORD.out.ne (i := j) (j := p) (by omega) hlt (by omega)
                        have bj := HORD.out.rng j (by omega)
                        have ep := EX.out
                        rw [if_neg (by omega)]; exact HV.out j q
                      · have : j = p := by omega
                        subst this
                        rw [if_pos HX.out.symm, HVP.out]
                  · have t1 : (cmpI r s.size M y x != 0) = true := by simp [hne]
                    have hvp : vr (cycf s) (max (2 * M) 1) h p = z + 1 := (hvs.resolve_left (fun q => hne (hcs.2 q.1))).2
                    have HVP := hid hvp
                    have c1 := hd.cell (k := p) hlt
                    rw [EX.out] at c1
                    have c4 := hnx.cell (tab_get s.size (setF f x z) x hxn)
                    have f1 := hnx.free x
                    have ez : setF f x z x = z := by unfold setF; rw [if_pos rfl]
                    rw [ez] at c4
                    have s10 : IntKind.i64.wrap (z + 1) = z + 1 := IntWalk.i64_in _ (by omega)
                    clear hvp hvs hcs hne ez
                    rw [t1]
                    clear t1
                    go_wp2_with fail
                    have hg := HG3.out
                    go_roundg (s.size - (p + 1))
                    case measure => omega
                    case rel =>
                      refine ⟨p + 1, setF (setF f x z) x (z + 1), by omega, by omega, rfl, by go_num, hd.other _ (by show w2.heap.size ≠ g; omega) _, hr.other _ (by show w2.heap.size ≠ b; omega) _, hst.other _ (by show w2.heap.size ≠ w.heap.size + 1; omega) _, ?_, hid (fun j hj => ?_), hbel.setCell (by show w.heap.size ≤ w2.heap.size; omega) _⟩
                      · have e := tab_set s.size (setF f x z) (setF (setF f x z) x (z + 1)) x (z + 1) (fun d _ => rfl)
                        rw [← e]; exact hnx.set x _
                      · unfold setF
                        rcases Nat.lt_or_ge j p with q | q
                        · have hnj := HORD.out.ne (i := j) (j := p) (by omega) hlt (by omega)
                          have bj := HORD.out.rng j (by omega)
                          have ep := EX.out
                          rw [if_neg (by omega), if_neg (by omega)]; exact HV.out j q
                        · have : j = p := by omega
                          subst this
                          rw [if_pos HX.out.symm, HVP.out]
            · have hpe : p = s.size := by omega
              subst hpe
              have c0 := hst.cell (i := 0) rfl
              have c1 := hst.cell (i := 1) rfl
              have c2 := hst.cell (i := 2) rfl
              have f1 := hst.free 1
              have f2 := hst.free 2
              have hrk := rank_of HORD.out (v := vr (cycf s) (max (2 * M) 1) h) (r := f) (fun i _ => vr_step _ _ _ i) (fun i hi => HV.out i hi)
              have HRK := hid hrk
              clear hrk
              obtain ⟨m', hm'⟩ : ∃ m', m' = max (2 * M) 1 := ⟨_, rfl⟩
              rw [← hm'] at HRK HORD
              have e1 : max (2 * (M : Int)) 1 = ((m' : Nat) : Int) := by omega
              have hM1 : M < m' := by omega
              have hM2 : m' ≤ 2 * s.size := by omega
              have hM3 : 1 ≤ m' := by omega
              clear hm'
              by_cases hend : s.size ≤ m'
              · have t1 : decide ((s.size : Int) ≤ (m' : Int)) = true := by simp; omega
                have t2 : decide (s.size ≤ m') = true := by simpa using hend
                go_wp2_with fail
                go_ret
                exact ⟨_, h, rfl, HORD.out.full (cycf_cyc s) h0 hend, own_of_dat ((hd.other _ (by show w.heap.size + 1 ≠ g; omega) _).other _ (by show w.heap.size + 1 ≠ g; omega) _) (by omega) hcap,
                  (hbel.setCell (by show w.heap.size ≤ w.heap.size + 1; omega) _).setCell (by show w.heap.size ≤ w.heap.size + 1; omega) _⟩
              · have t1 : decide ((s.size : Int) ≤ (m' : Int)) = false := by simp; omega
                have t2 : decide (s.size ≤ m') = false := by simpa using hend
                go_wp2_with fail
                have hg := HG2.out
                go_roundg (s.size - m')
                case measure => omega
                case rel =>
                  exact ⟨m', w2.heap.size, f, h, by omega, rfl, rfl, (hd.other _ (by show w.heap.size + 1 ≠ g; omega) _).other _ (by show w.heap.size + 1 ≠ g; omega) _, hid ⟨HORD.out.rng, fun i j h1 h2 => HORD.out.ne (by omega) h2 (by omega)⟩,
                    (hnx.other _ (by show w.heap.size + 1 ≠ w2.heap.size; omega) _).other _ (by show w.heap.size + 1 ≠ w2.heap.size; omega) _, (hst.set 1 _).set 2 _, hid (by rw [show max m' 1 = m' by omega]; exact HRK.out), by omega, by omega, by omega,
                    (hbel.setCell (by show w.heap.size ≤ w.heap.size + 1; omega) _).setCell (by show w.heap.size ≤ w.heap.size + 1; omega) _⟩

/-- Order: the places of the text's turns, in order, in a row of the call's own. -/
theorem order_any (s : ByteArray) (w : World) (hn : s.size ≤ 1000000) :
    Calls Tryz.prog 51 #[.string s] w fun e w' => ∃ v o, e = .returned v ∧ Ord (cycf s) s.size s.size o ∧ OwI w' w.heap.size v (outL s.size o) ∧ Below w.heap.size w w' := by
  rcases Nat.eq_zero_or_pos s.size with h0 | h0
  · have e := empty_of h0
    subst e
    refine (order_nil w).mono ?_
    rintro e w' ⟨rfl, hb⟩
    exact ⟨_, fun _ => 0, rfl, ⟨fun k hk => by simp at hk, fun i j _ _ h => by simp at h⟩, OwI.nil _ _, hb⟩
  · exact order_some s w hn h0

end Go.Proofs.YthjmpiekjfnoiaaGreatDoor

/-
  The walks of a turn, and of Forward.
-/
namespace Go.Proofs.YthjmpiekjfnoiaaGreatDoor
open Go.RowKit

/-- A text's turn at a place. -/
def rot (s : ByteArray) (k : Nat) : List UInt8 := s.data.toList.drop k ++ s.data.toList.take k
theorem rot_length (s : ByteArray) (k : Nat) (h : k ≤ s.size) : (rot s k).length = s.size := by
  simp [rot]; omega
theorem rot_get (s : ByteArray) (k i : Nat) (hk : k < s.size) (hi : i < s.size) : (rot s k)[i]? = some (s.data.toList.getD ((k + i) % s.size) 0) := by
  have hl : s.data.toList.length = s.size := by simp
  unfold rot
  rcases Nat.lt_or_ge i (s.size - k) with h | h
  · rw [List.getElem?_append_left (by rw [List.length_drop]; omega), List.getElem?_drop, Nat.mod_eq_of_lt (by omega), List.getD, List.getElem?_eq_getElem (by omega)]; rfl
  · rw [List.getElem?_append_right (by rw [List.length_drop]; omega), List.length_drop, List.getElem?_take_of_lt (by omega), hl]
    have e : (k + i) % s.size = i - (s.size - k) := by
      rw [Nat.mod_eq_sub_mod (by omega), Nat.mod_eq_of_lt (by omega)]; omega
    rw [e, List.getD, List.getElem?_eq_getElem (by omega)]; rfl
theorem rot_ext (s : ByteArray) (k : Nat) : s.extract k s.size ++ s.extract 0 k = mkS (rot s k) := by
  rw [ext_data, ext_data, mkS_append]
  unfold rot
  rw [List.drop_zero, Nat.sub_zero, List.take_of_length_le (by simp)]

set_option maxRecDepth 100000 in
theorem turn_any (s : ByteArray) (k : Nat) (w : World) (hn : s.size ≤ 1000000) (hk : k ≤ s.size) :
    Calls Tryz.prog 52 #[.agg #[.string s], .int .i64 (k : Int)] w fun e w' => e = .returned (.string (mkS (rot s k))) ∧ Below w.heap.size w w' := by
  have e := rot_ext s k
  have HE := hid e
  clear e
  go_enter Tryz.func52, Tryz.ntmps52
  go_wp2
  go_quiet (fail)
  go_wp2
  go_ret
  exact ⟨ret_str HE.out, bDrewN (belowNew _ _) _⟩

set_option maxRecDepth 100000 in
theorem refTurn_any (s : ByteArray) (k : Nat) (w : World) (hn : s.size ≤ 1000000) (hk : k ≤ s.size) :
    Calls Tryz.prog 58 #[.string s, .int .i64 (k : Int)] w fun e w' => e = .returned (.string (mkS (rot s k))) ∧ Below w.heap.size w w' := by
  have e := rot_ext s k
  have HE := hid e
  clear e
  go_enter Tryz.func58, Tryz.ntmps58
  go_wp2
  go_quiet (fail)
  go_wp2
  go_ret
  exact ⟨ret_str HE.out, bDrewN (Below.refl _ _) _⟩

/-- The bytes ahead of the places of an order. -/
def lastTo (s : ByteArray) (o : Nat → Int) (k : Nat) : List UInt8 := (List.range k).map (fun i => s.data.toList.getD (((o i).toNat + (s.size - 1)) % s.size) 0)
theorem lastTo_length (s : ByteArray) (o : Nat → Int) (k : Nat) : (lastTo s o k).length = k := by simp [lastTo]
theorem lastTo_succ (s : ByteArray) (o : Nat → Int) (k : Nat) : lastTo s o (k + 1) = lastTo s o k ++ [s.data.toList.getD (((o k).toNat + (s.size - 1)) % s.size) 0] := by simp [lastTo, List.range_succ]
/-- Where an order has place 0. -/
def origTo (o : Nat → Int) : Nat → Nat
  | 0 => 0
  | k + 1 => if o k = 0 then k else origTo o k
theorem origTo_le (o : Nat → Int) : ∀ k, origTo o k ≤ k := by
  intro k
  induction k with
  | zero => exact Nat.le_refl _
  | succ k ih => unfold origTo; by_cases h : o k = 0
                 · rw [if_pos h]; omega
                 · rw [if_neg h]; omega

theorem appB {ops : Array Oper} {rest : List Oper} {o : Oper} {a : Act} {Q : Exit → Act → World → Prop} {w : World} (hgd : o.guard = none) (s x : Operand)
    (ho : o.op = .call { callee := .builtin .append, args := #[s, x], argTypes := #[49, 49] }) (base : Nat) (v : Value) (l : List UInt8) (hs : a.eval s = v) (hown : OwB w base v l)
    (g : Nat) (b : UInt8) (hx : a.eval x = .slice (some ⟨g, 0, none⟩) 1 1) (hc : w.cell? ⟨g, 0, none⟩ = some (.int .u8 (b.toNat : Int))) (hroom : (l.length + 1) * 1 ≤ 140737488355328) (hbase : base ≤ w.heap.size)
    (h : ∀ v' w', OwB w' base v' (l ++ [b]) → Below base w w' → w.grownBy w' v.ownBlock → wpList Tryz.prog ops Q rest (a.put o.dst v') w') : wpList Tryz.prog ops Q (o :: rest) a w :=
  appO elByte hgd s x ho base v _ hs hown g _ hx hc rfl (by simpa using hroom) hbase (fun v' w' q1 q2 q3 => h v' w' (by unfold OwB; rw [bytesV_append]; exact q1) q2 q3)

set_option maxRecDepth 100000 in
set_option maxHeartbeats 1600000 in
theorem forward_any (s : ByteArray) (w : World) (hn : s.size ≤ 1000000) :
    Calls Tryz.prog 24 #[.string s] w fun e w' =>
      ∃ o, Ord (cycf s) s.size s.size o ∧ e = .returned (.tuple #[.string (mkS (lastTo s o s.size)), .int .i64 ((origTo o s.size : Nat) : Int)]) ∧ Below w.heap.size w w' := by
  go_enter Tryz.func24, Tryz.ntmps24
  go_wp2_with fail
  refine (order_any s _ hn).mono ?_
  rintro e w1 ⟨v, o, rfl, hO, hown, hbel⟩
  obtain ⟨a, cap, rfl, hca, hma, hA⟩ := hown.rd.open
  rw [outL_length] at hca hA ⊢
  unfold maxLen at hma
  have HO := hid hO
  have HA := hid hA
  clear hO hA hown
  go_wp2_with fail
  go_loopg [3, 4, 5, 6, 7, 11] s.size (fun gh s3 s4 _s5 _s6 _s7 s11 wr => ∃ k : Nat, k ≤ s.size ∧ gh = s.size - k ∧ s11 = .int .i64 k ∧ s3 = .int .i64 ((origTo o k : Nat) : Int) ∧ OwB wr w1.heap.size s4 (lastTo s o k) ∧ Below w1.heap.size w1 wr)
  case atStart => exact ⟨0, Nat.zero_le _, rfl, rfl, rfl, Ow.nil _ _ _, Below.refl _ _⟩
  case round =>
    obtain ⟨k, hk, hg, rfl, rfl, hown, hbel1⟩ := hrel
    have HG := hid hg
    clear hg
    by_cases hlt : k < s.size
    · obtain ⟨b, off, rfl, hbl, hc⟩ := HA.out (by omega)
      have hok := HO.out.rng k hlt
      obtain ⟨kk, hkk⟩ : ∃ kk, kk = (o k).toNat := ⟨_, rfl⟩
      have ek : o k = (kk : Int) := by omega
      have hkn : kk < s.size := by omega
      have c1 := (hbel1.cell (p := ⟨b, off + k, none⟩) hbl).trans (hc k _ (outL_get _ _ _ hlt))
      rw [ek] at c1
      have EK := hid ek
      have HKK := hid hkk
      clear ek hkk hok hc
      go_wp2_with fail
      refine (turn_any s kk _ hn (by omega)).mono ?_
      rintro e w2 ⟨rfl, hb2⟩
      obtain ⟨t, ht⟩ : ∃ t, t = mkS (rot s kk) := ⟨_, rfl⟩
      rw [← ht]
      have hts : t.size = s.size := by rw [ht, mkS_size, rot_length _ _ (by omega)]
      obtain ⟨d, hd⟩ : ∃ d, d = s.size - 1 := ⟨_, rfl⟩
      have hdn : d < s.size := by omega
      have hdt : d < t.size := by omega
      have ed : (s.size : Int) - 1 = (d : Int) := by omega
      have hbyte : t[d] = s.data.toList.getD ((kk + d) % s.size) 0 := by
        have h1 := byteAt t d hdt
        rw [show t.data.toList = rot s kk by rw [ht]; rfl, rot_get s kk d hkn hdn] at h1
        exact (Option.some.inj h1).symm
      have HBY := hid hbyte
      have HD := hid hd
      have hb := t[d].toNat_lt
      have hown2 := hown.below hb2 (Nat.le_refl _)
      have hbel2 := hbel1.trans (hb2.mono hbel1.size)
      clear hown hbel1 hbyte ht hd
      by_cases h0 : kk = 0
      · have t1 : ((kk : Int) == 0) = true := by rw [beq_iff_eq]; omega
        go_wp2_with (at_builtin; refine appB rfl _ _ rfl w1.heap.size _ _ rfl (hown2.alloc _) w2.heap.size t[d] rfl ?_ ?_ ?_ ?_; (exact newc _ _ _); (rw [lastTo_length]; omega); (have := hbel2.size; simp; omega); intro v' w3 hown' hB hgrow)
        have hg := HG.out
        go_roundg (s.size - (k + 1))
        case measure => omega
        case rel =>
          refine ⟨k + 1, by omega, rfl, by go_num, ?_, ?_, (hbel2.alloc hbel2.size _).trans hB⟩
          · unfold origTo; rw [if_pos (by rw [EK.out]; omega)]
          · rw [lastTo_succ, ← HKK.out, ← HD.out, ← HBY.out]; exact hown'
      · have t1 : ((kk : Int) == 0) = false := by rw [beq_eq_false_iff_ne]; omega
        go_wp2_with (at_builtin; refine appB rfl _ _ rfl w1.heap.size _ _ rfl (hown2.alloc _) w2.heap.size t[d] rfl ?_ ?_ ?_ ?_; (exact newc _ _ _); (rw [lastTo_length]; omega); (have := hbel2.size; simp; omega); intro v' w3 hown' hB hgrow)
        have hg := HG.out
        go_roundg (s.size - (k + 1))
        case measure => omega
        case rel =>
          refine ⟨k + 1, by omega, rfl, by go_num, ?_, ?_, (hbel2.alloc hbel2.size _).trans hB⟩
          · show _ = Value.int .i64 (((if o k = 0 then k else origTo o k : Nat)) : Int)
            rw [if_neg (by rw [EK.out]; omega)]
          · rw [lastTo_succ, ← HKK.out, ← HD.out, ← HBY.out]; exact hown'
    · have hke : k = s.size := by omega
      subst hke
      have hcv := conv_bytes hown.rd
      go_wp2_with fail
      go_ret2
      exact ⟨o, HO.out, rfl, hbel.trans (hbel1.mono hbel.size)⟩

end Go.Proofs.YthjmpiekjfnoiaaGreatDoor

/-
  Plain mathematics of what turns end with: the bytes ahead of the places, each once.
-/
namespace Go.Proofs.YthjmpiekjfnoiaaGreatDoor

theorem prev_lt {n x : Nat} (hn : 0 < n) : (x + (n - 1)) % n < n := Nat.mod_lt _ hn
theorem prev_inj {n x y : Nat} (hx : x < n) (hy : y < n) (h : (x + (n - 1)) % n = (y + (n - 1)) % n) : x = y := by
  have e : ∀ z, z < n → (z + (n - 1)) % n = if z = 0 then n - 1 else z - 1 := by
    intro z hz
    by_cases h0 : z = 0
    · rw [if_pos h0, h0, Nat.zero_add]; exact Nat.mod_eq_of_lt (by omega)
    · rw [if_neg h0, show z + (n - 1) = (z - 1) + n by omega, Nat.add_mod_right]; exact Nat.mod_eq_of_lt (by omega)
  rw [e x hx, e y hy] at h
  split at h <;> split at h <;> omega
theorem prev_next {n y : Nat} (hy : y < n) : ((y + 1) % n + (n - 1)) % n = y := by
  rw [Nat.mod_add_mod, show y + 1 + (n - 1) = y + n by omega, Nat.add_mod_right]; exact Nat.mod_eq_of_lt hy

theorem last_perm {c : Nat → Nat} {n m : Nat} {o : Nat → Int} (h : Ord c n m o) : ((List.range n).map (fun i => ((o i).toNat + (n - 1)) % n)).Perm (List.range n) := by
  rw [List.perm_ext_iff_of_nodup ?_ List.nodup_range]
  · intro y
    rw [List.mem_map, List.mem_range]
    constructor
    · rintro ⟨i, hi, rfl⟩
      exact prev_lt (by have := List.mem_range.1 hi; omega)
    · intro hy
      obtain ⟨k, hk, e⟩ := h.onto (y := (y + 1) % n) (Nat.mod_lt _ (by omega))
      exact ⟨k, List.mem_range.2 hk, by rw [e, Int.toNat_natCast]; exact prev_next hy⟩
  · unfold List.Nodup
    rw [List.pairwise_map]
    refine List.Pairwise.imp_of_mem ?_ List.pairwise_lt_range
    intro a b ha hb hab e
    have ha' := List.mem_range.1 ha
    have hb' := List.mem_range.1 hb
    have ra := h.rng a ha'
    have rb := h.rng b hb'
    have := prev_inj (by omega) (by omega) e
    exact h.ne ha' hb' (by omega) (by omega)

theorem range_bytes (l : List UInt8) : (List.range l.length).map (fun i => l.getD i 0) = l := by
  apply List.ext_getElem?
  intro i
  by_cases h : i < l.length
  · simp [h]
  · rw [List.getElem?_eq_none (by simp; omega), List.getElem?_eq_none (by omega)]

theorem lastTo_perm (s : ByteArray) {c : Nat → Nat} {m : Nat} {o : Nat → Int} (h : Ord c s.size m o) : (lastTo s o s.size).Perm s.data.toList := by
  have h1 := (last_perm h).map (fun i => s.data.toList.getD i 0)
  rw [List.map_map] at h1
  have h2 := range_bytes s.data.toList
  rw [show s.data.toList.length = s.size by simp] at h2
  rw [h2] at h1
  exact h1

theorem lastTo_eqc (s : ByteArray) {c : Nat → Nat} {m : Nat} {o : Nat → Int} (h : Ord c s.size m o) (d : Nat) : eqc (lastTo s o s.size) d = eqc s.data.toList d := (lastTo_perm s h).countP_eq _

theorem orig_of (o : Nat → Int) : ∀ k, (∃ j, j < k ∧ o j = 0) → origTo o k < k ∧ o (origTo o k) = 0 := by
  intro k
  induction k with
  | zero => rintro ⟨j, hj, _⟩; omega
  | succ k ih =>
    rintro ⟨j, hj, e⟩
    unfold origTo
    by_cases h : o k = 0
    · rw [if_pos h]; exact ⟨by omega, h⟩
    · rw [if_neg h]
      have hjk : j < k := by
        rcases Nat.lt_or_ge j k with q | q
        · exact q
        · have : j = k := by omega
          subst this; exact absurd e h
      have := ih ⟨j, hjk, e⟩
      exact ⟨by omega, this.2⟩
theorem orig_spec {c : Nat → Nat} {n m : Nat} {o : Nat → Int} (h : Ord c n m o) (hn : 0 < n) : origTo o n < n ∧ o (origTo o n) = 0 :=
  orig_of o n (by obtain ⟨k, hk, e⟩ := h.onto (y := 0) hn; exact ⟨k, hk, by simpa using e⟩)

/-- How many more of a byte there are among the first k of the one than of the other. -/
def cntD (t l : List UInt8) (k c : Nat) : Int := (eqc (t.take k) c : Int) - (eqc (l.take k) c : Int)
theorem cntD_zero (t l : List UInt8) : cntD t l 0 = fun _ => 0 := by funext c; simp [cntD, eqc]
theorem cntD_succ (t l : List UInt8) (k : Nat) (b e : UInt8) (hb : t[k]? = some b) (he : l[k]? = some e) (c : Nat) : cntD t l (k + 1) c = cntD t l k c + (if b.toNat = c then 1 else 0) - (if e.toNat = c then 1 else 0) := by
  unfold cntD
  rw [eqc_take_succ t k c b hb, eqc_take_succ l k c e he]
  split <;> split <;> omega
theorem cntD_bd (t l : List UInt8) (k c : Nat) : -(l.length : Int) ≤ cntD t l k c ∧ cntD t l k c ≤ t.length := by
  have h1 := eqc_take_le t k c
  have h2 := eqc_take_le l k c
  have h3 := eqc_le t c
  have h4 := eqc_le l c
  unfold cntD; omega

end Go.Proofs.YthjmpiekjfnoiaaGreatDoor

/-
  The walks of chapter 15: Decode of nothing; how many symbols; Squeeze.
-/
namespace Go.Proofs.YthjmpiekjfnoiaaGreatDoor
open Go.RowKit

set_option maxRecDepth 100000 in
theorem decode_nil (v : Value) (most : Int) (w : World) (hr : RdI w v []) (hm1 : -9223372036854775808 ≤ most) (hm2 : most ≤ 1000000) :
    Calls Tryz.prog 20 #[v, .int .i64 most] w fun e w' => ∃ v', e = .returned (.tuple #[v', .int .i64 (decE [] most)]) ∧ OwI w' w.heap.size v' (decL [] most) ∧ Below w.heap.size w w' := by
  have hb : Calls Tryz.prog 46 #[v] w fun e w' => e = .returned (.bool false) ∧ w' = w := (below_any v [] w hr).mono fun e w' ⟨h1, h2⟩ => by
    rw [idxP_none (fun x hx => by simp at hx)] at h1
    exact ⟨h1, h2⟩
  obtain ⟨a, ca, rfl, hca, hma, hA⟩ := hr.open
  simp only [List.length_nil] at hca hA hb ⊢
  go_enter Tryz.func20, Tryz.ntmps20
  go_wp2_with fail
  refine hb.mono ?_
  rintro e w1 ⟨rfl, rfl⟩
  go_wp2_with fail
  go_loopg [0, 8, 9, 10] 0 (fun gh s0 _s8 _s9 _s10 wq => gh = 0 ∧ s0 = .slice a 0 ca ∧ wq = w1.alloc (.cells #[.slice none 0 0] 74))
  case atStart => exact ⟨rfl, rfl, rfl⟩
  case round =>
  obtain ⟨hg, rfl, rfl⟩ := hrel
  have hc := newc w1 (.slice none 0 0) 74
  by_cases hm : most < 0
  · have t1 : decide (most < 0) = true := decide_eq_true hm
    have hE : decE [] most = 4 := (decNo (by show ¬ ((([] : List Int).length : Nat) : Int) ≤ most; simp; omega)).2
    have hL : decL [] most = [] := (decNo (by show ¬ ((([] : List Int).length : Nat) : Int) ≤ most; simp; omega)).1
    go_wp2_with fail
    go_ret2
    exact ⟨.slice none 0 0, by first | (rw [hE]; rfl) | rfl, by first | (rw [hL]; exact OwI.nil _ _) | exact OwI.nil _ _, (Below.refl _ _).alloc (Nat.le_refl _) _⟩
  · have t1 : decide (most < 0) = false := decide_eq_false hm
    have hE : decE [] most = 0 := (decYes (by show ((([] : List Int).length : Nat) : Int) ≤ most; simp; omega)).2
    have hL : decL [] most = [] := (decYes (by show ((([] : List Int).length : Nat) : Int) ≤ most; simp; omega)).1
    go_wp2_with fail
    go_ret2
    exact ⟨.slice none 0 0, by first | (rw [hE]; rfl) | rfl, by first | (rw [hL]; exact OwI.nil _ _) | exact OwI.nil _ _, (Below.refl _ _).alloc (Nat.le_refl _) _⟩

theorem decode_all (v : Value) (m : List Int) (most : Int) (w : World) (hr : RdI w v m) (hlen : m.length ≤ 100000) (hv : ∀ x ∈ m, 0 ≤ x ∧ x ≤ 1000000) (hm1 : -9223372036854775808 ≤ most) (hm2 : most ≤ 1000000) :
    Calls Tryz.prog 20 #[v, .int .i64 most] w fun e w' => ∃ v', e = .returned (.tuple #[v', .int .i64 (decE m most)]) ∧ OwI w' w.heap.size v' (decL m most) ∧ Below w.heap.size w w' := by
  rcases Nat.eq_zero_or_pos m.length with h0 | h0
  · obtain rfl := List.length_eq_zero_iff.1 h0
    exact decode_nil v most w hr hm1 hm2
  · exact decode_any v m most w hr hlen hv hm1 hm2 h0

set_option maxRecDepth 100000 in
theorem end_any (a : ByteArray) (o : Int) (y : Value) (_hy : y.oneCell' = true) (w : World) (ha : a.size ≤ 140737488355328) :
    Calls Tryz.prog 27 #[.agg #[.string a, .int .i64 o, y]] w fun e w' => e = .returned (.int .i64 ((a.size : Int) + 1)) ∧ Below w.heap.size w w' := by
  have e1 : IntKind.i64.wrap ((a.size : Int) + 1) = (a.size : Int) + 1 := by rw [IntKind.wrap_i64]; omega
  go_enter Tryz.func27, Tryz.ntmps27
  go_wp2_with fail
  go_ret
  exact ⟨rfl, (Below.refl _ _).alloc (Nat.le_refl _) _⟩

/-- The symbols of a text, whose turns stand so. -/
def symL (s : ByteArray) (o : Nat → Int) : List Int := zenc 0 (mtfL (alph s.data.toList) (lastTo s o s.size)) ++ [((alph s.data.toList).length : Int) + 1]
theorem sqzInfo : (Tryz.prog.info? 25).map (·.size) = some 3 := by kernel_rfl
def emptyS : ByteArray := { data := #[] }

theorem alph_le (s : List UInt8) : (alph s).length ≤ 256 := by
  unfold alph alphTo
  rw [List.length_map]
  have := List.length_filter_le (hasB s) (List.range 256)
  simpa using this

theorem str_full {s : ByteArray} (h : 0 < s.size) : s.toList.isEmpty = false := by
  rw [Lib.toList_data]
  cases e : s.data.toList with
  | nil =>
    have : s.data.toList.length = s.size := by simp
    rw [e] at this; simp at this; omega
  | cons b l => rfl

set_option maxRecDepth 100000 in
theorem squeeze_nil (w : World) :
    Calls Tryz.prog 11 #[.string emptyS] w fun e w' => e = .returned (.tuple #[.agg #[.string emptyS, .int .i64 0, .slice none 0 0], .int .i64 1]) ∧ Below w.heap.size w w' := by
  unfold emptyS
  have harr := Arr.new w 25 [.string { data := #[] }, .int .i64 0, .slice none 0 0]
  have f0 := harr.cell (i := 0) rfl
  have f1 := harr.cell (i := 1) rfl
  have f2 := harr.cell (i := 2) rfl
  have f3 := harr.free
  go_enter Tryz.func11, Tryz.ntmps11
  go_wp2_with fail
  exact bodyPost_ret (res_cell_tmp_row rfl _ _ w.heap.size _ _ (0, 0) _ rfl harr Tryz.underlying25 rfl sqzInfo) rfl ⟨rfl, (Below.refl _ _).alloc (Nat.le_refl _) _⟩

set_option maxRecDepth 100000 in
set_option maxHeartbeats 1600000 in
theorem squeeze_any (s : ByteArray) (w : World) (h0 : 0 < s.size) (hs : s.size ≤ 65536) :
    Calls Tryz.prog 11 #[.string s] w fun e w' => ∃ o v, Ord (cycf s) s.size s.size o ∧ e = .returned (.tuple #[.agg #[.string (mkS (alph s.data.toList)), .int .i64 ((origTo o s.size : Nat) : Int), v], .int .i64 0]) ∧ OwI w' w.heap.size v (symL s o) ∧ Below w.heap.size w w' := by
  have t0 := str_full h0
  have t1 : decide ((65536 : Int) < (s.size : Int)) = false := decide_eq_false (by omega)
  have t2 : decide (65536 < s.size) = false := decide_eq_false (by omega)
  go_enter Tryz.func11, Tryz.ntmps11
  go_wp2_with fail
  refine (forward_any s _ (by omega)).mono ?_
  rintro e w1 ⟨o, hO, rfl, hb1⟩
  have hz1 := hb1.size
  obtain ⟨n, hn⟩ : ∃ n, n = origTo o s.size := ⟨_, rfl⟩
  have hnl := origTo_le o s.size
  rw [← hn] at hnl ⊢
  have HN := hid hn
  clear hn
  go_wp2_with fail
  refine (alphabet_any s _ (by omega)).mono ?_
  rintro e w2 ⟨rfl, hb2⟩
  obtain ⟨A, hA⟩ : ∃ A, A = mkS (alph s.data.toList) := ⟨_, rfl⟩
  obtain ⟨L, hL⟩ : ∃ L, L = mkS (lastTo s o s.size) := ⟨_, rfl⟩
  have hLl : L.data.toList = lastTo s o s.size := by rw [hL]; rfl
  have hAl : A.data.toList = alph s.data.toList := by rw [hA]; rfl
  have hLs : L.size = s.size := by rw [hL, mkS_size, lastTo_length]
  have hAs : A.size ≤ 256 := by rw [hA, mkS_size]; exact alph_le _
  have hnd : A.data.toList.Nodup := by rw [hAl]; exact alph_nodup _
  have hsub : ∀ b ∈ L.data.toList, b ∈ A.data.toList := fun b hb => by
    rw [hAl, mem_alph]; rw [hLl] at hb; exact (lastTo_perm s hO).mem_iff.1 hb
  have hml : (mtfL A.data.toList L.data.toList).length = s.size := by rw [mtfL_length]; simp [hLs]
  have hmr : ∀ x ∈ mtfL A.data.toList L.data.toList, 0 ≤ x ∧ x ≤ 1000000 := fun x hx => by
    have := mtfL_range L.data.toList A.data.toList hsub x hx
    have hl : A.data.toList.length = A.size := by simp
    omega
  have hsym : symL s o = zenc 0 (mtfL A.data.toList L.data.toList) ++ [(A.size : Int) + 1] := by
    unfold symL
    rw [← hAl, ← hLl]; simp
  have HSYM := hid hsym
  have HA := hid hA
  rw [← hA, ← hL]
  have hz2 := hb2.size
  have hFR : ∀ W, Calls Tryz.prog 25 #[.string A, .string L] W fun e w' => ∃ v, e = .returned (.tuple #[v, .int .i64 0]) ∧ OwI w' W.heap.size v (mtfL A.data.toList L.data.toList) ∧ Below W.heap.size W w' := fun W => front_any A L W (by omega) (by omega) hnd hsub
  have HFR := hid hFR
  obtain ⟨M, hM⟩ : ∃ M, M = mtfL A.data.toList L.data.toList := ⟨_, rfl⟩
  rw [← hM] at hml hmr HSYM HFR
  have HMR := hid hmr
  clear hFR hnd hsub hL hA hLl hAl hLs hM hmr hsym
  go_wp2_with fail
  have hz0 : w.heap.size + 1 ≤ w2.heap.size := by simp at hz1; omega
  have harr := Arr.new w 25 [.string { data := #[] }, .int .i64 0, .slice none 0 0]
  have hq := Arr.new w2 25 [.string A, .int .i64 (n : Int), .slice none 0 0]
  have hbq : Below (w.heap.size + 1) (w.alloc (.cells #[.string { data := #[] }, .int .i64 0, .slice none 0 0] 25)) (w2.alloc (.cells #[.string A, .int .i64 (n : Int), .slice none 0 0] 25)) :=
    ((hb1.mono (by simp)).trans (hb2.mono (by simp at hz1; omega))).alloc hz0 _
  have hzq : (w2.alloc (.cells #[.string A, .int .i64 (n : Int), .slice none 0 0] 25)).heap.size = w2.heap.size + 1 := by simp
  change Arr (w2.alloc (.cells #[.string A, .int .i64 (n : Int), .slice none 0 0] 25)) _ _ _ at hq
  generalize w2.alloc (.cells #[.string A, .int .i64 (n : Int), .slice none 0 0] 25) = wq at *
  refine (HFR.out wq).mono ?_
  rintro e w3 ⟨v3, rfl, hown3, hb3⟩
  have hz3 := hb3.size
  go_wp2_with fail
  refine (encode_any v3 M w3 hown3.rd (by omega) (by omega) HMR.out).mono ?_
  rintro e w4 ⟨v4, rfl, hown4, hb4⟩
  have hz4 := hb4.size
  have hq4 := (hq.below hb3 (by omega)).below hb4 (by omega)
  have q0 := hq4.cell (i := 0) rfl
  have q1 := hq4.cell (i := 1) rfl
  have q2 := hq4.cell (i := 2) rfl
  have q3 := hq4.free
  go_wp2_with fail
  refine (end_any A (n : Int) (.slice none 0 0) rfl w4 (by omega)).mono ?_
  rintro e w5 ⟨rfl, hb5⟩
  have hz5 := hb5.size
  have hlen := hid (zenc_length M 0)
  have hown5 := (hown4.below hb5 (Nat.le_refl _)).base (B' := w3.heap.size) (Nat.le_refl _)
  have hz05 : w.heap.size + 1 ≤ w5.heap.size := by omega
  have hz03 : w.heap.size + 1 ≤ w3.heap.size := by omega
  have hb05 : Below (w.heap.size + 1) (w.alloc (.cells #[.string { data := #[] }, .int .i64 0, .slice none 0 0] 25)) w5 := ((hbq.trans (hb3.mono (by omega))).trans (hb4.mono (by omega))).trans (hb5.mono (by omega))
  have ne1 : w.heap.size ≠ w2.heap.size := by omega
  have ne2 : w2.heap.size ≠ w.heap.size := by omega
  go_wp2_with (at_builtin; (refine appI rfl _ _ rfl w3.heap.size _ _ rfl (hown5.alloc _) w5.heap.size ((A.size : Int) + 1) rfl ?_ ?_ ?_ ?_; (exact newc _ _ _); (have := hlen.out.1; omega); (simp; omega); intro v6 w6 hown6 hb6 _; obtain ⟨a6, c6, e6, _, _, _⟩ := hown6.rd.open; subst e6; have g0 := ((hq4.below hb5 (by omega)).alloc _).below hb6 (by omega); have g1 := g0.cell (i := 0) rfl; have g2 := g0.cell (i := 1) rfl; have g3 := g0.cell (i := 2) rfl; have g4 := g0.free; have hz6 := hb6.size; simp only [World.size_alloc] at hz6; have hbE := (hb05.alloc hz05 _).trans (hb6.mono hz03); have p0 := harr.below hbE (by omega); have p1 := p0.cell (i := 0) rfl; have p2 := p0.cell (i := 1) rfl; have p3 := p0.cell (i := 2) rfl; have p4 := p0.free))
  rw [show (zenc 0 M ++ [(A.size : Int) + 1]).length = (zenc 0 M).length + 1 by simp] at hown6
  generalize hv : Value.slice a6 ((zenc 0 M).length + 1) c6 = v6 at *
  have hF : Arr ((((w6.setCell ⟨w2.heap.size, 2, none⟩ v6).setCell ⟨w.heap.size, 0, none⟩ (.string A)).setCell ⟨w.heap.size, 1, none⟩ (.int .i64 (n : Int))).setCell ⟨w.heap.size, 2, none⟩ v6) w.heap.size 25 [.string A, .int .i64 (n : Int), v6] := (((p0.other ⟨w2.heap.size, 2, none⟩ ne2 v6).set 0 _).set 1 _).set 2 _
  have ho1 := hown6.kept (bSetG (grownRefl w6 (some w2.heap.size)) 2 v6) (fun b e => by simp at e; omega)
  have ho2 := ho1.kept (bSetG (bSetG (bSetG (grownRefl _ (some w.heap.size)) 0 (.string A)) 1 (.int .i64 (n : Int))) 2 v6) (fun b e => by simp at e; omega)
  have hbF := ((((((Below.refl w.heap.size w).alloc (Nat.le_refl _) _).trans (hbE.mono (by omega))).setCell (p := ⟨w2.heap.size, 2, none⟩) (by show w.heap.size ≤ w2.heap.size; omega) v6).setCell (p := ⟨w.heap.size, 0, none⟩) (Nat.le_refl _) (.string A)).setCell (p := ⟨w.heap.size, 1, none⟩) (Nat.le_refl _) (.int .i64 (n : Int))).setCell (p := ⟨w.heap.size, 2, none⟩) (Nat.le_refl _) v6
  refine bodyPost_ret (res_cell_tmp_row rfl _ _ w.heap.size _ _ (0, 0) _ rfl hF Tryz.underlying25 rfl sqzInfo) rfl ⟨o, v6, hO, ?_, ?_, hbF⟩
  · rw [← HA.out, ← HN.out]; rfl
  · rw [HSYM.out]; exact ho2.base (by omega)

end Go.Proofs.YthjmpiekjfnoiaaGreatDoor

/-
  The walk of the document's own Encode.
-/
namespace Go.Proofs.YthjmpiekjfnoiaaGreatDoor
open Go.RowKit

theorem zenc_lead {l : List Int} (h0 : ∀ x ∈ l, 0 ≤ x) : zenc 0 l = dig (lead 0 l) ++ zenc 0 (l.drop (lead 0 l)) := by
  obtain ⟨h1, h2⟩ := zenc_round h0
  rcases Nat.lt_or_ge (lead 0 l) l.length with h | h
  · have hx := List.getElem?_eq_getElem h
    rw [h2 _ hx, List.drop_eq_getElem_cons h, zenc, if_neg (by have := lead_at 0 l hx; omega), dig_zero]
    simp
  · have := lead_le 0 l
    rw [h1 (by omega), List.drop_of_length_le h]
    simp [zenc, dig_zero]

set_option maxRecDepth 100000 in
set_option maxHeartbeats 1600000 in
theorem refEncode_any (v : Value) (l : List Int) (w : World) (hr : RdI w v l) (hne : 0 < l.length) (hlen : l.length ≤ 100000) (hv : ∀ x ∈ l, 0 ≤ x ∧ x ≤ 1000000) :
    Calls Tryz.prog 31 #[v] w fun e w' => ∃ v', e = .returned (.tuple #[v', .int .i64 0]) ∧ OwI w' w.heap.size v' (zenc 0 l) ∧ Below w.heap.size w w' := by
  have HB := hid (refBelow_any v l w hr (fun x hx => (hv x hx).1))
  obtain ⟨a, ca, rfl, hca, hma, hA⟩ := hr.open
  obtain ⟨b0, o0, rfl, hb0, hc0⟩ := hA hne
  unfold maxLen at hma
  have HV := hid hv
  have HA := hid hc0
  clear hr hA hv hc0
  go_enter Tryz.func31, Tryz.ntmps31
  go_wp2_with fail
  refine HB.out.mono ?_
  rintro e w1 ⟨rfl, rfl⟩
  clear HB
  go_wp2_with fail
  go_loopg [4] l.length (fun gh s4 wr => ∃ k : Nat, k ≤ l.length ∧ gh = l.length - k ∧ s4 = .int .i64 k ∧ w1 = wr)
  case atStart => exact ⟨0, Nat.zero_le _, rfl, rfl, rfl⟩
  case round =>
  obtain ⟨k, hk, hg, rfl, rfl⟩ := hrel
  have HG := hid hg
  clear hg
  by_cases hlt : k < l.length
  · obtain ⟨x, hx⟩ := getI hlt
    have c1 := HA.out k x hx
    have hxb := HV.out x (List.mem_of_getElem? hx)
    have t1 : decide (1099511627776 < x) = false := decide_eq_false (by omega)
    clear hx
    go_wp2_with fail
    have hg := HG.out
    go_roundg (l.length - (k + 1))
    case measure => omega
    case rel => exact ⟨k + 1, by omega, rfl, by go_num, rfl⟩
  · clear HG
    go_wp2_with fail
    go_loopg [5, 6, 7] l.length (fun gh s5 s6 _s7 wq => ∃ (i : Nat) (pre : List Int), i ≤ l.length ∧ gh = l.length - i ∧ s6 = .int .i64 i ∧ OwI wq w1.heap.size s5 pre ∧ Hid (pre ++ zenc 0 (l.drop i) = zenc 0 l) ∧ pre.length ≤ i ∧ Below w1.heap.size w1 wq)
    case atStart => exact ⟨0, [], Nat.zero_le _, rfl, rfl, OwI.nil _ _, hid rfl, Nat.zero_le _, Below.refl _ _⟩
    case round =>
    obtain ⟨i, pre, hi, hg, rfl, hown, HP, hpl, hbel⟩ := hrel
    have HG := hid hg
    clear hg
    by_cases hil : i < l.length
    · obtain ⟨m, hm⟩ : ∃ m, m = lead 0 (l.drop i) := ⟨_, rfl⟩
      have hml : m ≤ l.length - i := by rw [hm]; have := lead_le 0 (l.drop i); rwa [List.length_drop] at this
      have hz := hid (show ∀ j, j < m → ∀ x, l[i + j]? = some x → x = 0 from fun j hj x hx => by
        have hx' : (l.drop i)[j]? = some x := by rw [List.getElem?_drop]; exact hx
        have h1 := lead_take 0 (l.drop i) x (by rw [← hm]; exact List.mem_of_getElem? (i := j) (by rw [List.getElem?_take_of_lt hj]; exact hx'))
        have h2 := (HV.out x (List.mem_of_getElem? hx)).1
        omega)
      have hnz := hid (show ∀ x, l[i + m]? = some x → 0 < x from fun x hx => lead_at 0 (l.drop i) (by rw [← hm, List.getElem?_drop]; exact hx))
      have hzl := hid (show zenc 0 (l.drop i) = dig m ++ zenc 0 (l.drop (i + m)) by rw [zenc_lead (fun x hx => (HV.out x (List.mem_of_mem_drop hx)).1), ← hm, List.drop_drop])
      have hdl := (dig_length m).1
      clear hm
      obtain ⟨wo, rfl⟩ : ∃ wo : World, wo = wr := ⟨_, rfl⟩
      have hcel := hid (show ∀ j x, l[j]? = some x → wo.cell? ⟨b0, o0 + j, none⟩ = some (.int .i64 x) from fun j x hx => by rw [hbel.cell (p := ⟨b0, o0 + j, none⟩) hb0]; exact HA.out j x hx)
      go_wp2_with fail
      go_loopg [7] m (fun gh s7 wq => ∃ n : Nat, n ≤ m ∧ gh = m - n ∧ s7 = .int .i64 n ∧ wo = wq)
      case atStart => exact ⟨0, Nat.zero_le _, rfl, rfl, rfl⟩
      case round =>
      obtain ⟨n, hn, hg, rfl, rfl⟩ := hrel
      have HG2 := hid hg
      clear hg
      by_cases hnm : n < m
      · obtain ⟨x, hx⟩ := getI (l := l) (k := i + n) (by omega)
        have c1 := hcel.out (i + n) x hx
        have hx0 := hz.out n hnm x hx
        have t1 : (x == 0) = true := by rw [beq_iff_eq]; exact hx0
        have t2 : decide (i + n < l.length) = true := decide_eq_true (by omega)
        clear hx hx0
        go_wp2_with fail
        have hg := HG2.out
        go_roundg (m - (n + 1))
        case measure => omega
        case rel => exact ⟨n + 1, by omega, rfl, by go_num, rfl⟩
      · obtain rfl : m = n := by omega
        clear hn hnm HG2
        have hbs := hbel.size
        have hend : (i + m = l.length ∧ 0 < m) ∨ (i + m < l.length ∧ m = 0) ∨ (i + m < l.length ∧ 0 < m) := by omega
        rcases hend with ⟨h1, h2⟩ | ⟨h1, h2⟩ | ⟨h1, h2⟩
        · have t2 : decide (i + m < l.length) = false := decide_eq_false (by omega)
          have t3 : ((m : Int) == 0) = false := by rw [beq_eq_false_iff_ne]; omega
          have t4 : l.length ≤ i + m := by omega
          have H1 := hid h1
          clear h1
          go_wp2_with fail
          refine (refDigits_any m _ (by omega)).mono ?_
          rintro e w2 ⟨dv, rfl, hdo, h2'⟩
          have hsrc := hdo.src
          have hs2 := h2'.size
          have hown2 := hown.below h2' (Nat.le_refl _)
          go_wp2_with (at_builtin; refine appL rfl _ _ rfl w1.heap.size _ _ rfl hown2 _ (dig m) rfl hsrc (by omega) (by omega) ?_; intro v' w3 hown' hB hgrow)
          have hg := HG.out
          go_roundg (l.length - (i + m))
          case measure => omega
          case rel =>
            refine ⟨i + m, pre ++ dig m, by omega, rfl, by go_num, hown', hid ?_, by simp only [List.length_append]; omega, (belT hbel h2').trans hB⟩
            rw [List.append_assoc, ← hzl.out]; exact HP.out
        · subst h2
          obtain ⟨x, hx⟩ := getI (l := l) (k := i) (by omega)
          have c1 := hcel.out i x hx
          have hx0 := hnz.out x hx
          have hxb := HV.out x (List.mem_of_getElem? hx)
          have t1 : (x == 0) = false := by rw [beq_eq_false_iff_ne]; omega
          have t2 : decide (i < l.length) = true := decide_eq_true (by omega)
          have HX := hid hx
          have e2 := hid (show zenc 0 (l.drop i) = [x + 1] ++ zenc 0 (l.drop (i + 1)) by
            rw [List.drop_eq_getElem_cons (show i < l.length by omega), show l[i] = x from (List.getElem?_eq_some_iff.1 hx).2, zenc, if_neg (by omega), dig_zero]; simp)
          clear hx
          go_wp2_with fail
          refine (refDigits_any 0 _ (by omega)).mono ?_
          rintro e w2 ⟨dv, rfl, hdo, h2'⟩
          have hsrc := hdo.src
          have hs2 := h2'.size
          have hown2 := hown.below h2' (Nat.le_refl _)
          have c2 : w2.cell? ⟨b0, o0 + i, none⟩ = some (.int .i64 x) := by
            rw [(belT hbel h2').cell (p := ⟨b0, o0 + i, none⟩) hb0]; exact HA.out i x HX.out
          go_wp2_with (first
            | (at_builtin; refine appL rfl _ _ rfl w1.heap.size _ _ rfl hown2 _ (dig 0) rfl hsrc (by simp only [dig_zero, List.length_nil]; omega) (by omega) ?_; intro v' w3 hown' hB hgrow; (rw [dig_zero, List.append_nil] at hown'); (have c3 := (hB.cell (p := ⟨b0, o0 + i, none⟩) hb0).trans c2); (have hs3 := hB.size))
            | (at_builtin; refine appI rfl _ _ rfl w1.heap.size _ _ rfl (OwI.alloc hown' _) w3.heap.size (x + 1) rfl ?_ ?_ ?_ ?_; (exact newc _ _ _); omega; (simp; omega); intro v4 w4 hown4 hB4 hgrow4))
          have hg := HG.out
          go_roundg (l.length - (i + 1))
          case measure => omega
          case rel =>
            refine ⟨i + 1, pre ++ [x + 1], by omega, rfl, by go_num, hown4, hid ?_, by simp only [List.length_append, List.length_singleton]; omega, (((belT hbel h2').trans hB).alloc (by omega) _).trans hB4⟩
            rw [List.append_assoc, ← e2.out]; exact HP.out
        · have t2 : decide (i + m < l.length) = true := decide_eq_true (by omega)
          obtain ⟨x, hx⟩ := getI h1
          have c1 := hcel.out (i + m) x hx
          have hx0 := hnz.out x hx
          have t1 : (x == 0) = false := by rw [beq_eq_false_iff_ne]; omega
          have t3 : ((m : Int) == 0) = false := by rw [beq_eq_false_iff_ne]; omega
          clear hx
          go_wp2_with fail
          refine (refDigits_any m _ (by omega)).mono ?_
          rintro e w2 ⟨dv, rfl, hdo, h2'⟩
          have hsrc := hdo.src
          have hs2 := h2'.size
          have hown2 := hown.below h2' (Nat.le_refl _)
          go_wp2_with (at_builtin; refine appL rfl _ _ rfl w1.heap.size _ _ rfl hown2 _ (dig m) rfl hsrc (by omega) (by omega) ?_; intro v' w3 hown' hB hgrow)
          have hg := HG.out
          go_roundg (l.length - (i + m))
          case measure => omega
          case rel =>
            refine ⟨i + m, pre ++ dig m, by omega, rfl, by go_num, hown', hid ?_, by simp only [List.length_append]; omega, (belT hbel h2').trans hB⟩
            rw [List.append_assoc, ← hzl.out]; exact HP.out
    · go_wp2_with fail
      go_ret2
      refine ⟨_, rfl, ?_, hbel⟩
      have := HP.out
      rw [List.drop_of_length_le (by omega)] at this
      simp only [zenc, dig_zero, List.append_nil] at this
      rw [← this]; exact hown

end Go.Proofs.YthjmpiekjfnoiaaGreatDoor
