/-
  The walk of the statement TurnsOrder.
-/
import Derived.Test.YthjmpiekjfnoiaaLaw13
import Derived.Test.YthjmpiekjfnoiaaLaw14v
namespace Go.Proofs.Ythjmpiekjfnoiaa
open Go.RowKit

theorem less_at : ∀ (t : Nat) (x y : List UInt8) (p q : UInt8), (∀ u, u < t → x[u]? = y[u]?) → x[t]? = some p → y[t]? = some q → p.toNat < q.toNat → Op.bytesLess x y = true := by
  intro t
  induction t with
  | zero =>
    intro x y p q _ hx hy hpq
    cases x with
    | nil => simp at hx
    | cons a x =>
      cases y with
      | nil => simp at hy
      | cons b y =>
        simp at hx hy
        subst hx; subst hy
        simp [Op.bytesLess, UInt8.lt_iff_toNat_lt, hpq]
  | succ t ih =>
    intro x y p q h hx hy hpq
    cases x with
    | nil => simp at hx
    | cons a x =>
      cases y with
      | nil => simp at hy
      | cons b y =>
        have h0 := h 0 (by omega)
        simp at h0 hx hy
        subst h0
        have := ih x y p q (fun u hu => by have := h (u + 1) (by omega); simpa using this) hx hy hpq
        simp [Op.bytesLess, this]
theorem less_irrefl (x : List UInt8) : Op.bytesLess x x = false := by
  induction x with
  | nil => rfl
  | cons a x ih => simp [Op.bytesLess, ih]

theorem rot_byte (s : ByteArray) {k i : Nat} (hk : k < s.size) (hi : i < s.size) : ∃ b, (rot s k)[i]? = some b ∧ b.toNat = cycf s (k + i) := ⟨_, rot_get s k i hk hi, rfl⟩
theorem rot_same (s : ByteArray) {a b i : Nat} (ha : a < s.size) (hb : b < s.size) (hi : i < s.size) (h : cycf s (a + i) = cycf s (b + i)) : (rot s a)[i]? = (rot s b)[i]? := by
  obtain ⟨x, hx, ex⟩ := rot_byte s ha hi
  obtain ⟨y, hy, ey⟩ := rot_byte s hb hi
  rw [hx, hy]
  have : x = y := UInt8.toNat_inj.1 (by omega)
  rw [this]
theorem rot_eqm (s : ByteArray) {a b : Nat} (ha : a < s.size) (hb : b < s.size) (h : eqm (cycf s) s.size a b) : rot s a = rot s b := by
  apply List.ext_getElem?
  intro i
  by_cases hi : i < s.size
  · exact rot_same s ha hb hi (h i hi)
  · rw [List.getElem?_eq_none (by rw [rot_length _ _ (by omega)]; omega), List.getElem?_eq_none (by rw [rot_length _ _ (by omega)]; omega)]
theorem rot_ltm (s : ByteArray) {a b : Nat} (ha : a < s.size) (hb : b < s.size) (h : ltm (cycf s) s.size a b) : Op.bytesLess (rot s a) (rot s b) = true := by
  obtain ⟨t, t1, t2, t3⟩ := h
  obtain ⟨x, hx, ex⟩ := rot_byte s ha t1
  obtain ⟨y, hy, ey⟩ := rot_byte s hb t1
  exact less_at t _ _ x y (fun u hu => rot_same s ha hb (by omega) (t2 u hu)) hx hy (by omega)
theorem rot_ltm_ne (s : ByteArray) {a b : Nat} (ha : a < s.size) (hb : b < s.size) (h : ltm (cycf s) s.size a b) : rot s a ≠ rot s b := by
  intro e
  have := rot_ltm s ha hb h
  rw [e, less_irrefl] at this
  exact Bool.noConfusion this

def hadO (o : Nat → Int) (p d : Nat) : Bool := (List.range p).any (fun j => o j == (d : Int))
theorem hadO_succ (o : Nat → Int) (p d q : Nat) (h : o p = (q : Int)) : hadO o (p + 1) d = if d = q then true else hadO o p d := by
  unfold hadO
  rw [List.range_succ, List.any_append]
  by_cases e : d = q
  · rw [if_pos e, e]; simp [h]
  · rw [if_neg e]
    have : (o p == (d : Int)) = false := by rw [h, beq_eq_false_iff_ne]; omega
    simp [this]
theorem hadO_new {c : Nat → Nat} {n m : Nat} {o : Nat → Int} (h : Ord c n m o) {p q : Nat} (hp : p < n) (hq : o p = (q : Int)) : hadO o p q = false := by
  unfold hadO
  rw [List.any_eq_false]
  intro j hj
  have hj' : j < p := by simpa using hj
  have := h.ne (i := j) (j := p) (by omega) hp (by omega)
  rw [hq] at this
  simpa using this

set_option maxRecDepth 100000 in
set_option maxHeartbeats 1600000 in
theorem turnsOrder_any (s : ByteArray) (v : Value) (raw : List Int) (o : Int) (w : World) (_hs : s.size ≤ maxLen) (hr : RdI w v raw) (hwf : WfI raw) (ho1 : -9223372036854775808 ≤ o) (ho2 : o ≤ 9223372036854775807) :
    Calls Try.prog 7 #[.string s, v, .int .i64 o] w fun e w' => e = .returned (.bool true) ∧ Below w.heap.size w w' := by
  unfold maxLen at _hs
  go_enter Try.func7, Try.ntmps7
  go_wp2_with fail
  refine (awake13_any _).mono ?_
  rintro e w1 ⟨rfl, h1⟩
  have hr1 := hr.below h1
  go_upto_region 2 with fail
  go_cut [25, 26, 27] (fun s25 s26 s27 wx => Pair w wx s25 60 100 ∧ s26 = .int .i64 2 ∧ s27 = .int .i64 0)
  case first =>
    obtain ⟨m, hmi, hm1, hm2⟩ := minOf s.size 60 (by decide)
    have hmi2 : min (s.size : Int) 60 = (m : Int) := by rw [← hmi, Int.min_def]; split <;> split <;> omega
    go_region_with (go_at_call 16; refine (text13_any _ raw _ _ _ ?_ hwf ?_ ?_ ?_ ?_).mono ?_; (first | exact hr1 | exact hr1.below ((Below.refl _ _).drew)); decide; decide; exact ho1; exact ho2; rintro e w2 ⟨t, rfl, ht, h2⟩)
    all_goals go_wp2_with fail
    all_goals go_meet
    all_goals have h2' : Below w1.heap.size w1 w2 := by first | exact h2 | exact (Below.refl _ _).drew.trans h2
    all_goals exact ⟨⟨w2.heap.size, s.extract 0 m, t, rfl, Arr.new w2 _ [.string _, .string _], by simp; omega, by omega, belA (belT h1 h2') _, (belT h1 h2').size⟩, rfl, rfl⟩
  case rest =>
    obtain ⟨⟨pb, t0, t1, rfl, harr, hz0, hz1, hbel, hpb⟩, rfl, rfl⟩ := hcut
    clear hr hr1 h1 hwf _hs
    have hp0 := harr.cell (i := 0) rfl
    have hp1 := harr.cell (i := 1) rfl
    have hpl := harr.lt
    clear harr
    go_wp2
    go_loopg [27] 2 (fun g i wr => ∃ k : Nat, k ≤ 2 ∧ g = 2 - k ∧ i = .int .i64 k ∧ Below w.heap.size w wr ∧ Below wc.heap.size wc wr)
    case atStart => exact ⟨0, by omega, rfl, rfl, hbel, Below.refl _ _⟩
    case round =>
      clear hbel
      obtain ⟨k, hk, hg, rfl, hbel, hbel1⟩ := hrel
      by_cases hlt : k < 2
      · obtain ⟨t, ht, hc⟩ : ∃ t : ByteArray, t.size ≤ 100 ∧ wr.cell? ⟨pb, k, none⟩ = some (.string t) := by
          rcases (show k = 0 ∨ k = 1 by omega) with rfl | rfl
          · exact ⟨t0, by omega, by rw [hbel1.cell (p := ⟨pb, 0, none⟩) hpl]; exact hp0⟩
          · exact ⟨t1, by omega, by rw [hbel1.cell (p := ⟨pb, 1, none⟩) hpl]; exact hp1⟩
        have hd : decide ((k : Int) < 2) = true := by simp; omega
        clear hp0 hp1 hz0 hz1
        have HG := hid hg
        clear hg
        go_wp2_with fail
        refine (order_any t _ (by omega)).mono ?_
        rintro e w3 ⟨v, oo, rfl, hO, hv, h3⟩
        obtain ⟨va, vc, rfl, hvc, hvm, hvA⟩ := hv.rd.open
        rw [outL_length] at hvA hvc ⊢
        simp only [maxLen] at hvm
        have f0 : ((t.size : Int) != (t.size : Int)) = false := by simp
        have HO := hid hO
        clear hv hO
        go_wp2_with (at_make; refine mkA elBool rfl _ _ rfl t.size rfl rfl ?_ ?_; omega)
        have hB3 := belT hbel h3
        have hB3c := belT hbel1 h3
        go_loopg [12] t.size (fun g i wr => ∃ k : Nat, k ≤ t.size ∧ g = t.size - k ∧ i = .int .i64 k ∧ Arr wr w3.heap.size 4 ((List.range t.size).map fun j => .bool (hadO oo k j)) ∧ Below w.heap.size w wr ∧ Below wc.heap.size wc wr ∧ Below w3.heap.size w3 wr)
        case atStart =>
          refine ⟨0, Nat.zero_le _, rfl, rfl, ?_, belA hB3 _, belA hB3c _, (Below.refl _ _).alloc (Nat.le_refl _) _⟩
          have := Arr.made w3 4 (.bool false) t.size
          rwa [show List.replicate t.size (Value.bool false) = (List.range t.size).map fun j => .bool (hadO oo 0 j) from by
            apply List.ext_getElem?
            intro j
            by_cases hj : j < t.size <;> simp [hj, hadO]] at this
        case round =>
          clear hbel hbel1 hc
          obtain ⟨i, hi, hg, rfl, harr, hbel, hbel1, hbel3⟩ := hrel
          have HG2 := hid hg
          clear hg
          by_cases hil : i < t.size
          · obtain ⟨b1, o1, rfl, hb1, hc1⟩ := hvA (by omega)
            have hrg := HO.out.rng i hil
            obtain ⟨q, hq⟩ : ∃ q : Nat, oo i = (q : Int) := ⟨(oo i).toNat, by omega⟩
            have hnl : q < t.size := by omega
            have hb1' := hbel3.size
            have c1 : wr.cell? ⟨b1, o1 + i, none⟩ = some (.int .i64 (q : Int)) := by
              rw [hbel3.cell (p := ⟨b1, o1 + i, none⟩) hb1]
              exact hc1 _ _ (by rw [outL_get _ _ _ hil, hq])
            have c2 := harr.cell (boolRow t.size (hadO oo i) _ hnl)
            rw [hadO_new HO.out hil hq] at c2
            have f2 := harr.free q
            have d1 : decide ((q : Int) < 0) = false := by simp
            have d2 : decide (t.size ≤ q) = false := by simp; omega
            have hne : b1 ≠ w3.heap.size := by omega
            have hclose := hid (show Arr (wr.setCell ⟨w3.heap.size, q, none⟩ (.bool true)) w3.heap.size 4 ((List.range t.size).map fun j => .bool (hadO oo (i + 1) j)) from by
              have := harr.set q (.bool true)
              rwa [boolRow_set' t.size _ (hadO oo (i + 1)) _ true (fun j _ => hadO_succ _ _ _ _ hq)] at this)
            have HQ := hid hq
            clear hq hrg
            rcases Nat.eq_zero_or_pos i with h0 | h0
            · have d3 : ((i : Int) == 0) = true := by rw [beq_iff_eq]; omega
              clear h0
              go_wp2_with fail
              have hg2 := HG2.out
              go_roundg (t.size - (i + 1))
              case measure => omega
              case rel => exact ⟨i + 1, by omega, rfl, by go_num, hclose.out, hbel.setCell (by simp; have := hB3.size; omega) _, hbel1.setCell (by simp; have := hB3c.size; omega) _, hbel3.setCell (by simp) _⟩
            · have d3 : ((i : Int) == 0) = false := by rw [beq_eq_false_iff_ne]; omega
              have hrg := HO.out.rng (i - 1) (by omega)
              obtain ⟨p, hp⟩ : ∃ p : Nat, oo (i - 1) = (p : Int) := ⟨(oo (i - 1)).toNat, by omega⟩
              have hpl1 : p < t.size := by omega
              have c3 : wr.cell? ⟨b1, o1 + (i - 1), none⟩ = some (.int .i64 (p : Int)) := by
                rw [hbel3.cell (p := ⟨b1, o1 + (i - 1), none⟩) hb1]
                exact hc1 _ _ (by rw [outL_get _ _ _ (by omega), hp])
              have hso := HO.out.srt (i - 1) i (Nat.zero_le _) (by omega) hil
              rw [hp, HQ.out] at hso
              unfold bef at hso
              simp only [Int.toNat_natCast] at hso
              clear hp hrg hc1 hvA
              have le1 : p ≤ t.size := by omega
              have le2 : q ≤ t.size := by omega
              have e1 : IntKind.i64.wrap ((i : Int) - 1) = (i : Int) - 1 := IntWalk.i64_in _ (by omega)
              have e2 : ((i : Int) - 1).toNat = i - 1 := by omega
              have e3 : (0 : Int) ≤ (i : Int) - 1 := by omega
              have e4 : (i : Int) - 1 < (t.size : Int) := by omega
              obtain ⟨A, hA⟩ : ∃ A, A = mkS (rot t p) := ⟨_, rfl⟩
              obtain ⟨B, hB⟩ : ∃ B, B = mkS (rot t q) := ⟨_, rfl⟩
              have ea : t.extract p t.size ++ t.extract 0 p = A := by rw [rot_ext, hA]
              have eb : t.extract q t.size ++ t.extract 0 q = B := by rw [rot_ext, hB]
              have hAl : A.toList = rot t p := by rw [ByteArray.toList_eq, hA]; rfl
              have hBl : B.toList = rot t q := by rw [ByteArray.toList_eq, hB]; rfl
              rcases hso with hso | ⟨hso, hpq⟩
              · have g1 : Op.bytesLess A.toList B.toList = true := by rw [hAl, hBl]; exact rot_ltm t hpl1 hnl hso
                have g2 : (A.toList == B.toList) = false := by rw [hAl, hBl, beq_eq_false_iff_ne]; exact rot_ltm_ne t hpl1 hnl hso
                clear hA hB hAl hBl hso
                go_wp2_with fail
                go_quiet (fail)
                go_wp2_with fail
                go_quiet (fail)
                go_wp2_with fail
                have hg2 := HG2.out
                go_roundg (t.size - (i + 1))
                case measure => omega
                case rel => exact ⟨i + 1, by omega, rfl, by go_num, hclose.out, below_drewN (hbel.setCell (by simp; have := hB3.size; omega) _) _, below_drewN (hbel1.setCell (by simp; have := hB3c.size; omega) _) _, below_drewN (hbel3.setCell (by simp) _) _⟩
              · have g1 : Op.bytesLess A.toList B.toList = false := by rw [hAl, hBl, rot_eqm t hpl1 hnl hso, less_irrefl]
                have g2 : (A.toList == B.toList) = true := by rw [hAl, hBl, rot_eqm t hpl1 hnl hso, beq_iff_eq]
                have g3 : decide (q < p) = false := by simp; omega
                clear hA hB hAl hBl hso hpq
                go_wp2_with fail
                go_quiet (fail)
                go_wp2_with fail
                go_quiet (fail)
                go_wp2_with fail
                have hg2 := HG2.out
                go_roundg (t.size - (i + 1))
                case measure => omega
                case rel => exact ⟨i + 1, by omega, rfl, by go_num, hclose.out, below_drewN (hbel.setCell (by simp; have := hB3.size; omega) _) _, below_drewN (hbel1.setCell (by simp; have := hB3c.size; omega) _) _, below_drewN (hbel3.setCell (by simp) _) _⟩
          · go_wp2
            have hg := HG.out
            go_roundg (2 - (k + 1))
            case measure => omega
            case rel => exact ⟨k + 1, by omega, rfl, by go_num, hbel, hbel1⟩
      · have hd : decide ((k : Int) < 2) = false := by simp; omega
        go_wp2
        go_ret
        exact ⟨rfl, hbel⟩

end Go.Proofs.Ythjmpiekjfnoiaa
