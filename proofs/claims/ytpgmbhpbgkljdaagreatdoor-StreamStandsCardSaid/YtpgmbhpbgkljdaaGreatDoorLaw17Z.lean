/-
  What the statements of chapter 17 share: numbers picked, how much of a text has room by the document, texts, texts joined.
-/
import Derived.Test.YtpgmbhpbgkljdaaGreatDoorP17dZ
import Derived.Test.YtpgmbhpbgkljdaaGreatDoorM18Z
import Derived.Test.YtpgmbhpbgkljdaaGreatDoorZ15
set_option linter.unusedVariables false
set_option linter.unusedSimpArgs false
namespace Go.Proofs.YtpgmbhpbgkljdaaGreatDoor
open Go.RowKit Go Go.Shelf

set_option maxRecDepth 100000 in
theorem pick17_any (c n : Int) (w : World) (h1 : -9223372036854775808 ≤ c) (h2 : c ≤ 9223372036854775807) (h3 : 1 ≤ n) (h4 : n ≤ 1000000000) :
    Calls Tryz.prog 18 #[.int .i64 c, .int .i64 n] w fun e w' => e = .returned (.int .i64 (gA c n)) ∧ w = w' := by
  by_cases hc : c < 0
  · have hfin := hid (show gA c n = (-(c + 1)) % n from by simp [gA, hc])
    go_enter Tryz.func18, Tryz.ntmps18
    go_wp2
    go_ret
    exact ⟨fX (by rw [hfin.out]; rw [← Int.neg_tmod, Int.tmod_eq_emod_of_nonneg (by omega)]), rfl⟩
  · have hfin := hid (show gA c n = c % n from by simp [gA, hc])
    have hc' : 0 ≤ c := by omega
    go_enter Tryz.func18, Tryz.ntmps18
    go_wp2
    go_ret
    exact ⟨fX (by rw [hfin.out]), rfl⟩

theorem refLen_any (s : ByteArray) (w : World) (hs : s.size ≤ 1000000) :
    Calls Tryz.prog 64 #[.string s] w fun e w' => e = .returned (.int .i64 (lnL s.data.toList : Int)) ∧ Below w.heap.size w w' := by
  have hcall := aKk s w hs
  obtain ⟨P, hP⟩ : ∃ P, P = mkS (bC s.data.toList) := ⟨_, rfl⟩
  have HP := hid (show (P.size : Int) = (lnL s.data.toList : Int) by rw [hP, cP]; rfl)
  rw [← hP] at hcall
  clear hP
  go_enter Tryz.func64, Tryz.ntmps64
  go_wp2_with fail
  refine hcall.mono ?_
  rintro e w1 ⟨rfl, hb⟩
  go_wp2_with fail
  go_ret
  exact ⟨fX HP.out, hb⟩

set_option maxRecDepth 100000 in
set_option maxHeartbeats 800000 in
theorem refCut_any (s : ByteArray) (room : Nat) (w : World) (hs : s.size ≤ 100000) (hr : room ≤ 1000000) :
    Calls Tryz.prog 42 #[.string s, .int .i64 (room : Int)] w fun e w' => e = .returned (.int .i64 (cutL s.data.toList room : Int)) ∧ Below w.heap.size w w' := by
  have HL := hid (show s.data.toList.length = s.size by simp)
  have hcut := cutL_is s.data.toList room
  obtain ⟨C, hC⟩ : ∃ C, C = cutL s.data.toList room := ⟨_, rfl⟩
  rw [← hC] at hcut ⊢
  obtain ⟨hc1, hc2, hc3⟩ := hcut
  rw [HL.out] at hc1 hc3
  have HU := hid (fun i (h1 : i ≤ s.size) => show lnL (s.data.toList.take i) ≤ room ↔ i ≤ C from by
    constructor
    · intro h
      refine Nat.le_of_not_lt fun q => ?_
      have a := hc3 (by omega)
      have b := lnL_up s.data.toList (C + 1) (i - (C + 1)) (by rw [HL.out]; omega)
      rw [show C + 1 + (i - (C + 1)) = i by omega] at b
      omega
    · intro h
      have b := lnL_up s.data.toList i (C - i) (by rw [HL.out]; omega)
      rw [show i + (C - i) = C by omega] at b
      omega)
  clear hC hc2 hc3
  go_enter Tryz.func42, Tryz.ntmps42
  go_wp2_with fail
  go_loopg [5, 6] (s.size + 1) (fun g s5 s6 wr => ∃ i K : Nat, i ≤ s.size + 1 ∧ g = s.size + 1 - i ∧ s6 = .int .i64 (i : Int) ∧ s5 = .int .i64 (K : Int) ∧ Hid (K = min (i - 1) C) ∧ Below w.heap.size w wr)
  case atStart => exact ⟨0, 0, Nat.zero_le _, rfl, rfl, rfl, hid (by omega), Below.refl _ _⟩
  case round =>
    obtain ⟨i, K, hi, hg, rfl, rfl, HK, hbel⟩ := hrel
    have HG := hid hg
    clear hg
    by_cases hlt : i ≤ s.size
    · have t1 : decide ((i : Int) ≤ (s.size : Int)) = true := decide_eq_true (by omega)
      have q1 : (i : Int) ≤ (s.size : Int) := by omega
      obtain ⟨T, hT⟩ : ∃ T, T = s.extract 0 i := ⟨_, rfl⟩
      have hTd : T.data.toList = s.data.toList.take i := by rw [hT, nT, fW, List.drop_zero, Nat.sub_zero]
      have hTs : T.size ≤ s.size := by
        have : T.data.toList.length = T.size := by simp
        rw [← this, hTd, List.length_take]
        omega
      have hcall := refLen_any T wr (by omega)
      rw [hTd] at hcall
      have hu := HU.out i hlt
      obtain ⟨X, hX⟩ : ∃ X, X = lnL (s.data.toList.take i) := ⟨_, rfl⟩
      rw [← hX] at hcall hu
      have hT' := hT.symm
      clear hT hTd hX
      go_wp2_with fail
      refine hcall.mono ?_
      rintro e w2 ⟨rfl, hb2⟩
      have hbel2 := bV hbel hb2
      by_cases hx : X ≤ room
      · have t2 : decide ((X : Int) ≤ (room : Int)) = true := decide_eq_true (by omega)
        have t2' : decide (X ≤ room) = true := decide_eq_true hx
        have hK := HK.out
        have HK2 := hid (show i = min (i + 1 - 1) C by have := hu.1 hx; omega)
        clear hK hu hx hcall
        go_wp2_with fail
        have hg := HG.out
        go_roundg (s.size + 1 - (i + 1))
        case measure => omega
        case rel => exact ⟨i + 1, i, by omega, rfl, by go_num, rfl, HK2, hbel2⟩
      · have t2 : decide ((X : Int) ≤ (room : Int)) = false := decide_eq_false (by omega)
        have t2' : decide (X ≤ room) = false := decide_eq_false hx
        have HK2 := hid (show K = min (i + 1 - 1) C by have := HK.out; have := fun q => hx (hu.2 q); omega)
        clear hu hx hcall
        go_wp2_with fail
        have hg := HG.out
        go_roundg (s.size + 1 - (i + 1))
        case measure => omega
        case rel => exact ⟨i + 1, K, by omega, rfl, by go_num, rfl, HK2, hbel2⟩
    · have t1 : decide ((i : Int) ≤ (s.size : Int)) = false := decide_eq_false (by omega)
      have HF := hid (show (K : Int) = (C : Int) by have := HK.out; omega)
      go_wp2_with fail
      go_ret
      exact ⟨fX HF.out, hbel⟩

theorem elStr : ElT Tryz.prog 24 9 16 (.string ⟨#[]⟩) := ElT.mk' (by kernel_rfl) Tryz.underlying24 rfl (by decide)
/-- Texts in a row that the call owns. -/
def OwT (w : World) (B : Nat) (v : Value) (l : List ByteArray) : Prop := Ow w B 9 v (strV l)
theorem OwT.rd {w : World} {B : Nat} {v : Value} {l : List ByteArray} (h : OwT w B v l) : RdT w v l := by
  unfold RdT; have := Ow.rd h; rwa [strV_length] at this
theorem appT {ops : Array Oper} {rest : List Oper} {o : Oper} {a : Act} {Q : Exit → Act → World → Prop} {w : World} (hgd : o.guard = none) (s x : Operand)
    (ho : o.op = .call { callee := .builtin .append, args := #[s, x], argTypes := #[24, 24] }) (base : Nat) (v : Value) (l : List ByteArray) (hs : a.eval s = v) (hown : OwT w base v l)
    (g : Nat) (n : ByteArray) (hx : a.eval x = .slice (some ⟨g, 0, none⟩) 1 1) (hc : w.cell? ⟨g, 0, none⟩ = some (.string n)) (hroom : (l.length + 1) * 16 ≤ 140737488355328) (hbase : base ≤ w.heap.size)
    (h : ∀ v' w', OwT w' base v' (l ++ [n]) → Below base w w' → w.grownBy w' v.ownBlock → wpList Tryz.prog ops Q rest (a.put o.dst v') w') : wpList Tryz.prog ops Q (o :: rest) a w :=
  rD elStr hgd s x ho base v _ hs hown g _ hx hc rfl (by simpa [strV] using hroom) hbase (fun v' w' q1 q2 q3 => h v' w' (by unfold OwT strV; rw [List.map_append]; exact q1) q2 q3)

theorem kpT {w1 w2 w0 : World} {B : Nat} (h : Below B w0 w1 ∧ B ≤ w1.heap.size) (hb : Below w1.heap.size w1 w2) : Below B w0 w2 ∧ B ≤ w2.heap.size := ⟨h.1.trans (hb.mono h.2), Nat.le_trans h.2 hb.size⟩
/-- Texts that have room at level 1. -/
def fineT (l : List ByteArray) : Prop := ∀ t ∈ l, 0 < t.size ∧ lnL t.data.toList ≤ 40 ∧ t.size ≤ 360

set_option maxRecDepth 100000 in
set_option maxHeartbeats 1600000 in
theorem texts_any (s : ByteArray) (v : Value) (raw : List (Int × Int)) (w : World) (hr : RdP w v raw) (hwf : WfP raw) :
    Calls Tryz.prog 16 #[.string s, v] w fun e w' => ∃ u l, e = .returned u ∧ RdT w' u l ∧ l.length ≤ 5 ∧ fineT l ∧ Below w.heap.size w w' := by
  obtain ⟨m, hmi, hm1, hm2⟩ := yI s.size 60 (by decide)
  have hmi2 : min (s.size : Int) 60 = (m : Int) := by rw [← hmi, Int.min_def]; split <;> split <;> omega
  obtain ⟨X, hX⟩ : ∃ X, X = s.extract 0 m := ⟨_, rfl⟩
  have hXs : X.size ≤ 60 := by rw [hX]; simp; omega
  have hX' := hX.symm
  have q1 : (m : Int) ≤ (s.size : Int) := by omega
  have hruns := fun W (h : Below w.heap.size w W ∧ w.heap.size ≤ W.heap.size) => LX v raw 300 W (hr.below h.1) hwf (by decide) (by decide)
  have hb0 : Below w.heap.size w w.drew ∧ w.heap.size ≤ w.drew.heap.size := ⟨(Below.refl w.heap.size w).drew, Nat.le_refl _⟩
  clear hX
  go_enter Tryz.func16, Tryz.ntmps16
  go_wp2_with fail
  go_cut [6] (fun c6 wx => ∃ Y : ByteArray, c6 = .string Y ∧ Y.size ≤ 360 ∧ Below w.heap.size w wx)
  case first =>
    go_region_held3 (fun wx => Below w.heap.size w wx ∧ w.heap.size ≤ wx.heap.size)
      (first
        | with_reducible assumption
        | with_reducible exact kpT (by assumption) (by assumption))
      (first
        | (go_at_call 41; with_reducible refine (hruns _ (by assumption)).mono ?_; rintro e w2 ⟨t2, rfl, ht2, h2⟩; have q3 : ¬ 9223372036854775807 < X.size + t2.size := by omega))
    all_goals
      obtain ⟨hbel, hsz⟩ := (show Below w.heap.size w w2 ∧ w.heap.size ≤ w2.heap.size by assumption)
      have hXt : (X ++ t2).size ≤ 360 := by rw [ByteArray.size_append]; omega
      go_wp2_with fail
      go_meet
      exact ⟨_, rfl, hXt, hbel⟩
  case rest =>
    obtain ⟨Y, rfl, hY, hbc⟩ := hcut
    clear hmi hmi2 hm1 hm2 hX' q1 hruns hb0 hXs hr hwf
    go_wp2_with fail
    go_loopg [5, 6, 7, 8] 5 (fun g s5 s6 s7 _s8 wr => ∃ (i : Nat) (rest : ByteArray) (l : List ByteArray), i ≤ 5 ∧ g = 5 - i ∧ s7 = .int .i64 (i : Int) ∧ s6 = .string rest ∧ rest.size ≤ 360 ∧ l.length = i ∧ fineT l ∧ OwT wr w.heap.size s5 l ∧ Below w.heap.size w wr)
    case atStart => exact ⟨0, Y, [], by decide, rfl, rfl, rfl, hY, rfl, fun t ht => by simp at ht, Ow.nil _ _ _, hbc⟩
    case round =>
      clear hY hbc
      obtain ⟨i, rest, l, hi, hg, rfl, rfl, hrs, hll, hfl, hot, hbel⟩ := hrel
      have HG := hid hg
      have HLL := hid hll
      clear hg hll
      have hsz := hbel.size
      by_cases hlt : i < 5
      rotate_left
      · have t1 : decide ((i : Int) < 5) = false := decide_eq_false (by omega)
        go_wp2_with fail
        go_ret
        exact ⟨_, l, rfl, hot.rd, by rw [HLL.out]; omega, hfl, hbel⟩
      have t1 : decide ((i : Int) < 5) = true := decide_eq_true (by omega)
      by_cases hne : rest.data.toList = []
      · have te : rest.toList.isEmpty = true := by rw [Lib.toList_data, hne]; rfl
        clear hne
        go_wp2_with fail
        go_ret
        exact ⟨_, l, rfl, hot.rd, by rw [HLL.out]; omega, hfl, hbel⟩
      have te : rest.toList.isEmpty = false := LR hne
      obtain ⟨R, hR1, hR2, hRc⟩ : ∃ R : Nat, 1 ≤ R ∧ R ≤ 40 ∧ ([Value.int .i64 40, .int .i64 7, .int .i64 23, .int .i64 40, .int .i64 13] : List Value)[i]? = some (.int .i64 (R : Int)) := by
        rcases (show i = 0 ∨ i = 1 ∨ i = 2 ∨ i = 3 ∨ i = 4 by omega) with rfl | rfl | rfl | rfl | rfl
        · exact ⟨40, by decide, by decide, rfl⟩
        · exact ⟨7, by decide, by decide, rfl⟩
        · exact ⟨23, by decide, by decide, rfl⟩
        · exact ⟨40, by decide, by decide, rfl⟩
        · exact ⟨13, by decide, by decide, rfl⟩
      have hA := Arr.new wr 3 [Value.int .i64 40, .int .i64 7, .int .i64 23, .int .i64 40, .int .i64 13]
      have c1 := hA.cell hRc
      change (wr.alloc (.cells #[Value.int .i64 40, .int .i64 7, .int .i64 23, .int .i64 40, .int .i64 13] 3)).cell? _ = _ at c1
      have hcut := fun W => refCut_any rest R W (by omega) (by omega)
      have hpos := cutL_pos (s := rest.data.toList) (room := R) hne hR1
      have his := cutL_is rest.data.toList R
      obtain ⟨K, hK⟩ : ∃ K, K = cutL rest.data.toList R := ⟨_, rfl⟩
      rw [← hK] at hcut hpos his
      have hll : rest.data.toList.length = rest.size := by simp
      have hK2 : K ≤ rest.size := by rw [← hll]; exact his.1
      have q1 : (i : Int) < 5 := by omega
      have q2 : (K : Int) ≤ (rest.size : Int) := by omega
      obtain ⟨x, hx⟩ : ∃ x, x = rest.extract 0 K := ⟨_, rfl⟩
      have hxd : x.data.toList = rest.data.toList.take K := by rw [hx, nT, fW, List.drop_zero, Nat.sub_zero]
      have hxs : x.size = K := by
        have : x.data.toList.length = x.size := by simp
        rw [← this, hxd, List.length_take, hll]
        omega
      obtain ⟨y, hy⟩ : ∃ y, y = rest.extract K rest.size := ⟨_, rfl⟩
      have hys : y.size ≤ 360 := by rw [hy]; simp; omega
      have hx' := hx.symm
      have hy' := hy.symm
      have hfl2 : fineT (l ++ [x]) := fun u hu => by
        rcases List.mem_append.1 hu with hu | hu
        · exact hfl u hu
        · obtain rfl := List.mem_singleton.1 hu
          exact ⟨by omega, by rw [hxd]; have := his.2.1; omega, by omega⟩
      have HF := hid hfl2
      have HLL2 := hid (show (l ++ [x]).length = i + 1 by rw [List.length_append, HLL.out]; rfl)
      have hl5 : l.length ≤ 5 := by rw [HLL.out]; exact hi
      clear hne hRc hA hpos his hK hll hx hxd hxs hy hfl2
      go_wp2_with fail
      refine (hcut _).mono ?_
      rintro e w2 ⟨rfl, hb2⟩
      have hbA : Below w.heap.size w (wr.alloc (.cells #[Value.int .i64 40, .int .i64 7, .int .i64 23, .int .i64 40, .int .i64 13] 3)) := hbel.alloc hsz _
      have hbel2 := hbA.trans (hb2.mono hbA.size)
      have hot2 : OwT w2 w.heap.size u5 l := Ow.below (Ow.alloc hot (.cells #[Value.int .i64 40, .int .i64 7, .int .i64 23, .int .i64 40, .int .i64 13] 3)) hb2 (Nat.le_refl _)
      have hsz2 := hbel2.size
      have hN := bS w2 (.string x) 9
      have hot3 : OwT (w2.alloc (.cells #[.string x] 9)) w.heap.size u5 l := Ow.alloc hot2 _
      have hbel3 : Below w.heap.size w (w2.alloc (.cells #[.string x] 9)) := hbel2.alloc hsz2 _
      clear hbA hb2 hot hot2 hbel hbel2 hcut c1
      go_wp2_with (at_builtin; refine appT rfl _ _ rfl w.heap.size _ _ rfl hot3 _ x rfl hN ?_ ?_ ?_; (omega); (simp; omega); intro v3 w3 p1 p2 p3)
      have hg := HG.out
      go_roundg (5 - (i + 1))
      case measure => omega
      case rel => exact ⟨i + 1, y, l ++ [x], by omega, rfl, by go_num, rfl, hys, HLL2.out, HF.out, p1, hbel3.trans p2⟩

set_option maxRecDepth 100000 in
set_option maxHeartbeats 800000 in
theorem joined17_any (v : Value) (l : List ByteArray) (w : World) (hr : RdT w v l) (hl : (catT l).size ≤ 1000000) :
    Calls Tryz.prog 21 #[v] w fun e w' => e = .returned (.string (catT l)) ∧ w' = w := by
  obtain ⟨a, ca, rfl, hca, hma, hA⟩ := hr.open
  unfold maxLen at hma
  clear hr
  have hcat : ∀ k x, l[k]? = some x → catT (l.take (k + 1)) = catT (l.take k) ++ x := fun k x hx => by
    rw [List.take_add_one, hx]
    refine ByteArray.ext (Array.toList_inj.1 ?_)
    rw [catT_append]
    show _ ++ (catT [x]).data.toList = _
    rw [ByteArray.data_append, Array.toList_append]
    unfold catT
    simp
  have hlen : ∀ k, (catT (l.take k)).size ≤ 1000000 := fun k => by
    have e : l = l.take k ++ l.drop k := (List.take_append_drop _ _).symm
    have h2 : (catT l).size = (catT (l.take k)).size + (catT (l.drop k)).size := by
      have h := congrArg List.length (catT_append (l.take k) (l.drop k))
      rw [← e, List.length_append] at h
      simpa using h
    omega
  go_enter Tryz.func21, Tryz.ntmps21
  go_wp2_with fail
  go_loopg [3, 4] l.length (fun g s3 s4 wr => ∃ (k : Nat) (X : ByteArray), k ≤ l.length ∧ g = l.length - k ∧ s4 = .int .i64 (k : Int) ∧ s3 = .string X ∧ Hid (X = catT (l.take k)) ∧ wr = w)
  case atStart => exact ⟨0, _, Nat.zero_le _, rfl, rfl, rfl, hid rfl, rfl⟩
  case round =>
    obtain ⟨k, X, hk, hg, rfl, rfl, HX, rfl⟩ := hrel
    have HG := hid hg
    clear hg
    by_cases hlt : k < l.length
    · have t1 : decide ((k : Int) < (l.length : Int)) = true := decide_eq_true (by omega)
      obtain ⟨b, off, rfl, hb, hc⟩ := hA (by omega)
      obtain ⟨x, hx⟩ : ∃ x, l[k]? = some x := ⟨_, List.getElem?_eq_getElem hlt⟩
      have c1 := hc k x hx
      have HN := hid (show X ++ x = catT (l.take (k + 1)) by rw [hcat k x hx, HX.out])
      have hXx : (X ++ x).size ≤ 1000000 := by rw [HN.out]; exact hlen _
      have q1 : ¬ 9223372036854775807 < (X ++ x).size := by omega
      have q2 : ¬ 9223372036854775807 < X.size + x.size := by rw [← ByteArray.size_append]; exact q1
      clear hx hc hA hlen hcat
      go_wp2_with fail
      have hg := HG.out
      go_roundg (l.length - (k + 1))
      case measure => omega
      case rel => exact ⟨k + 1, _, by omega, rfl, by go_num, rfl, HN, rfl⟩
    · have t1 : decide ((k : Int) < (l.length : Int)) = false := decide_eq_false (by omega)
      have HF := hid (show X = catT l by rw [HX.out, List.take_of_length_le (by omega)])
      go_wp2_with fail
      go_ret
      exact ⟨tY HF.out, rfl⟩

end Go.Proofs.YtpgmbhpbgkljdaaGreatDoor
