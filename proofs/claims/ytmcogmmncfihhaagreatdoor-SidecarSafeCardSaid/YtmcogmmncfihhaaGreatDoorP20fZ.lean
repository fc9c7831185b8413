/-
  The walks of the document's archives (chapter 17): sums of sums; Write of texts that are fine; archives of raw numbers.
-/
import Derived.Test.YtmcogmmncfihhaaGreatDoorZ23
set_option linter.unusedVariables false
set_option linter.unusedSimpArgs false
namespace Go.Proofs.YtmcogmmncfihhaaGreatDoor
open Go.RowKit Go Go.Shelf

theorem refFold_any (x b : BitVec 32) (w : World) :
    Calls Tryz.prog 62 #[.int .u32 (x.toNat : Int), .int .u32 (b.toNat : Int)] w fun e w' => e = .returned (.int .u32 ((aU8 x b).toNat : Int)) ∧ w' = w := by
  obtain ⟨X, hX⟩ : ∃ X, X = x.toNat := ⟨_, rfl⟩
  have hXb : X < 4294967296 := by rw [hX]; exact x.isLt
  obtain ⟨Y, hY⟩ : ∃ Y, Y = (x <<< 1).toNat := ⟨_, rfl⟩
  have hYe : Y = X * 2 % 4294967296 := by
    rw [hY, BitVec.toNat_shiftLeft, Nat.shiftLeft_eq, ← hX]
  obtain ⟨q, hq⟩ : ∃ q, q = x <<< 1 ||| x >>> 31 := ⟨_, rfl⟩
  have hZ : (x >>> 31).toNat = X / 2147483648 := by rw [BitVec.toNat_ushiftRight, Nat.shiftRight_eq_div_pow, ← hX]
  have hQ : q.toNat = Y + X / 2147483648 := by
    rw [hq, BitVec.toNat_or, ← hY, hZ]
    have hlt : X / 2147483648 < 2 ^ 1 := by omega
    have := Nat.two_pow_add_eq_or_of_lt hlt (Y / 2)
    rw [show 2 ^ 1 * (Y / 2) = Y by omega] at this
    exact this.symm
  have e3 := DW q b
  obtain ⟨r, hr⟩ : ∃ r, r = q ^^^ b := ⟨_, rfl⟩
  have HF := hid (show ((r.toNat : Nat) : Int) = ((aU8 x b).toNat : Int) by rw [hr, hq]; rfl)
  obtain ⟨Q, hQQ⟩ : ∃ Q, Q = q.toNat := ⟨_, rfl⟩
  obtain ⟨B, hB⟩ : ∃ B, B = b.toNat := ⟨_, rfl⟩
  obtain ⟨R, hR⟩ : ∃ R, R = r.toNat := ⟨_, rfl⟩
  rw [← hr, ← hQQ, ← hB, ← hR] at e3
  rw [← hR] at HF
  rw [← hX, ← hB]
  rw [← hQQ] at hQ
  have e1 : 2 * (X : Int) % 4294967296 = (Y : Int) := by omega
  clear hX hY hq hZ hr hQQ hB hR
  by_cases h : 2147483648 ≤ X
  · have t1 : decide ((X : Int) ≥ 2147483648) = true := decide_eq_true (by omega)
    have t2 : decide (2147483648 ≤ (X : Int)) = true := decide_eq_true (by omega)
    have e2 : ((Y : Int) + 1) % 4294967296 = (Q : Int) := by omega
    have e2' : (Y : Int) + 1 = (Q : Int) := by omega
    have hQb : Q < 4294967296 := by omega
    clear hYe hQ
    go_enter Tryz.func62, Tryz.ntmps62
    go_wp2_with fail
    go_ret
    exact ⟨fX HF.out, rfl⟩
  · have t1 : decide ((X : Int) ≥ 2147483648) = false := decide_eq_false (by omega)
    have t2 : decide (2147483648 ≤ (X : Int)) = false := decide_eq_false (by omega)
    obtain rfl : Y = Q := by omega
    have e1' : 2 * (X : Int) = (Y : Int) := by omega
    clear hYe hQ
    go_enter Tryz.func62, Tryz.ntmps62
    go_wp2_with fail
    go_ret
    exact ⟨fX HF.out, rfl⟩

set_option maxRecDepth 100000 in
set_option maxHeartbeats 1600000 in
theorem refAll3_any (v : Value) (l : List (BitVec 32)) (w : World) (hr : RdS w v l) :
    Calls Tryz.prog 42 #[v] w fun e w' => e = .returned (.int .u32 ((aUi l).toNat : Int)) ∧ w' = w := by
  obtain ⟨a, ca, rfl, hca, hma, hA⟩ := hr.open
  unfold maxLen at hma
  clear hr
  obtain ⟨Z, hZ⟩ : ∃ Z, Z = (aUi (l.take 0)).toNat := ⟨_, rfl⟩
  have hz0 : (Z : Int) = 0 := by rw [hZ]; rfl
  go_enter Tryz.func42, Tryz.ntmps42
  go_wp2_with fail
  go_loopg [3, 4] l.length (fun g s3 s4 wr => ∃ k X : Nat, k ≤ l.length ∧ g = l.length - k ∧ s4 = .int .i64 (k : Int) ∧ s3 = .int .u32 (X : Int) ∧ Hid (X = (aUi (l.take k)).toNat) ∧ wr = w)
  case atStart => exact ⟨0, Z, Nat.zero_le _, rfl, rfl, by rw [hz0], hid hZ, rfl⟩
  case round =>
    obtain ⟨k, X, hk, hg, rfl, rfl, HX, rfl⟩ := hrel
    have HG := hid hg
    clear hg hz0 hZ
    by_cases hlt : k < l.length
    · have t1 : decide ((k : Int) < (l.length : Int)) = true := decide_eq_true (by omega)
      obtain ⟨b, off, rfl, hb, hc⟩ := hA (by omega)
      obtain ⟨x, hx⟩ : ∃ x, l[k]? = some x := ⟨_, List.getElem?_eq_getElem hlt⟩
      have c1 := hc k x hx
      have hcall := refFold_any (aUi (l.take k)) x wr
      rw [← aW4 hx, ← HX.out] at hcall
      obtain ⟨Y, hY⟩ : ∃ Y, Y = (aUi (l.take (k + 1))).toNat := ⟨_, rfl⟩
      obtain ⟨x', hx'⟩ : ∃ x', x' = x.toNat := ⟨_, rfl⟩
      rw [← hY, ← hx'] at hcall
      rw [← hx'] at c1
      have HY := hid hY
      clear hY hx' hx hc hA
      go_wp2_with fail
      refine hcall.mono ?_
      rintro e w2 ⟨rfl, rfl⟩
      go_wp2_with fail
      have hg := HG.out
      go_roundg (l.length - (k + 1))
      case measure => omega
      case rel => exact ⟨k + 1, Y, by omega, rfl, by go_num, rfl, HY, rfl⟩
    · have t1 : decide ((k : Int) < (l.length : Int)) = false := decide_eq_false (by omega)
      have HF := hid (show ((X : Nat) : Int) = ((aUi l).toNat : Int) by rw [HX.out, List.take_of_length_le (by omega)])
      go_wp2_with fail
      go_ret
      exact ⟨fX HF.out, rfl⟩

/-- The row of sums is another one than a row of numbers. -/
theorem sums_other {W W' : World} {B : Nat} {v u : Value} {l : List (BitVec 32)} {m : List Int} (h : OwS W B v l) (ho : OwI W B u m) (hg : W.grownBy W' u.ownBlock) : OwS W' B v l := aZ1 h ho hg (by decide)
theorem bits_other {W W' : World} {B : Nat} {v u : Value} {l : List (BitVec 32)} {m : List Int} (h : OwI W B u m) (ho : OwS W B v l) (hg : W.grownBy W' v.ownBlock) : OwI W' B u m := aZ1 h ho hg (by decide)
theorem bI_app20 (x y : List Bool) : bI (x ++ y) = bI x ++ bI y := List.map_append ..

set_option maxRecDepth 100000 in
set_option maxHeartbeats 6400000 in
/-- What the document writes of texts that have room. -/
theorem refWrite_fine (N : Nat) (v : Value) (l : List ByteArray) (w : World) (hr : RdT w v l) (hl : l.length ≤ 5) (hf : aYr l) (h1 : 1 ≤ N) (h9 : N ≤ 9) :
    Calls Tryz.prog 22 #[.int .i64 (N : Int), v] w fun e w' => e = .returned (.tuple #[.string (aYf [(N, l)]), .int .i64 0]) ∧ okA [(N, l)] ∧ Below w.heap.size w w' := by
  obtain ⟨a, ca, rfl, hca, hma, hA⟩ := hr.open
  unfold maxLen at hma
  have hen : ∀ t ∈ l, eZ t (40 * (N : Int)) = 0 := fun t ht => by
    obtain ⟨f1, f2, f3⟩ := hf t ht
    unfold lnL at f2
    exact wY f1 (by omega) (by omega) (by omega)
  obtain ⟨M, hM⟩ : ∃ M, M = 40 * N := ⟨_, rfl⟩
  have m1 : 40 * (N : Int) = (M : Int) := by omega
  have hMb : M ≤ 360 := by omega
  rw [m1] at hen
  have HEN := hid hen
  have hsz : ∀ t ∈ l, t.size ≤ 360 := fun t ht => (hf t ht).2.2
  have HSZ := hid hsz
  have t1 : decide ((N : Int) < 1) = false := decide_eq_false (by omega)
  have t2 : decide ((N : Int) > 9) = false := decide_eq_false (by omega)
  have t3 : decide (9 < (N : Int)) = false := decide_eq_false (by omega)
  obtain ⟨N1, hN1⟩ : ∃ N1, N1 = N + 1 := ⟨_, rfl⟩
  have m2 : (N : Int) + 1 = (N1 : Int) := by omega
  have hN1b : N1 ≤ 10 := by omega
  obtain ⟨D, hD⟩ : ∃ D, D = (⟨#[48, 49, 50, 51, 52, 53, 54, 55, 56, 57]⟩ : ByteArray).extract N N1 := ⟨_, rfl⟩
  obtain ⟨X, hX⟩ : ∃ X : ByteArray, X = ⟨#[80, 77, 107]⟩ ++ D := ⟨_, rfl⟩
  have hXe : X.data.toList = aYl N := by
    rw [hX, hD, hN1]
    have : N = 1 ∨ N = 2 ∨ N = 3 ∨ N = 4 ∨ N = 5 ∨ N = 6 ∨ N = 7 ∨ N = 8 ∨ N = 9 := by omega
    rcases this with rfl | rfl | rfl | rfl | rfl | rfl | rfl | rfl | rfl <;> rfl
  have hDs : D.size = 1 := by
    have := congrArg List.length hXe
    rw [hX, ByteArray.data_append, Array.toList_append, List.length_append] at this
    have e : D.data.toList.length = D.size := rfl
    rw [e] at this
    have e2 : (aYl N).length = 4 := rfl
    rw [e2] at this
    have e3 : (⟨#[80, 77, 107]⟩ : ByteArray).data.toList.length = 3 := rfl
    omega
  have hall := fun W => aD7 X W (by rw [hX, ByteArray.size_append, hDs]; decide)
  rw [hXe] at hall
  have hD' := hD.symm
  have hX' := hX.symm
  obtain ⟨HB, hHB⟩ : ∃ HB, HB = kW (aYl N) := ⟨_, rfl⟩
  have hHBl : HB.length = 32 := by rw [hHB, xZ]; rfl
  rw [← hHB] at hall
  have HHB := hid hHB
  have HM := hid hM
  clear hf hen hsz hM hN1 hD hX hXe hHB hr
  go_enter Tryz.func22, Tryz.ntmps22
  go_wp2_with fail
  refine (hall _).mono ?_
  rintro e w1 ⟨u1, rfl, ho1, hb1⟩
  clear hall hD' hX' t1 t2 t3 m2
  go_wp2_with fail
  go_loopg [6, 7, 8, 9, 10] l.length (fun g s6 s7 s8 _s9 _s10 wr => ∃ k : Nat, k ≤ l.length ∧ g = l.length - k ∧ s8 = .int .i64 (k : Int) ∧ OwI wr w.heap.size s6 (bI (HB ++ aYg (l.take k))) ∧ OwS wr w.heap.size s7 ((l.take k).map (fun t => fG t.data.toList)) ∧ Below w.heap.size w wr ∧ Hid (∀ t ∈ l.take k, okT (M : Int) t))
  case atStart => exact ⟨0, Nat.zero_le _, rfl, rfl, by rw [List.take_zero]; show OwI w1 w.heap.size u1 (bI (HB ++ [])); rw [List.append_nil]; exact ho1, Ow.nil _ _ _, hb1, hid (fun t ht => by simp at ht)⟩
  case round =>
    obtain ⟨k, hk, hg, rfl, ho, hos, hbel, HOK⟩ := hrel
    have HG := hid hg
    have hsz2 := hbel.size
    clear hg ho1 hb1
    by_cases hlt : k < l.length
    · have t4 : decide ((k : Int) < (l.length : Int)) = true := decide_eq_true (by omega)
      obtain ⟨b, off, rfl, hbs, hc⟩ := hA (by omega)
      obtain ⟨t, ht⟩ : ∃ t, l[k]? = some t := ⟨_, List.getElem?_eq_getElem hlt⟩
      have HCT := hid (hc k t ht)
      have c1 := (hbel.cell (p := ⟨b, off + k, none⟩) hbs).trans (hc k t ht)
      have htm := HSZ.out t (List.mem_of_getElem? ht)
      have hen := HEN.out t (List.mem_of_getElem? ht)
      obtain ⟨Y, hY⟩ : ∃ Y, Y = cB t := ⟨_, rfl⟩
      have henc : ∀ W, Calls Tryz.prog 38 #[.string t, .int .i64 (M : Int)] W fun e w' => e = .returned (.tuple #[.agg #[.string (mkS (aD Y)), .int .i64 (Y.length : Int)], .int .i64 0]) ∧ Below W.heap.size W w' ∧ fS (mkS (bC t.data.toList)) := fun W => by
        refine (aTs t (M : Int) W (by omega) (by omega) (by omega)).mono ?_
        rintro e w' ⟨he, hb, ho⟩
        unfold mP eL at he
        rw [hen, if_pos rfl, ← hY] at he
        exact ⟨he, hb, ho hen⟩
      have hli := fun W (h : Y.length ≤ 1000000) => wV Y W h
      have hsu := fun W => WH t W (by omega)
      obtain ⟨S, hS⟩ : ∃ S, S = fG t.data.toList := ⟨_, rfl⟩
      rw [← hS] at hsu
      obtain ⟨E, hEe⟩ : ∃ E, E = HB ++ aYg (l.take k) := ⟨_, rfl⟩
      have hEl : E.length ≤ 140100 := by
        have := aYu (r := (M : Int)) (by omega) (l.take k) HOK.out
        rw [List.length_take] at this
        rw [hEe, List.length_append, hHBl]
        omega
      have HE2 := hid (show HB ++ aYg (l.take (k + 1)) = E ++ Y by rw [bAs ht, hEe, hY, List.append_assoc])
      have HS2 := hid (show (l.take (k + 1)).map (fun t => fG t.data.toList) = (l.take k).map (fun t => fG t.data.toList) ++ [S] by rw [List.take_add_one, ht, List.map_append, hS]; rfl)
      have HTK := hid (show l.take (k + 1) = l.take k ++ [t] by rw [List.take_add_one, ht]; rfl)
      have hYp : 0 < Y.length := by
        have := aZl t
        rw [hY]
        omega
      have HY := hid hY
      obtain ⟨Q, hQ⟩ : ∃ Q, Q = (l.take k).map (fun t => fG t.data.toList) := ⟨_, rfl⟩
      have hQl : Q.length ≤ 5 := by rw [hQ, List.length_map, List.length_take]; omega
      rw [← hEe] at ho
      rw [← hQ] at hos HS2
      have HEN1 := hid hen
      clear hEe hY hS hQ ht hc hA hen
      go_wp2_with fail
      refine (henc _).mono ?_
      rintro e w2 ⟨rfl, hb2, hord⟩
      have ho2 : OwI w2 w.heap.size u6 (bI E) := Ow.below ho hb2 (Nat.le_refl _)
      have hos2 : OwS w2 w.heap.size u7 Q := Ow.below hos hb2 (Nat.le_refl _)
      have h2 := hbel.trans (hb2.mono hsz2)
      have hz2 := h2.size
      have hok := bAt HEN1.out hord
      have hYl : Y.length ≤ 28000 := by
        have := aYu (r := (M : Int)) (by omega) [t] (fun x hx => by rw [List.mem_singleton.1 hx]; exact hok)
        rw [aY6] at this
        rw [HY.out]
        simp only [aYg, List.map_nil, List.flatten_nil, List.append_nil, List.length_singleton] at this
        omega
      have HOK2 := hid (show ∀ x ∈ l.take (k + 1), okT (M : Int) x by
        rw [HTK.out]
        intro x hx
        rcases List.mem_append.1 hx with hx | hx
        · exact HOK.out x hx
        · rw [List.mem_singleton.1 hx]
          exact hok)
      have ho3 : OwI _ w.heap.size u6 (bI E) := Ow.alloc ho2 (.cells #[.string (mkS (aD Y)), .int .i64 (Y.length : Int)] 82)
      have hos3 : OwS _ w.heap.size u7 Q := Ow.alloc hos2 (.cells #[.string (mkS (aD Y)), .int .i64 (Y.length : Int)] 82)
      have h3 := h2.alloc hz2 (.cells #[.string (mkS (aD Y)), .int .i64 (Y.length : Int)] 82)
      have hz3 := h3.size
      have hN3 := Arr.new w2 82 [.string (mkS (aD Y)), .int .i64 (Y.length : Int)]
      change Arr (w2.alloc (.cells #[.string (mkS (aD Y)), .int .i64 (Y.length : Int)] 82)) _ _ _ at hN3
      have hli := fun W => hli W (by omega)
      clear henc hb2 hord ho hos hbel hsz2 ho2 hos2 h2 hok HEN1 hz2
      have d0 := hN3.cell (i := 0) rfl
      have d1 := hN3.cell (i := 1) rfl
      go_wp2_with fail
      refine (hli _).mono ?_
      rintro e w4 ⟨v4, rfl, hr4, hb4⟩
      have ho4 : OwI w4 w.heap.size u6 (bI E) := Ow.below ho3 hb4 (Nat.le_refl _)
      have hos4 : OwS w4 w.heap.size u7 Q := Ow.below hos3 hb4 (Nat.le_refl _)
      have h4 := h3.trans (hb4.mono hz3)
      have hz4 := h4.size
      have hbl : ((bI E).length + (bI Y).length) * 8 ≤ 140737488355328 := by rw [cN, cN]; omega
      have hbp : 0 < (bI Y).length := by rw [cN]; exact hYp
      clear hli hb4 ho3 hos3 h3 hz3 hN3 d0 d1
      go_wp2_with (at_builtin; refine kG rfl _ _ rfl w.heap.size _ _ _ rfl ho4 _ rfl hr4 hbp hbl hz4 ?_; intro v5 w5 p1 p2 p3 _; (have hos5 : OwS w5 w.heap.size u7 Q := sums_other hos4 ho4 p3); (have h5 := h4.trans p2); (have hz5 := h5.size); (have c5 := (h5.cell (p := ⟨b, off + k, none⟩) hbs).trans HCT.out); (rw [← bI_app20, ← HE2.out] at p1))
      refine (hsu _).mono ?_
      rintro e w' ⟨rfl, rfl⟩
      clear hsu ho4 hos4 h4 hz4 hr4 p2 p3
      go_wp2_with (at_builtin; refine bAw rfl _ _ rfl w.heap.size _ _ rfl (Ow.alloc hos5 _) _ S rfl (bS _ _ _) ?_ ?_ ?_; (omega); (simp; omega); intro v6 w6 r1 r2 r3; (have ho6 := bits_other (Ow.alloc p1 _ : OwI _ _ _ _) (Ow.alloc hos5 _) r3))
      have hg := HG.out
      go_roundg (l.length - (k + 1))
      case measure => omega
      case rel => exact ⟨k + 1, by omega, rfl, by go_num, ho6, by rw [HS2.out]; exact r1, (h5.alloc hz5 _).trans r2, HOK2⟩
    · have t4 : decide ((k : Int) < (l.length : Int)) = false := decide_eq_false (by omega)
      obtain rfl : k = l.length := by omega
      rw [List.take_length] at ho hos HOK
      have hn1 := fun W => uF 25779555029136 48 W (by decide) (by decide)
      obtain ⟨S, hS⟩ : ∃ S, S = (aUi (l.map (fun t => fG t.data.toList))).toNat := ⟨_, rfl⟩
      have hSb : S < 4294967296 := by rw [hS]; exact (aUi (l.map (fun t => fG t.data.toList))).isLt
      have hal := fun W h => refAll3_any u7 (l.map (fun t => fG t.data.toList)) W h
      rw [← hS] at hal
      have hn2 := fun W => uF S 32 W (by omega) (by decide)
      obtain ⟨E, hEe⟩ : ∃ E, E = HB ++ aYg l := ⟨_, rfl⟩
      have hEl : E.length ≤ 140100 := by
        have := aYu (r := (M : Int)) (by omega) l HOK.out
        rw [hEe, List.length_append, hHBl]
        omega
      obtain ⟨G, hG⟩ : ∃ G, G = aY 25779555029136 48 := ⟨_, rfl⟩
      have hGl : G.length = 48 := by rw [hG, cY]
      obtain ⟨J, hJ⟩ : ∃ J, J = aY S 32 := ⟨_, rfl⟩
      have hJl : J.length = 32 := by rw [hJ, cY]
      obtain ⟨F, hF⟩ : ∃ F, F = E ++ G ++ J := ⟨_, rfl⟩
      have hFl : F.length ≤ 200000 := by rw [hF, List.length_append, List.length_append]; omega
      have HF := hid (show mkS (aD F) = aYf [(N, l)] by
        unfold aYf
        rw [← aYt, hF, hG, hJ, hEe, HHB.out, hS, List.append_assoc, List.append_assoc]
        rfl)
      rw [← hEe] at ho
      rw [← hG] at hn1
      rw [← hJ] at hn2
      have hof := fun W u (h : RdI W u (bI F)) => uG u F W h (by omega)
      have m5 : IntKind.u64.wrap (S : Int) = (S : Int) := by rw [IntKind.wrap_u64]; omega
      have m5' : (S : Int) % 18446744073709551616 = (S : Int) := by omega
      have hF' := hid hF
      have HOKA : Hid (okA [(N, l)]) := hid (bA6 h1 h9 (fun t ht => by
        have := HOK.out t ht
        rw [← m1] at this
        exact this))
      obtain ⟨Q, hQ⟩ : ∃ Q, Q = l.map (fun t => fG t.data.toList) := ⟨_, rfl⟩
      rw [← hQ] at hos hal
      clear hS hEe hG hJ hF hQ hA
      go_wp2_with fail
      refine (hn1 _).mono ?_
      rintro e w2 ⟨u2, rfl, hr2, hb2⟩
      have ho2 : OwI w2 w.heap.size u6 (bI E) := Ow.below ho hb2 (Nat.le_refl _)
      have hos2 : OwS w2 w.heap.size u7 Q := Ow.below hos hb2 (Nat.le_refl _)
      have h2 := hbel.trans (hb2.mono hsz2)
      have hz2 := h2.size
      have hb1 : ((bI E).length + (bI G).length) * 8 ≤ 140737488355328 := by rw [cN, cN]; omega
      have hbp : 0 < (bI G).length := by rw [cN]; omega
      clear hn1 hb2 ho hos hbel hsz2
      go_wp2_with (at_builtin; refine kG rfl _ _ rfl w.heap.size _ _ _ rfl ho2 _ rfl (OwI.rd hr2) hbp hb1 hz2 ?_; intro v3 w3 p1 p2 p3 _; (have hos3 : OwS w3 w.heap.size u7 Q := sums_other hos2 ho2 p3); (have h3 := h2.trans p2); (have hz3 := h3.size))
      refine (hal _ (OwS.rd hos3)).mono ?_
      rintro e w' ⟨rfl, rfl⟩
      clear hal ho2 hos2 h2 hz2 hr2 p2 p3 hb1 hbp
      go_wp2_with fail
      refine (hn2 _).mono ?_
      rintro e w4 ⟨u4, rfl, hr4, hb4⟩
      have ho4 : OwI w4 w.heap.size v3 (bI E ++ bI G) := Ow.below p1 hb4 (Nat.le_refl _)
      have h4 := h3.trans (hb4.mono hz3)
      have hz4 := h4.size
      have hb5 : ((bI E ++ bI G).length + (bI J).length) * 8 ≤ 140737488355328 := by rw [List.length_append, cN, cN, cN]; omega
      have hbp : 0 < (bI J).length := by rw [cN]; omega
      clear hn2 hb4 p1 hos3 h3 hz3
      go_wp2_with (at_builtin; refine kG rfl _ _ rfl w.heap.size _ _ _ rfl ho4 _ rfl (OwI.rd hr4) hbp hb5 hz4 ?_; intro v5 w5 p1 p2 p3 _; (have h5 := h4.trans p2); (have hz5 := h5.size); (rw [← bI_app20, ← bI_app20, ← hF'.out] at p1))
      refine (hof _ _ (OwI.rd p1)).mono ?_
      rintro e w6 ⟨rfl, hb6⟩
      have h6 := h5.trans (hb6.mono hz5)
      have h7 := h6.alloc h6.size (.cells #[.string (mkS (aD F)), .int .i64 (F.length : Int)] 82)
      have hN7 := Arr.new w6 82 [.string (mkS (aD F)), .int .i64 (F.length : Int)]
      change Arr (w6.alloc (.cells #[.string (mkS (aD F)), .int .i64 (F.length : Int)] 82)) _ _ _ at hN7
      have d0 := hN7.cell (i := 0) rfl
      clear hof hb6 h5 hz5 p2 p3 p1 ho4 hr4 h4 hz4 h6 hN7
      go_wp2_with fail
      go_ret2
      exact ⟨by rw [← HF.out]; rfl, HOKA.out, h7⟩

end Go.Proofs.YtmcogmmncfihhaaGreatDoor
