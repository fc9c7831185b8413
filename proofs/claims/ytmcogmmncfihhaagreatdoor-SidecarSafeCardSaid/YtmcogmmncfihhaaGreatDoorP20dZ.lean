/-
  The walks of sidecars (chapter 20): what a sidecar says.
-/
import Derived.Test.YtmcogmmncfihhaaGreatDoorP20cZ
import Derived.Test.YtmcogmmncfihhaaGreatDoorM20bZ
import Derived.Test.YtmcogmmncfihhaaGreatDoorZ22
set_option linter.unusedVariables false
set_option linter.unusedSimpArgs false
namespace Go.Proofs.YtmcogmmncfihhaaGreatDoor
open Go.RowKit Go Go.Shelf

theorem rdl_any (p : Nat) (t : List UInt8) (gr : Bool) (m : Nat) (w : World) (hA : Arr w p 95 [.string (mkS t), .bool gr]) (hm : m ≤ 8) (hs : m ≤ t.length) (hz : t.length ≤ 1000000000) :
    Calls Tryz.prog 45 #[.pointer (some ⟨p, 0, none⟩), .int .i64 (m : Int)] w fun e w' => e = .returned (.int .i64 (IntKind.i64.wrap (valB (t.take m) : Int))) ∧ Arr w' p 95 [.string (mkS (t.drop m)), .bool (gr || decide (9223372036854775808 ≤ valB (t.take m)))] ∧ w.grownBy w' (some p) := by
  have h := rdn_any p (mkS t) gr m w hA hm (by rw [cP]; exact hs) (by rw [cP]; exact hz)
  rw [fW] at h
  exact h
/-- A number of fewer bytes is never too great. -/
theorem rds_any (p : Nat) (t : List UInt8) (gr : Bool) (m V : Nat) (w : World) (hA : Arr w p 95 [.string (mkS t), .bool gr]) (hm : m ≤ 4) (hs : m ≤ t.length) (hz : t.length ≤ 1000000000) (hV : V = valB (t.take m)) :
    Calls Tryz.prog 45 #[.pointer (some ⟨p, 0, none⟩), .int .i64 (m : Int)] w fun e w' => e = .returned (.int .i64 (V : Int)) ∧ Arr w' p 95 [.string (mkS (t.drop m)), .bool gr] ∧ w.grownBy w' (some p) := by
  have h := rdl_any p t gr m w hA (by omega) hs hz
  have hv := valB_lt' (s := t.take m) (k := 4) (n := 4294967296) (by rw [List.length_take]; omega) (by decide)
  have e1 : IntKind.i64.wrap (valB (t.take m) : Int) = (valB (t.take m) : Int) := by rw [IntKind.wrap_i64]; omega
  rw [e1, decide_eq_false (by omega), Bool.or_false, ← hV] at h
  exact h
theorem blG20 {B g : Nat} {a W W' : World} (h : Below B a W) (hg : W.grownBy W' (some g)) (hB : B ≤ g) (hs : B ≤ W.heap.size) : Below B a W' :=
  h.grown hg hs (fun k e => by injection e with e; omega)
theorem appE20 {ops : Array Oper} {rest : List Oper} {o : Oper} {a : Act} {Q : Exit → Act → World → Prop} {w : World} (hgd : o.guard = none) (s x : Operand)
    (ho : o.op = .call { callee := .builtin .append, args := #[s, x], argTypes := #[26, 26] }) (base : Nat) (v : Value) (l : aUh) (hs : a.eval s = v) (hown : OwR w base 51 5 v l)
    (p : Ent) (g : Nat) (hx : a.eval x = .slice (some ⟨g, 0, none⟩) 1 1) (hA : Arr w g 51 (LF p)) (hroom : (l.length + 1) * 40 ≤ 140737488355328) (hbase : base ≤ w.heap.size)
    (h : ∀ v' w', OwR w' base 51 5 v' (l ++ [LF p]) → Below base w w' → wpList Tryz.prog ops Q rest (a.put o.dst v') w') : wpList Tryz.prog ops Q (o :: rest) a w := by
  refine wpList_plain hgd fun K hK => ?_
  obtain ⟨v', w', hr, q1, q2, q3⟩ := aVt aWf o.type base v l hown _ _ (RdR.one hA) (aVn [p]) (Nat.succ_pos _) hroom hbase
  unfold Oper.wp execOp
  simp only [ho, resolve, invoke, builtin, Sem.run_bind, Sem.run_pure, Result.andThen_ok, List.map_toArray, List.map_cons, List.map_nil, hs, hx, hr]
  exact hK _ _ (h v' w' q1 q2)

theorem results_tmp4 {fn : Func} {t u v x : Tmp} (h : fn.results = #[.tmp t, .tmp u, .tmp v, .tmp x]) (tmps : Array Value) (P : Program) (w : World) :
    (results fn tmps).run P w = .ok (.tuple #[tmps.getD t undef, tmps.getD u undef, tmps.getD v undef, tmps.getD x undef]) w := by
  simp [results, h]
/-- What is wrong, as a value. -/
def ErrOf (er : Value) (x : Int) : Prop := (er = .nilIface ∧ x = 0) ∨ ∃ p : ByteArray, er = .iface 71 (.agg #[.string p, .iface 69 (.int .i64 x)]) ∧ (x = 2 ∨ x = 3 ∨ x = 7)

set_option maxRecDepth 100000 in
set_option maxHeartbeats 6400000 in
theorem read20_any (s : ByteArray) (w : World) (hs : s.size ≤ 1000000) :
    Calls Tryz.prog 28 #[.string s] w fun e w' => ∃ (v er : Value), e = .returned (.tuple #[v, .int .i64 ((readD s.data.toList).2.1 : Int), .int .u32 ((readD s.data.toList).2.2.1 : Int), er]) ∧ RdR w' v ((readD s.data.toList).1.map LF) ∧ ErrOf er (readD s.data.toList).2.2.2 ∧ Below w.heap.size w w' := by
  have hL : s.data.toList.length = s.size := rfl
  obtain ⟨l, hl⟩ : ∃ l, l = s.data.toList := ⟨_, rfl⟩
  have hx4 := nT s 0 4
  have hx20 := nT s 4 s.size
  rw [← hl] at hL hx4 hx20 ⊢
  rw [List.take_of_length_le (by rw [List.length_drop, hL]; omega)] at hx20
  rw [List.drop_zero, Nat.sub_zero] at hx4
  obtain ⟨D, hD⟩ : ∃ D, D = readD l := ⟨_, rfl⟩
  rw [← hD]
  have HD := hid hD
  have HL := hid hL
  clear hD hl hL
  by_cases q1 : s.size < 20
  · obtain rfl : D = ([], 0, 0, 2) := by
      have hL := HL.out
      rw [HD.out]
      unfold readD
      rw [if_pos (by omega)]
    have t1 : decide ((s.size : Int) < 20) = true := decide_eq_true (by omega)
    go_enter Tryz.func28, Tryz.ntmps28
    go_wp2_with fail
    refine bodyPost_ret (results_tmp4 rfl _ _ _) rfl ?_
    exact ⟨_, _, rfl, RdR.nil _, .inr ⟨_, rfl, .inl rfl⟩, Below.refl _ _⟩
  have t1 : decide ((s.size : Int) < 20) = false := decide_eq_false (by omega)
  obtain ⟨V1, hV1⟩ : ∃ V1, V1 = valB ((l.drop 4).take 8) := ⟨_, rfl⟩
  obtain ⟨V2, hV2⟩ : ∃ V2, V2 = valB ((l.drop 12).take 4) := ⟨_, rfl⟩
  obtain ⟨V3, hV3⟩ : ∃ V3, V3 = valB ((l.drop 16).take 4) := ⟨_, rfl⟩
  obtain ⟨G, hG⟩ : ∃ G, G = decide (9223372036854775808 ≤ V1) := ⟨_, rfl⟩
  have b2 : V2 < 4294967296 := by rw [hV2]; exact valB_lt' (k := 4) (by rw [List.length_take]; omega) (by decide)
  have b3 : V3 < 4294967296 := by rw [hV3]; exact valB_lt' (k := 4) (by rw [List.length_take]; omega) (by decide)
  have hn1 := fun W h => rdl_any w.heap.size (l.drop 4) false 8 W h (by decide) (by rw [List.length_drop, HL.out]; omega) (by rw [List.length_drop, HL.out]; omega)
  have hn2 := fun W h => rds_any w.heap.size (l.drop 12) G 4 V2 W h (by decide) (by rw [List.length_drop, HL.out]; omega) (by rw [List.length_drop, HL.out]; omega) hV2
  have hn3 := fun W h => rds_any w.heap.size (l.drop 16) G 4 V3 W h (by decide) (by rw [List.length_drop, HL.out]; omega) (by rw [List.length_drop, HL.out]; omega) hV3
  rw [← hV1, Bool.false_or, ← hG] at hn1
  simp only [List.drop_drop, Nat.reduceAdd] at hn1 hn2 hn3
  have HD2 := hid (show D = if l.take 4 ≠ [80, 77, 105, 49] ∨ 9223372036854775808 ≤ V1 then ([], 0, 0, 3)
      else if l.length < 20 + 26 * V3 then ([], 0, 0, 2)
      else if 20 + 26 * V3 < l.length then ([], 0, 0, 3)
      else if ¬ ((∀ x ∈ entsA V3 (l.drop 20), x.a < 9223372036854775808 ∧ x.f < 9223372036854775808) ∧ aU1 (entsA V3 (l.drop 20))) then ([], 0, 0, 3)
      else (entsA V3 (l.drop 20), V1, V2, 0) by
    have hL := HL.out
    rw [HD.out]
    unfold readD
    rw [if_neg (by omega), ← hV1, ← hV2, ← hV3])
  have HGd := hid hG
  clear HD hV1 hV2 hV3 hG
  have m2 : IntKind.u32.wrap (V2 : Int) = (V2 : Int) := by rw [IntKind.wrap_u32]; omega
  have m2' : (V2 : Int) % 4294967296 = (V2 : Int) := by omega
  have hN := Arr.new w 95 [.string (mkS (l.drop 4)), .bool false]
  change Arr (w.alloc (.cells #[.string (mkS (l.drop 4)), .bool false] 95)) _ _ _ at hN
  have hB0 : Below w.heap.size w (w.alloc (.cells #[.string (mkS (l.drop 4)), .bool false] 95)) := bD (Below.refl _ _) _
  obtain ⟨p, hp⟩ : ∃ p, p = w.heap.size := ⟨_, rfl⟩
  go_enter Tryz.func28, Tryz.ntmps28
  go_wp2_with fail
  generalize w.alloc (.cells #[.string (mkS (l.drop 4)), .bool false] 95) = w0 at *
  rw [← hp] at hN hn1 hn2 hn3 hB0 ⊢
  have HP := hid hp
  clear hp
  refine (hn1 _ hN).mono ?_
  rintro e w1 ⟨rfl, hN1, hg1⟩
  have h1 := blG20 hB0 hg1 (Nat.le_refl _) (Nat.le_of_lt hN.lt)
  clear hn1 hg1 hN hB0
  go_wp2_with fail
  refine (hn2 _ hN1).mono ?_
  rintro e w2 ⟨rfl, hN2, hg2⟩
  have h2 := blG20 h1 hg2 (Nat.le_refl _) (Nat.le_of_lt hN1.lt)
  clear hn2 hg2 hN1 h1
  go_wp2_with fail
  refine (hn3 _ hN2).mono ?_
  rintro e w3 ⟨rfl, hN3, hg3⟩
  have h3 := blG20 h2 hg3 (Nat.le_refl _) (Nat.le_of_lt hN2.lt)
  clear hn3 hg3 hN2 h2
  have c1 := hN3.cell (i := 1) rfl
  have htl : ∀ x : List UInt8, (mkS x).toList = x := fun x => by rw [ByteArray.toList_eq, fW]
  by_cases q2 : l.take 4 = [80, 77, 105, 49]
  rotate_left
  · obtain rfl : D = ([], 0, 0, 3) := by rw [HD2.out, if_pos (.inl q2)]
    have u1 : ((mkS (l.take 4)).toList == [80, 77, 105, 49]) = false := by rw [htl]; exact beq_eq_false_iff_ne.2 q2
    clear htl
    go_wp2_with fail
    refine bodyPost_ret (results_tmp4 rfl _ _ _) rfl ?_
    exact ⟨_, _, rfl, RdR.nil _, .inr ⟨_, rfl, .inr (.inl rfl)⟩, by rw [← HP.out]; exact h3⟩
  have u1 : ((mkS (l.take 4)).toList == [80, 77, 105, 49]) = true := by rw [htl]; exact beq_iff_eq.2 q2
  have HQ := hid q2
  clear htl q2
  cases G with
  | true =>
    obtain rfl : D = ([], 0, 0, 3) := by rw [HD2.out, if_pos (.inr (of_decide_eq_true HGd.out.symm))]
    go_wp2_with fail
    refine bodyPost_ret (results_tmp4 rfl _ _ _) rfl ?_
    exact ⟨_, _, rfl, RdR.nil _, .inr ⟨_, rfl, .inr (.inl rfl)⟩, by rw [← HP.out]; exact h3⟩
  | false =>
  have hG := of_decide_eq_false HGd.out.symm
  have mV : IntKind.i64.wrap (V1 : Int) = (V1 : Int) := by rw [IntKind.wrap_i64]; omega
  have HD3 := hid (show D = if l.length < 20 + 26 * V3 then ([], 0, 0, 2)
      else if 20 + 26 * V3 < l.length then ([], 0, 0, 3)
      else if ¬ ((∀ x ∈ entsA V3 (l.drop 20), x.a < 9223372036854775808 ∧ x.f < 9223372036854775808) ∧ aU1 (entsA V3 (l.drop 20))) then ([], 0, 0, 3)
      else (entsA V3 (l.drop 20), V1, V2, 0) by
    rw [HD2.out, if_neg (by rintro (h | h) <;> first | exact h HQ.out | exact hG h)])
  have hTl : (l.drop 20).length = s.size - 20 := by rw [List.length_drop, HL.out]
  obtain ⟨K, hK⟩ : ∃ K, K = s.size - 20 := ⟨_, rfl⟩
  have hLK : l.length = K + 20 := by rw [HL.out]; omega
  rw [← hK] at hTl
  obtain ⟨T, hT⟩ : ∃ T, T = l.drop 20 := ⟨_, rfl⟩
  rw [← hT] at hTl hN3 HD3
  have hK1 : K ≤ 1000000 := by omega
  clear HD2 hG hK hT
  have c0 := hN3.cell (i := 0) rfl
  obtain ⟨N, hNe⟩ : ∃ N, N = 26 * V3 := ⟨_, rfl⟩
  have m3 : IntKind.i64.wrap (26 * (V3 : Int)) = (N : Int) := by rw [IntKind.wrap_i64]; omega
  have m3' : 26 * (V3 : Int) = (N : Int) := by omega
  have HN := hid hNe
  clear hNe
  by_cases q3 : K < N
  · obtain rfl : D = ([], 0, 0, 2) := by
      have := HN.out
      rw [HD3.out, if_pos (by omega)]
    have u2 : decide ((K : Int) < (N : Int)) = true := decide_eq_true (by omega)
    go_wp2_with fail
    refine bodyPost_ret (results_tmp4 rfl _ _ _) rfl ?_
    exact ⟨_, _, rfl, RdR.nil _, .inr ⟨_, rfl, .inl rfl⟩, by rw [← HP.out]; exact h3⟩
  have u2 : decide ((K : Int) < (N : Int)) = false := decide_eq_false (by omega)
  by_cases q4 : N < K
  · obtain rfl : D = ([], 0, 0, 3) := by
      have := HN.out
      rw [HD3.out, if_neg (by omega), if_pos (by omega)]
    have u3 : decide ((K : Int) > (N : Int)) = true := decide_eq_true (by omega)
    have u3' : decide ((N : Int) < (K : Int)) = true := decide_eq_true (by omega)
    go_wp2_with fail
    refine bodyPost_ret (results_tmp4 rfl _ _ _) rfl ?_
    exact ⟨_, _, rfl, RdR.nil _, .inr ⟨_, rfl, .inr (.inl rfl)⟩, by rw [← HP.out]; exact h3⟩
  have u3 : decide ((K : Int) > (N : Int)) = false := decide_eq_false (by omega)
  have u3' : decide ((N : Int) < (K : Int)) = false := decide_eq_false (by omega)
  have HD4 := hid (show D = if ¬ ((∀ x ∈ entsA V3 T, x.a < 9223372036854775808 ∧ x.f < 9223372036854775808) ∧ aU1 (entsA V3 T)) then ([], 0, 0, 3) else (entsA V3 T, V1, V2, 0) by
    have := HN.out
    rw [HD3.out, if_neg (by omega), if_neg (by omega)])
  have HT := hid (show T.length = 26 * V3 by have := HN.out; omega)
  have hV3 : V3 ≤ 40000 := by have := HN.out; omega
  clear HD3 HN
  go_wp2_with fail
  clear c0 c1 hx4 hx20
  go_loopg [2, 53] V3 (fun g s2 s53 wr => ∃ k : Nat, k ≤ V3 ∧ g = V3 - k ∧ s53 = .int .i64 (k : Int) ∧ Arr wr p 95 [.string (mkS (T.drop (26 * k))), .bool (greatsW k T)] ∧ OwR wr (p + 1) 51 5 s2 ((entsW k T).map LF) ∧ Below p w wr)
  case atStart => exact ⟨0, Nat.zero_le _, rfl, rfl, hN3, OwR.nil _ _ _ _, h3⟩
  case round =>
    obtain ⟨k, hk, hg, rfl, hA, hor, hbel⟩ := hrel
    have HG := hid hg
    clear hg hN3 h3
    by_cases hlt : k < V3
    · have v1 : decide ((k : Int) < (V3 : Int)) = true := decide_eq_true (by omega)
      obtain ⟨t, ht⟩ : ∃ t, t = T.drop (26 * k) := ⟨_, rfl⟩
      have htl : 26 ≤ t.length ∧ t.length ≤ 1000000 := by
        have h1 := HT.out
        have h2 : T.length = K := hTl
        rw [ht, List.length_drop]
        omega
      obtain ⟨Z1, hZ1⟩ : ∃ Z1 : Int, Z1 = IntKind.i64.wrap (valB (t.take 8) : Int) := ⟨_, rfl⟩
      obtain ⟨Z2, hZ2⟩ : ∃ Z2 : Nat, Z2 = valB ((t.drop 8).take 2) := ⟨_, rfl⟩
      obtain ⟨Z3, hZ3⟩ : ∃ Z3 : Int, Z3 = IntKind.i64.wrap (valB ((t.drop 10).take 8) : Int) := ⟨_, rfl⟩
      obtain ⟨Z4, hZ4⟩ : ∃ Z4 : Nat, Z4 = valB ((t.drop 18).take 4) := ⟨_, rfl⟩
      obtain ⟨Z5, hZ5⟩ : ∃ Z5 : Nat, Z5 = valB ((t.drop 22).take 4) := ⟨_, rfl⟩
      obtain ⟨g1, hg1⟩ : ∃ g1 : Bool, g1 = (greatsW k T || decide (9223372036854775808 ≤ valB (t.take 8))) := ⟨_, rfl⟩
      obtain ⟨g2, hg2⟩ : ∃ g2 : Bool, g2 = (g1 || decide (9223372036854775808 ≤ valB ((t.drop 10).take 8))) := ⟨_, rfl⟩
      have HE := hid (show (entsW (k + 1) T).map LF = (entsW k T).map LF ++ [LF ⟨Z1, (Z2 : Int), Z3, (Z4 : Int), (Z5 : Int)⟩] by
        rw [entsW_snoc, List.map_append, ← ht, hZ1, hZ2, hZ3, hZ4, hZ5]
        rfl)
      have HGr := hid (show g2 = greatsW (k + 1) T by
        rw [greatsW_snoc, ← ht, hg2, hg1, Bool.or_assoc]
        rfl)
      have HDr := hid (show t.drop 26 = T.drop (26 * (k + 1)) by rw [ht, List.drop_drop]; rfl)
      have hn1 := fun W h => rdl_any p t (greatsW k T) 8 W h (by decide) (by omega) (by omega)
      have hn2 := fun W h => rds_any p (t.drop 8) g1 2 Z2 W h (by decide) (by rw [List.length_drop]; omega) (by rw [List.length_drop]; omega) hZ2
      have hn3 := fun W h => rdl_any p (t.drop 10) g1 8 W h (by decide) (by rw [List.length_drop]; omega) (by rw [List.length_drop]; omega)
      have hn4 := fun W h => rds_any p (t.drop 18) g2 4 Z4 W h (by decide) (by rw [List.length_drop]; omega) (by rw [List.length_drop]; omega) hZ4
      have hn5 := fun W h => rds_any p (t.drop 22) g2 4 Z5 W h (by decide) (by rw [List.length_drop]; omega) (by rw [List.length_drop]; omega) hZ5
      have b5 : Z5 < 4294967296 := by rw [hZ5]; exact valB_lt' (k := 4) (by rw [List.length_take]; omega) (by decide)
      rw [← hZ1, ← hg1] at hn1
      rw [← hZ3, ← hg2] at hn3
      simp only [List.drop_drop, Nat.reduceAdd] at hn2 hn3 hn4 hn5
      rw [HDr.out, HGr.out] at hn5
      rw [← ht] at hA
      have hel : ((entsW k T).map LF).length ≤ 40000 := by rw [List.length_map, entsW_length]; omega
      obtain ⟨L, hL⟩ : ∃ L, L = (entsW k T).map LF := ⟨_, rfl⟩
      rw [← hL] at HE hor hel
      have m5 : IntKind.u32.wrap (Z5 : Int) = (Z5 : Int) := by rw [IntKind.wrap_u32]; omega
      have m5' : (Z5 : Int) % 4294967296 = (Z5 : Int) := by omega
      clear ht hZ1 hZ2 hZ3 hZ4 hZ5 hg1 hg2 hL
      go_wp2_with fail
      refine (hn1 _ hA).mono ?_
      rintro e w4 ⟨rfl, hA4, hg4⟩
      have h4 := blG20 hbel hg4 (Nat.le_refl _) (Nat.le_of_lt hA.lt)
      have ho4 := hor.kept hg4 (.inr (fun e => absurd (hor.lt _ e).1 (by omega)))
      clear hn1 hA hg4 hbel hor
      go_wp2_with fail
      refine (hn2 _ hA4).mono ?_
      rintro e w5 ⟨rfl, hA5, hg5⟩
      have h5 := blG20 h4 hg5 (Nat.le_refl _) (Nat.le_of_lt hA4.lt)
      have ho5 := ho4.kept hg5 (.inr (fun e => absurd (ho4.lt _ e).1 (by omega)))
      clear hn2 hA4 hg5 h4 ho4
      go_wp2_with fail
      refine (hn3 _ hA5).mono ?_
      rintro e w6 ⟨rfl, hA6, hg6⟩
      have h6 := blG20 h5 hg6 (Nat.le_refl _) (Nat.le_of_lt hA5.lt)
      have ho6 := ho5.kept hg6 (.inr (fun e => absurd (ho5.lt _ e).1 (by omega)))
      clear hn3 hA5 hg6 h5 ho5
      go_wp2_with fail
      refine (hn4 _ hA6).mono ?_
      rintro e w7 ⟨rfl, hA7, hg7⟩
      have h7 := blG20 h6 hg7 (Nat.le_refl _) (Nat.le_of_lt hA6.lt)
      have ho7 := ho6.kept hg7 (.inr (fun e => absurd (ho6.lt _ e).1 (by omega)))
      clear hn4 hA6 hg7 h6 ho6
      rw [HGr.out] at hA7
      go_wp2_with fail
      refine (hn5 _ hA7).mono ?_
      rintro e w8 ⟨rfl, hA8, hg8⟩
      have h8 := blG20 h7 hg8 (Nat.le_refl _) (Nat.le_of_lt hA7.lt)
      have ho8 := ho7.kept hg8 (.inr (fun e => absurd (ho7.lt _ e).1 (by omega)))
      have hp8 := hA8.lt
      clear hn5 hA7 hg8 h7 ho7
      go_wp2_with (at_builtin; refine appE20 rfl _ _ rfl (p + 1) _ _ rfl (OwR.alloc ho8 _) ⟨Z1, (Z2 : Int), Z3, (Z4 : Int), (Z5 : Int)⟩ w8.heap.size rfl (Arr.new w8 _ _) ?_ ?_ ?_; (omega); (simp; omega); intro v' w9 q1 q2)
      have hg := HG.out
      go_roundg (V3 - (k + 1))
      case measure => omega
      case rel => exact ⟨k + 1, by omega, rfl, by go_num, (hA8.alloc _).below q2 (Nat.lt_succ_self _), by rw [HE.out]; exact q1, (h8.alloc (Nat.le_of_lt hp8) _).trans (q2.mono (Nat.le_succ _))⟩
    · have v1 : decide ((k : Int) < (V3 : Int)) = false := decide_eq_false (by omega)
      obtain rfl : k = V3 := by omega
      have c1 := hA.cell (i := 1) rfl
      have hTK' := hA.lt
      have hlE : (entsW k T).length ≤ 1000000 := by rw [entsW_length]; omega
      cases hgr : greatsW k T with
      | true =>
        rw [hgr] at c1
        obtain rfl : D = ([], 0, 0, 3) := by
          rw [HD4.out, if_pos (fun h => by rw [(greatsW_iff k T).2 h.1] at hgr; exact absurd hgr (by decide))]
        clear hgr hA
        go_wp2_with fail
        refine bodyPost_ret (results_tmp4 rfl _ _ _) rfl ?_
        exact ⟨_, _, rfl, RdR.nil _, .inr ⟨_, rfl, .inr (.inl rfl)⟩, by rw [← HP.out]; exact hbel⟩
      | false =>
        rw [hgr] at c1
        have hfi := (greatsW_iff k T).1 hgr
        have hr := OwR.rd hor
        rw [entsW_fine k T hgr] at hr hlE
        clear hgr hA hor
        have hri := aX7 u2 _ wr hr hlE
        by_cases hR : aU1 (entsA k T)
        · rw [decide_eq_true hR] at hri
          obtain rfl : D = (entsA k T, V1, V2, 0) := by rw [HD4.out, if_neg (fun h => h ⟨hfi, hR⟩)]
          clear hfi hR
          go_wp2_with fail
          refine hri.mono ?_
          rintro e w4 ⟨rfl, h4⟩
          have hr4 := hr.below h4
          have h5 : Below p w w4 := hbel.trans (h4.mono (Nat.le_of_lt hTK'))
          go_wp2_with fail
          refine bodyPost_ret (results_tmp4 rfl _ _ _) rfl ?_
          exact ⟨_, _, rfl, hr4, .inl ⟨rfl, rfl⟩, by rw [← HP.out]; exact h5⟩
        · rw [decide_eq_false hR] at hri
          obtain rfl : D = ([], 0, 0, 3) := by rw [HD4.out, if_pos (fun h => hR h.2)]
          clear hfi hR
          go_wp2_with fail
          refine hri.mono ?_
          rintro e w4 ⟨rfl, h4⟩
          have h5 : Below p w w4 := hbel.trans (h4.mono (Nat.le_of_lt hTK'))
          go_wp2_with fail
          refine bodyPost_ret (results_tmp4 rfl _ _ _) rfl ?_
          exact ⟨_, _, rfl, RdR.nil _, .inr ⟨_, rfl, .inr (.inl rfl)⟩, by rw [← HP.out]; exact h5⟩

end Go.Proofs.YtmcogmmncfihhaaGreatDoor
