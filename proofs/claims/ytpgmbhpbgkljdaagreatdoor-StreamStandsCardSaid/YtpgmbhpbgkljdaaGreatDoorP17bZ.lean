/-
  The walks of streams (chapter 17): a stream's blocks, one behind the other; an archive's parts.
-/
import Derived.Test.YtpgmbhpbgkljdaaGreatDoorP17eZ
import Derived.Test.YtpgmbhpbgkljdaaGreatDoorRftZ
import Derived.Test.YtpgmbhpbgkljdaaGreatDoorZ23
set_option linter.unusedVariables false
set_option linter.unusedSimpArgs false
namespace Go.Proofs.YtpgmbhpbgkljdaaGreatDoor
open Go.RowKit Go Go.Shelf

attribute [local go_sem] Oper.semAt_some

abbrev PrtE := Prt × Int
def encPE (x : PrtE) : Array Value := #[.agg #[.string x.1.t, .int .u32 x.1.y, .int .i64 x.1.a, .int .i64 x.1.z, .int .i64 x.1.r], .int .i64 x.2]
/-- The types of what whoever ranges writes, and of what the iterator writes. -/
def TyCons : List TypeId := [83, 90, 26]
def TyIter : List TypeId := [190, 34, 9]
structure KeepR (B : Nat) (W W' : World) : Prop where
  bel : Below B W W'
  ty : TyKept TyCons none W W'
theorem KeepR.trans {B : Nat} {X Y Z : World} (h : KeepR B X Y) (k : KeepR B Y Z) : KeepR B X Z := ⟨h.bel.trans k.bel, h.ty.trans k.ty⟩
theorem KeepR.of {B : Nat} {X Y : World} (h : Below X.heap.size X Y) (hB : B ≤ X.heap.size) : KeepR B X Y := ⟨h.mono hB, .of_below h⟩
theorem KeepR.drew (B : Nat) (X : World) : KeepR B X X.drew := ⟨(Below.refl B X).drew, Nat.le_refl _, fun _ _ _ _ h _ _ => h⟩
theorem KeepR.drewN (B : Nat) (X : World) (n : Nat) : KeepR B X (X.drewN n) := ⟨⟨rfl, rfl, rfl, Nat.le_refl _, fun _ _ => rfl⟩, Nat.le_refl _, fun _ _ _ _ h _ _ => h⟩
theorem KeepR.set {B b i : Nat} {X : World} {l : List Value} (h : Arr X b 190 l) (hB : B ≤ b) (v : Value) : KeepR B X (X.setCell ⟨b, i, none⟩ v) :=
  ⟨(Below.refl B X).setCell (p := ⟨b, i, none⟩) hB v, .box h (by unfold TyCons; decide) v⟩
theorem KeepR.grown {B b : Nat} {X Y : World} {l : List Value} (h : X.grownBy Y (some b)) (ha : Arr X b 190 l) (hB : B ≤ b) : KeepR B X Y :=
  ⟨(Below.refl B X).grown h (by have := ha.lt; omega) (fun k hk => by cases hk; exact hB), .grownBox h ha (by unfold TyCons; decide)⟩
/-- What is said of whoever ranges. -/
abbrev JOk (B : Nat) (J : List PrtE → World → Prop) : Prop := ∀ s X Y, J s X → KeepR B X Y → J s Y
abbrev YOk (n l B : Nat) (T : List PrtE) (J Jx : List PrtE → World → Prop) : Prop := ∀ pre x W1, J pre W1 → B ≤ W1.heap.size → (∃ r, T = pre ++ x :: r) →
  YieldAt Fence.wide n Tryz.prog l (encPE x) W1 fun e W' => (e = .returned (.bool true) ∧ J (pre ++ [x]) W' ∧ TyKept TyIter none W1 W') ∨ (e = .returned (.bool false) ∧ Jx (pre ++ [x]) W')
def sumsB (l : List Prt) : List (BitVec 32) := l.map (fun p => BitVec.ofInt 32 p.y)
theorem SRd.kept {W W' : World} {b : Nat} {s : ByteArray} {a : Int} {v : Value} (h : SRd W b s a v) (k : TyKept TyIter none W W') : SRd W' b s a v := k.arr h (by unfold TyIter; decide) (fun e => by cases e)
theorem OwS.kept {W W' : World} {B : Nat} {v : Value} {l : List (BitVec 32)} (h : OwS W B v l) (k : TyKept TyIter none W W') : OwS W' B v l := TyKept.own k h (by unfold TyIter; decide)

theorem stream_err {s : List UInt8} {a : Int} {pre T : List PrtE} {acc : List Prt} {E : Int} (h : InT s a pre T) (h1 : (strD s a).1 = acc) (h2 : (strD s a).2.2 = E) (hE : E ≠ 0) : T = (pre ++ okP acc) ++ [(zeroP, E)] := by
  have := h.bad (by rw [h2]; exact hE)
  rw [h1, h2] at this
  exact this

theorem run_appU {w : World} (ty : TypeId) (base : Nat) (v : Value) (l : List (BitVec 32)) (hown : OwS w base v l) (g : Nat) (n : BitVec 32) (hc : w.cell? ⟨g, 0, none⟩ = some (.int .u32 (n.toNat : Int))) (hroom : (l.length + 1) * 4 ≤ 140737488355328) (hbase : base ≤ w.heap.size) :
    ∃ v' w', (Builtin.append_ #[44, 44] ty #[v, .slice (some ⟨g, 0, none⟩) 1 1]).run Tryz.prog w = .ok v' w' ∧ OwS w' base v' (l ++ [n]) ∧ Below base w w' ∧ w.grownBy w' v.ownBlock := by
  obtain ⟨i, hi, hz, h2, h3⟩ := info_parts (show (Tryz.prog.info? 34).map (fun i => (i.zero, i.size, i.bytes)) = some (some (.int .u32 0), 1, 4) by kernel_rfl)
  obtain ⟨v', w', q1, q2, q3, _⟩ := run_append_own (P := Tryz.prog) w base 44 ty 34 i _ 1 4 Tryz.underlying44 hi hz h2 h3 rfl (by decide) v (sumV l).length (sumV l) hown ⟨g, 0, none⟩ 1 1 [.int .u32 (n.toNat : Int)] rfl (fun j u' hj => by
    cases j with
    | zero => simp at hj; subst hj; simpa [Addr.add] using hc
    | succ j => simp at hj) (fun u' hu => by obtain rfl := List.mem_singleton.1 hu; rfl) (by rw [sumV_length]; simp only [maxLen]; omega) (by rw [sumV_length]; exact hroom) hbase
  refine ⟨v', w', q1, ?_, rC hown q3 hbase, q3⟩
  unfold OwS sumV
  rw [List.map_append]
  unfold Ow
  rw [List.length_append]
  exact q2
/-- What whoever ranges makes of an error. -/
theorem bad_yield {n l B : Nat} {T pre : List PrtE} {J Jx : List PrtE → World → Prop} {E : Int} {X : World} (hY : YOk n l B T J Jx) (hT : T = pre ++ [(zeroP, E)]) (hJ : J pre X) (hB : B ≤ X.heap.size) :
    ∃ fn tmps assign body, (Instr.yield l #[.agg #[.string ⟨#[]⟩, .int .u32 0, .int .i64 0, .int .i64 0, .int .i64 0], .int .i64 E]).run Tryz.prog X = .ok (.round l fn tmps assign body) X ∧
      RoundIn Fence.wide n Tryz.prog l fn tmps assign body X (fun e W' => (∃ c, e = .returned (.bool c)) ∧ (J T W' ∨ ∃ p, Jx p W')) := by
  obtain ⟨fn, tmps, assign, body, hy, hR⟩ := hY _ (zeroP, E) X hJ hB ⟨[], hT⟩
  refine ⟨fn, tmps, assign, body, hy, hR.mono ?_⟩
  rintro e W' (⟨rfl, hj, -⟩ | ⟨rfl, hj⟩)
  · exact ⟨⟨_, rfl⟩, .inl (by rw [hT]; exact hj)⟩
  · exact ⟨⟨_, rfl⟩, .inr ⟨_, hj⟩⟩
/-- A box of one type, and a row of another one that grows. -/
theorem Arr.otherRow {w w' : World} {z e B e' size n : Nat} {l : List Value} {v : Value} {xs : List Value} (h : Arr w z e l) (ho : w.ownsRow B e' size v n xs) (hg : w.grownBy w' v.ownBlock) (he : e ≠ e') : Arr w' z e l := by
  refine h.grown hg ?_
  rcases ho.2 with ⟨rfl, _⟩ | ⟨g, cap, cur, rfl, _, hgc, _⟩
  · exact fun q => by cases q
  · intro q
    obtain rfl := Option.some.inj q
    have h2 : w.heap[z]? = some (.cells l.toArray e (0, 0)) := h
    rw [h2] at hgc
    injection hgc with hgc
    injection hgc with _ q2 _
    exact he q2
theorem ofNat_sum {y : Nat} (h : y < 4294967296) : (BitVec.ofNat 32 y).toNat = y := by rw [BitVec.toNat_ofNat]; exact Nat.mod_eq_of_lt h
/-- What is held while a block is read: the reader's cells, and a block's box. -/
theorem keepZ {w0 w1 w2 : World} {b z : Nat} {u0 u1 : Value} (h : w1.cell? ⟨b, 0, none⟩ = some u0 ∧ w1.cell? ⟨b, 1, none⟩ = some u1 ∧ (∃ y0 y1 y2 y3, Arr w1 z 36 [y0, y1, y2, y3]) ∧ Below z w0 w1 ∧ z + 1 ≤ w1.heap.size) (hb : Below w1.heap.size w1 w2) : w2.cell? ⟨b, 0, none⟩ = some u0 ∧ w2.cell? ⟨b, 1, none⟩ = some u1 ∧ (∃ y0 y1 y2 y3, Arr w2 z 36 [y0, y1, y2, y3]) ∧ Below z w0 w2 ∧ z + 1 ≤ w2.heap.size := by
  obtain ⟨h1, h2, ⟨y0, y1, y2, y3, h3⟩, h4, h5⟩ := h
  exact ⟨(hb.cell (World.block_lt_of_cell? w1 _ h1)).trans h1, (hb.cell (World.block_lt_of_cell? w1 _ h2)).trans h2, ⟨y0, y1, y2, y3, h3.below hb h3.lt⟩, h4.trans (hb.mono (by omega)), Nat.le_trans h5 hb.size⟩
theorem keepZS {w0 w1 : World} {b z : Nat} {u0 u1 : Value} (h : w1.cell? ⟨b, 0, none⟩ = some u0 ∧ w1.cell? ⟨b, 1, none⟩ = some u1 ∧ (∃ y0 y1 y2 y3, Arr w1 z 36 [y0, y1, y2, y3]) ∧ Below z w0 w1 ∧ z + 1 ≤ w1.heap.size) (hbz : b < z) (v0 v1 v2 v3 : Value) (w2 : World) (hw : w2 = (((w1.setCell ⟨z, 0, none⟩ v0).setCell ⟨z, 1, none⟩ v1).setCell ⟨z, 2, none⟩ v2).setCell ⟨z, 3, none⟩ v3) : w2.cell? ⟨b, 0, none⟩ = some u0 ∧ w2.cell? ⟨b, 1, none⟩ = some u1 ∧ (∃ y0 y1 y2 y3, Arr w2 z 36 [y0, y1, y2, y3]) ∧ Below z w0 w2 ∧ z + 1 ≤ w2.heap.size := by
  obtain ⟨h1, h2, ⟨y0, y1, y2, y3, h3⟩, h4, h5⟩ := h
  have hB : Below z w1 w2 := by rw [hw]; exact ((((Below.refl z w1).setCell (p := ⟨z, 0, none⟩) (Nat.le_refl _) v0).setCell (p := ⟨z, 1, none⟩) (Nat.le_refl _) v1).setCell (p := ⟨z, 2, none⟩) (Nat.le_refl _) v2).setCell (p := ⟨z, 3, none⟩) (Nat.le_refl _) v3
  have hA : Arr w2 z 36 [v0, v1, v2, v3] := by rw [hw]; exact (((h3.set 0 v0).set 1 v1).set 2 v2).set 3 v3
  exact ⟨(hB.cell (p := ⟨b, 0, none⟩) hbz).trans h1, (hB.cell (p := ⟨b, 1, none⟩) hbz).trans h2, ⟨v0, v1, v2, v3, hA⟩, h4.trans hB, by have := hA.lt; omega⟩
/-- Where a stream's loop fH. -/
def StQ (s : List UInt8) (R : Int) (P : List Prt × Int × Int) (g : Nat) (E : Int) (acc : List Prt) (a : Nat) : Prop :=
  (E = 0 ∧ P = strF s R g (a : Int) acc ∧ 40 ≤ R ∧ R ≤ 360 ∧ a ≤ 8 * s.length ∧ 8 * s.length + 33 ≤ g + a ∧ acc.length + g ≤ 8 * s.length + 1) ∨ (E ≠ 0 ∧ P.1 = acc ∧ P.2.2 = E)
theorem strF_succ (s : List UInt8) (r : Int) (f : Nat) (a : Int) (acc : List Prt) : strF s r (f + 1) a acc = if aO s.length a 48 ≠ 0 then (acc, a, aO s.length a 48)
    else if aE s a 48 = 0x177245385090 then (acc, (endD s a (allB (sumsB acc))).1, (endD s a (allB (sumsB acc))).2)
    else if aE s a 48 ≠ 0x314159265359 then (acc, a, 3)
    else if (cL s a r).2.2.2 ≠ 0 then (acc, a, (cL s a r).2.2.2)
    else strF s r f (cL s a r).2.2.1 (acc ++ [⟨(cL s a r).1, (cL s a r).2.1, a, (cL s a r).2.2.1, r⟩]) := rfl

set_option maxRecDepth 100000 in
set_option maxHeartbeats 1600000 in
theorem stream_in (n : Nat) (hn : 1 ≤ n) (l b B0 k : Nat) (s : ByteArray) (v0 : Value) (pre0 T : List PrtE) (J Jx : List PrtE → World → Prop) (W : World) (hs : s.size ≤ 120000) (hk : k < s.size)
    (hA : SRd W b s ((8 * k : Nat) : Int) v0) (hbB : B0 ≤ b) (hJ : JOk B0 J) (hJE : ∀ p X, J p X → iF X) (hY : YOk (n - 1) l B0 T J Jx) (hIn : InT s.data.toList ((8 * k : Nat) : Int) pre0 T) (h0 : J pre0 W) :
    CallsIn Fence.wide n Tryz.prog 120 #[.pointer (some ⟨b, 0, none⟩), .func (.yield l) #[] #[]] W fun e W' =>
      (e = .returned (.bool true) ∧ (strD s.data.toList ((8 * k : Nat) : Int)).2.2 = 0 ∧ J (pre0 ++ okP (strD s.data.toList ((8 * k : Nat) : Int)).1) W' ∧ ∃ v, SRd W' b s (strD s.data.toList ((8 * k : Nat) : Int)).2.1 v) ∨
      (e = .returned (.bool false) ∧ (J T W' ∨ ∃ pre, Jx pre W')) := by
  refine callsIn_of_wp Tryz.func120 rfl trivial ?_ rfl
  simp only [Tryz.ntmps120, List.size_toArray, List.length_cons, List.length_nil, Nat.reduceAdd, Nat.reduceSub, Array.replicate_succ, Array.replicate_zero, List.push_toArray, List.append_toArray, List.nil_append, List.cons_append]
  have HL := hid (show s.data.toList.length = s.size by simp)
  have hbW : b < W.heap.size := Arr.lt hA
  have hroom := fun X => room_any s k X (by omega) (by omega)
  obtain ⟨R, E0, hRE⟩ : ∃ R E0, roomL s.data.toList k = (R, E0) := ⟨_, _, rfl⟩
  rw [hRE] at hroom
  have hrok : E0 = 0 → 40 ≤ R ∧ R ≤ 360 ∧ R % 40 = 0 ∧ k + 4 ≤ s.size := fun h => by
    have h1 := room_ok (s := s.data.toList) (k := k) (by rw [hRE]; exact h)
    rw [hRE] at h1
    refine ⟨h1.1, h1.2.1, h1.2.2, ?_⟩
    refine Nat.le_of_not_lt fun q => ?_
    have : roomL s.data.toList k = (0, 2) := by unfold roomL; rw [if_pos (by rw [HL.out]; exact q)]
    rw [hRE] at this
    injection this with _ h2
    rw [h] at h2
    exact absurd h2 (by decide)
  have hD : strD s.data.toList ((8 * k : Nat) : Int) = if E0 ≠ 0 then ([], ((8 * k : Nat) : Int), E0) else strF s.data.toList R (8 * s.size + 1) ((8 * k + 32 : Nat) : Int) [] := by
    unfold strD
    rw [show (((8 * k : Nat) : Int) / 8).toNat = k by omega, hRE, HL.out]
    rfl
  obtain ⟨P1, P2, P3, hP⟩ : ∃ P1 P2 P3, strD s.data.toList ((8 * k : Nat) : Int) = (P1, P2, P3) := ⟨_, _, _, rfl⟩
  have herr := fun acc E h1 h2 hE => stream_err (acc := acc) (E := E) hIn h1 h2 hE
  have hpart := hIn.part
  rw [hP] at hD herr hpart ⊢
  simp only at herr hpart ⊢
  obtain ⟨A0, hA0⟩ : ∃ A0, A0 = 8 * k := ⟨_, rfl⟩
  rw [← hA0] at hA
  have m1 : (A0 : Int).tdiv 8 = (k : Int) := by rw [Int.tdiv_eq_ediv_of_nonneg (by omega)]; omega
  have m1' : IntKind.i64.wrap (k : Int) = (k : Int) := by rw [IntKind.wrap_i64]; omega
  obtain ⟨A1, hA1⟩ : ∃ A1, A1 = A0 + 32 := ⟨_, rfl⟩
  have m2 : IntKind.i64.wrap ((A0 : Int) + 32) = (A1 : Int) := by rw [IntKind.wrap_i64]; omega
  have m2' : (A0 : Int) + 32 = (A1 : Int) := by omega
  rw [show 8 * k + 32 = A1 by omega] at hD
  have HP := hid hP
  have HD := hid hD
  have c0 := Arr.cell hA (i := 0) rfl
  have c1 := Arr.cell hA (i := 1) rfl
  have hA1b : A1 ≤ 1000000 := by omega
  have hA0b : A0 ≤ 1000000 := by omega
  have HA0 := hid hA0
  have HA1 := hid hA1
  clear hD hP hIn hRE hA0 hA1
  gi_wp2_with fail
  refine wpIn_wide.2 ?_
  go_quiet (first | (go_at_call 139; exact Calls.quiet_of_same (hroom _)))
  generalize hWn : W.drewN nq = W1 at *
  have hA1' : SRd W1 b s (A0 : Int) v0 := by rw [← hWn]; exact hA
  have hJ1 : J pre0 W1 := hJ _ _ _ h0 (by rw [← hWn]; exact KeepR.drewN _ _ _)
  have d1 := Arr.cell hA1' (i := 1) rfl
  have f1 := Arr.free hA1' 1
  have hA2 : SRd (W1.setCell ⟨b, 1, none⟩ (.int .i64 (A1 : Int))) b s (A1 : Int) v0 := Arr.set hA1' 1 _
  have d2 := Arr.cell hA2 (i := 2) rfl
  have f2 := Arr.free hA2 2
  have hA3 : SRd ((W1.setCell ⟨b, 1, none⟩ (.int .i64 (A1 : Int))).setCell ⟨b, 2, none⟩ (.slice none 0 0)) b s (A1 : Int) (.slice none 0 0) := Arr.set hA2 2 _
  have hJ3 : J pre0 ((W1.setCell ⟨b, 1, none⟩ (.int .i64 (A1 : Int))).setCell ⟨b, 2, none⟩ (.slice none 0 0)) := hJ _ _ _ hJ1 ((KeepR.set hA1' hbB _).trans (KeepR.set hA2 hbB _))
  have hbW3 := Arr.lt hA3
  have HQ := hid (show StQ s.data.toList R (P1, P2, P3) (8 * s.size + 1) E0 [] A1 by
    have h := HD.out
    have hA0 := HA0.out
    have hA1 := HA1.out
    unfold StQ
    rw [HL.out]
    by_cases q : E0 = 0
    · obtain ⟨r1, r2, -, r4⟩ := hrok q
      rw [if_neg (fun z => z q)] at h
      exact .inl ⟨q, h, r1, r2, by omega, by omega, by simp⟩
    · rw [if_pos q] at h
      injection h with x1 x2
      injection x2 with x2 x3
      exact .inr ⟨q, x1, x3⟩)
  clear hWn hA h0 c0 c1 hrok hroom HD hbW m1 m1' HA0 HA1
  gi_wp2_with fail
  generalize (W1.setCell ⟨b, 1, none⟩ (.int .i64 (A1 : Int))).setCell ⟨b, 2, none⟩ (.slice none 0 0) = W3 at *
  obtain ⟨B1, hB1⟩ : ∃ B1, B1 = W3.heap.size := ⟨_, rfl⟩
  have hbB1 : b < B1 := by omega
  have hsz3 : B1 ≤ W3.heap.size := by omega
  clear d1 f1 d2 f2 hA1' hJ1 hA2 m2 m2' hB1 hbW3
  gi_loopg [4, 6, 7, 8] (8 * s.size + 1) (fun g c4 c6 _c7 _c8 wr => ∃ (E : Int) (acc : List Prt) (a : Nat) (v : Value), c4 = .bool false ∧ c6 = .int .i64 E ∧ J (pre0 ++ okP acc) wr ∧ SRd wr b s (a : Int) v ∧ OwS wr B1 v (sumsB acc) ∧ B1 ≤ wr.heap.size ∧ Hid (StQ s.data.toList R (P1, P2, P3) g E acc a))
  case atStart => exact ⟨E0, [], A1, .slice none 0 0, rfl, rfl, by simpa [okP] using hJ3, hA3, Ow.nil _ _ _, hsz3, HQ⟩
  case round =>
    clear hJ3 hA3 HQ hsz3
    obtain ⟨E, acc, a, v, rfl, rfl, hJr, hAr, hor, hszr, HQ⟩ := hrel
    rcases HQ.out with ⟨rfl, hP', hR1, hR2, ha1, ha2, ha3⟩ | ⟨hE0, hp1, hp3⟩
    rotate_left
    · have t1 : (E == 0) = false := by rw [beq_eq_false_iff_ne]; exact hE0
      have hT := herr acc E hp1 hp3 hE0
      obtain ⟨fn, tmps, assign, body, hy, hR⟩ := bad_yield hY hT hJr (by omega)
      clear hp1 hp3 HQ herr hpart hE0 hT
      gi_wp2_with fail
      refine hR.mono ?_
      rintro e W5 ⟨⟨c, rfl⟩, hfin⟩
      gi_wp2_with fail
      go_ret
      exact .inr ⟨rfl, hfin⟩
    obtain ⟨f, rfl⟩ : ∃ f, gk = f + 1 := ⟨gk - 1, by omega⟩
    rw [strF_succ, HL.out] at hP'
    rw [HL.out] at ha1 ha2 ha3
    have hg := fun X => sT s (a : Int) 48 X (by omega) (by decide) (by omega) (by omega)
    obtain ⟨E1, hE1⟩ : ∃ E1, E1 = aO s.size (a : Int) 48 := ⟨_, rfl⟩
    obtain ⟨V, hV⟩ : ∃ V, V = aE s.data.toList (a : Int) 48 := ⟨_, rfl⟩
    rw [← hE1, ← hV] at hg hP'
    have HPP := hid hP'
    have c0 := Arr.cell hAr (i := 0) rfl
    have c1 := Arr.cell hAr (i := 1) rfl
    clear hE1 hV hP' HQ
    gi_wp2_with fail
    refine wpIn_wide.2 ?_
    go_quiet (first | (go_at_call 25; exact Calls.quiet_of_same (hg _)))
    generalize hWn : wr.drewN nq = W4 at *
    have hA4 : SRd W4 b s (a : Int) v := by rw [← hWn]; exact hAr
    have hJ4 : J (pre0 ++ okP acc) W4 := hJ _ _ _ hJr (by rw [← hWn]; exact KeepR.drewN _ _ _)
    have ho4 : OwS W4 B1 v (sumsB acc) := by rw [← hWn]; exact hor
    have hs4 : B1 ≤ W4.heap.size := by rw [← hWn]; exact hszr
    clear hWn hAr hJr hor hszr c0 c1 hg
    by_cases h1 : E1 = 0
    rotate_left
    · have t1 : (E1 != 0) = true := by rw [bne_iff_ne]; exact h1
      have hP := HPP.out
      rw [if_pos h1] at hP
      injection hP with x1 x2
      injection x2 with x2 x3
      have hT := herr acc E1 x1 x3 h1
      obtain ⟨fn, tmps, assign, body, hy, hR⟩ := bad_yield hY hT hJ4 (by omega)
      clear x1 x2 x3 herr hpart h1 hT
      gi_wp2_with fail
      refine hR.mono ?_
      rintro e W5 ⟨⟨c, rfl⟩, hfin⟩
      gi_wp2_with fail
      go_ret
      exact .inr ⟨rfl, hfin⟩
    subst h1
    have hP := HPP.out
    rw [if_neg (fun z => z rfl)] at hP
    by_cases h2 : V = 25779555029136
    · rw [if_pos h2] at hP
      subst h2
      obtain ⟨Q1, Q2, hQ⟩ : ∃ Q1 Q2, endD s.data.toList (a : Int) (allB (sumsB acc)) = (Q1, Q2) := ⟨_, _, rfl⟩
      have hend := strEnd_any b B1 s a v (sumsB acc) W4 hA4 ho4 hbB1 (by omega) (by omega)
      rw [hQ] at hend hP
      injection hP with x1 x2
      injection x2 with x2 x3
      have HX := hid (show P1 = acc ∧ P2 = Q1 ∧ P3 = Q2 from ⟨x1, x2, x3⟩)
      clear x1 x2 x3 hQ HPP
      gi_wp2_with fail
      refine ⟨trivial, (callsIn_wide.2 hend).mono ?_⟩
      rintro e W5 ⟨rfl, hg5, a', hA5, hpos⟩
      have hJ5 := hJ _ _ _ hJ4 (KeepR.grown hg5 hA4 hbB)
      have hs5 := hg5.size
      by_cases h3 : Q2 = 0
      · subst h3
        have HP2 := hid (hpos rfl)
        clear hpos hend herr hpart
        gi_wp2_with fail
        refine ⟨fun _ _ => trivial, ?_⟩
        gi_wp2_with fail
        go_ret
        obtain ⟨y1, y2, y3⟩ := HX.out
        exact .inl ⟨rfl, y3, by rw [y1]; exact hJ5, v, by rw [y2, ← HP2.out]; exact hA5⟩
      · have t1 : (Q2 == 0) = false := by rw [beq_eq_false_iff_ne]; exact h3
        have hT := herr acc Q2 HX.out.1 HX.out.2.2 h3
        obtain ⟨fn, tmps, assign, body, hy, hR⟩ := bad_yield hY hT hJ5 (by omega)
        clear hpos hend herr hpart h3 hT
        gi_wp2_with fail
        refine hR.mono ?_
        rintro e W6 ⟨⟨c, rfl⟩, hfin⟩
        gi_wp2_with fail
        go_ret
        exact .inr ⟨rfl, hfin⟩
    have u1 : ((V : Int) == 25779555029136) = false := by rw [beq_eq_false_iff_ne]; omega
    have u1' : (V == 25779555029136) = false := by rw [beq_eq_false_iff_ne]; exact h2
    rw [if_neg h2] at hP
    by_cases h3 : V = 54156738319193
    rotate_left
    · have u2 : ((V : Int) == 54156738319193) = false := by rw [beq_eq_false_iff_ne]; omega
      have u2' : (V == 54156738319193) = false := by rw [beq_eq_false_iff_ne]; exact h3
      rw [if_pos h3] at hP
      injection hP with x1 x2
      injection x2 with x2 x3
      have HX := hid (show P1 = acc ∧ P3 = 3 from ⟨x1, x3⟩)
      clear x1 x2 x3 HPP h2 h3 herr hpart
      gi_wp2_with fail
      gi_roundg 0
      case measure => omega
      case rel => exact ⟨3, acc, a, v, rfl, rfl, hJ4, hA4, ho4, hs4, hid (.inr ⟨by decide, HX.out.1, HX.out.2⟩)⟩
    rw [if_neg (fun z => z h3)] at hP
    subst h3
    have hdec := fun X (hX : iF X) => MW s (a : Int) R X hX (by omega) (by omega) (by omega) (by omega) (by omega)
    unfold EV at hdec
    have hok := YK (s := s.data.toList) (at' := (a : Int)) (room := R)
    obtain ⟨D1, D2, D3, D4, hD⟩ : ∃ D1 D2 D3 D4, cL s.data.toList (a : Int) R = (D1, D2, D3, D4) := ⟨_, _, _, _, rfl⟩
    rw [hD] at hdec hP hok
    unfold wT at hdec
    simp only at hdec hP hok
    obtain ⟨A', hA'⟩ : ∃ A' : Int, A' = if D4 = 0 then (a : Int) else 0 := ⟨_, rfl⟩
    rw [← hA'] at hdec
    have HA' := hid hA'
    clear hA'
    have hE4 := hJE _ _ hJ4
    have HP2 := hid hP
    have HOK := hid hok
    have c0 := Arr.cell hA4 (i := 0) rfl
    have c1 := Arr.cell hA4 (i := 1) rfl
    clear HPP u1 u1' h2 hD hP hok
    gi_wp2_with fail
    have hb46 : Below W4.heap.size W4 (W4.alloc (.cells #[.string ⟨#[]⟩, .int .u32 0, .int .i64 0, .int .i64 0] 36)) := bD (Below.refl _ _) _
    have hE6 : iF (W4.alloc (.cells #[.string ⟨#[]⟩, .int .u32 0, .int .i64 0, .int .i64 0] 36)) := hE4.below (bD (Below.refl _ _) _)
    have hz6 : Arr (W4.alloc (.cells #[.string ⟨#[]⟩, .int .u32 0, .int .i64 0, .int .i64 0] 36)) W4.heap.size 36 [.string ⟨#[]⟩, .int .u32 0, .int .i64 0, .int .i64 0] := Arr.new W4 _ [_, _, _, _]
    generalize W4.alloc (.cells #[.string ⟨#[]⟩, .int .u32 0, .int .i64 0, .int .i64 0] 36) = W6 at *
    obtain ⟨z, hz⟩ : ∃ z, z = W4.heap.size := ⟨_, rfl⟩
    rw [← hz] at hz6 ⊢
    have hzB : B1 ≤ z := by omega
    have hz1 : 1 < z := by have := hE4.lt; omega
    have hzs := Arr.lt hz6
    have c0 := (hb46.cell (p := ⟨b, 0, none⟩) (Arr.lt hA4)).trans c0
    have c1 := (hb46.cell (p := ⟨b, 1, none⟩) (Arr.lt hA4)).trans c1
    have HZ := hid hz
    have hbz : b < z := by omega
    clear hz hE4
    refine wpIn_wide.2 ?_
    have hS0 := keepZ (w0 := W6) (z := z) ⟨c0, c1, ⟨_, _, _, _, hz6⟩, Below.refl _ _, by omega⟩ (Below.refl W6.heap.size W6).drew
    have HE := fun wx (h : wx.cell? ⟨b, 0, none⟩ = some (.string s) ∧ wx.cell? ⟨b, 1, none⟩ = some (.int .i64 (a : Int)) ∧ (∃ y0 y1 y2 y3, Arr wx z 36 [y0, y1, y2, y3]) ∧ Below z W6 wx ∧ z + 1 ≤ wx.heap.size) => show iF wx from (h.2.2.2.1.cell (p := ⟨1, 0, none⟩) hz1).trans hE6
    go_region_held3 (fun wx => wx.cell? ⟨b, 0, none⟩ = some (.string s) ∧ wx.cell? ⟨b, 1, none⟩ = some (.int .i64 (a : Int)) ∧ (∃ y0 y1 y2 y3, Arr wx z 36 [y0, y1, y2, y3]) ∧ Below z W6 wx ∧ z + 1 ≤ wx.heap.size)
      (first
        | with_reducible assumption
        | with_reducible exact keepZ (by assumption) (by assumption)
        | exact keepZS (by assumption) hbz _ _ _ _ _ rfl)
      (first | (go_at_call 141; refine (hdec _ (HE _ (by assumption))).mono ?_; rintro e W7 ⟨rfl, hb7⟩; obtain ⟨-, -, ⟨y0, y1, y2, y3, hz7⟩, hb67, hs7⟩ := keepZ (by assumption) hb7; have g0 := hz7.cell (i := 0) rfl; have g1 := hz7.cell (i := 1) rfl; have g2 := hz7.cell (i := 2) rfl; have g3 := hz7.cell (i := 3) rfl; have f0 := hz7.free 0; have f1 := hz7.free 1; have f2 := hz7.free 2; have f3 := hz7.free 3))
    have hz8 := (((hz7.set 0 (.string D1)).set 1 (.int .u32 D2)).set 2 (.int .i64 A')).set 3 (.int .i64 D3)
    have hb48 : Below W4.heap.size W4 ((((W7.setCell ⟨z, 0, none⟩ (.string D1)).setCell ⟨z, 1, none⟩ (.int .u32 D2)).setCell ⟨z, 2, none⟩ (.int .i64 A')).setCell ⟨z, 3, none⟩ (.int .i64 D3)) := by
      rw [← HZ.out] at hb46 ⊢
      exact hb46.trans ((((hb67.setCell (p := ⟨z, 0, none⟩) (Nat.le_refl _) _).setCell (p := ⟨z, 1, none⟩) (Nat.le_refl _) _).setCell (p := ⟨z, 2, none⟩) (Nat.le_refl _) _).setCell (p := ⟨z, 3, none⟩) (Nat.le_refl _) _)
    change Arr ((((W7.setCell ⟨z, 0, none⟩ (.string D1)).setCell ⟨z, 1, none⟩ (.int .u32 D2)).setCell ⟨z, 2, none⟩ (.int .i64 A')).setCell ⟨z, 3, none⟩ (.int .i64 D3)) z 36 [.string D1, .int .u32 D2, .int .i64 A', .int .i64 D3] at hz8
    generalize (((W7.setCell ⟨z, 0, none⟩ (.string D1)).setCell ⟨z, 1, none⟩ (.int .u32 D2)).setCell ⟨z, 2, none⟩ (.int .i64 A')).setCell ⟨z, 3, none⟩ (.int .i64 D3) = W8 at *
    have hA8 : SRd W8 b s (a : Int) v := Arr.below hA4 hb48 (Arr.lt hA4)
    have ho8 : OwS W8 B1 v (sumsB acc) := Ow.below ho4 hb48 (Nat.le_refl _)
    have hJ8 := hJ _ _ _ hJ4 (KeepR.of hb48 (by omega))
    have hs8 : B1 ≤ W8.heap.size := Nat.le_trans hs4 hb48.size
    clear g0 g1 g2 g3 f0 f1 f2 f3 hz7 hb67 hs7 hb7 y0 y1 y2 y3 HE hS0 c0 c1 hz6 hE6 hb46 hdec hA4 ho4 hJ4 hs4 hb48 hz1 hzs HZ
    by_cases h4 : D4 = 0
    rotate_left
    · have t1 : (D4 != 0) = true := by rw [bne_iff_ne]; exact h4
      have hP := HP2.out
      rw [if_pos h4] at hP
      injection hP with x1 x2
      injection x2 with x2 x3
      have HX := hid (show D4 ≠ 0 ∧ P1 = acc ∧ P3 = D4 from ⟨h4, x1, x3⟩)
      clear x1 x2 x3 h4 herr hpart HOK HP2 HA'
      gi_wp2_with fail
      gi_roundg 0
      case measure => omega
      case rel => exact ⟨D4, acc, a, v, rfl, rfl, hJ8, hA8, ho8, hs8, hid (.inr HX.out)⟩
    subst h4
    obtain ⟨-, -, -, -, -, k6, k7, k8, -⟩ := HOK.out rfl
    rw [HL.out] at k8
    obtain ⟨Z, rfl⟩ : ∃ Z : Nat, D3 = (Z : Int) := ⟨D3.toNat, by omega⟩
    have hyb := (fG D1.data.toList).isLt
    obtain ⟨y, hy⟩ : ∃ y, y = (fG D1.data.toList).toNat := ⟨_, rfl⟩
    rw [← hy] at k6 hyb
    subst k6
    have hyb : y < 4294967296 := hyb
    have hA' := HA'.out
    rw [if_pos rfl] at hA'
    subst hA'
    have hP := HP2.out
    rw [if_neg (fun q => q rfl)] at hP
    obtain ⟨p, hp⟩ : ∃ p : Prt, p = ⟨D1, (y : Int), (a : Int), (Z : Int), R⟩ := ⟨_, rfl⟩
    rw [← hp] at hP
    have hpart2 : ∃ r, T = pre0 ++ okP acc ++ (p, 0) :: r := by
      obtain ⟨m, hm⟩ := strF_acc (s := s.data.toList) (r := R) f (Z : Int) (acc ++ [p])
      rw [← hP, List.append_assoc] at hm
      exact hpart acc p m hm
    have HP := hid hP
    have hZb : Z ≤ 1000000 := by omega
    have hk7 : a + 96 < Z := by omega
    have hk8 : Z ≤ 8 * s.size := by omega
    have d1 := Arr.cell hA8 (i := 1) rfl
    have f1 := Arr.free hA8 1
    have e3 := hz8.cell (i := 3) rfl
    have hA9 : SRd (W8.setCell ⟨b, 1, none⟩ (.int .i64 (Z : Int))) b s (Z : Int) v := Arr.set hA8 1 _
    have hz9 : Arr (W8.setCell ⟨b, 1, none⟩ (.int .i64 (Z : Int))) z 36 [.string D1, .int .u32 (y : Int), .int .i64 (a : Int), .int .i64 (Z : Int)] := hz8.other _ (by show b ≠ z; omega) _
    have ho9 : OwS (W8.setCell ⟨b, 1, none⟩ (.int .i64 (Z : Int))) B1 v (sumsB acc) := Ow.box ho8 (gbS _ _ _ _) hbB1
    have hJ9 := hJ _ _ _ hJ8 (KeepR.set (i := 1) hA8 hbB (.int .i64 (Z : Int)))
    have hs9 : B1 ≤ (W8.setCell ⟨b, 1, none⟩ (.int .i64 (Z : Int))).heap.size := by simpa using hs8
    clear hP HP2 HA' HOK k7 k8 hy herr hpart
    gi_wp2_with fail
    generalize W8.setCell ⟨b, 1, none⟩ (.int .i64 (Z : Int)) = W9 at *
    clear hA8 hz8 ho8 hJ8 hs8 d1 f1 e3
    obtain ⟨W9a, hW9a⟩ : ∃ W9a, W9a = (W9.alloc (.cells #[.int .u32 (y : Int)] 34)).drew := ⟨_, rfl⟩
    have hka : KeepR B0 W9 W9a := by rw [hW9a]; exact (KeepR.of (bD (Below.refl _ _) _) (by omega)).trans (KeepR.drew _ _)
    have hA9a : SRd W9a b s (Z : Int) v := by rw [hW9a]; exact Arr.alloc hA9 _
    have hz9a : Arr W9a z 36 [.string D1, .int .u32 (y : Int), .int .i64 (a : Int), .int .i64 (Z : Int)] := by rw [hW9a]; exact Arr.alloc hz9 _
    have ho9a : OwS W9a B1 v (sumsB acc) := by rw [hW9a]; exact Ow.alloc ho9 _
    have hc9a : W9a.cell? ⟨W9.heap.size, 0, none⟩ = some (.int .u32 ((BitVec.ofNat 32 y).toNat : Int)) := by rw [hW9a, ofNat_sum hyb]; exact bS _ _ _
    have hs9a : B1 ≤ W9a.heap.size := Nat.le_trans hs9 hka.bel.size
    have hacc : (sumsB acc).length = acc.length := List.length_map ..
    obtain ⟨v', W10, hr, ho10, hb10, hg10⟩ := run_appU (w := W9a) 44 B1 v (sumsB acc) ho9a W9.heap.size (BitVec.ofNat 32 y) hc9a (by rw [hacc]; omega) hs9a
    have hA10 : SRd W10 b s (Z : Int) v := Arr.below hA9a hb10 hbB1
    have hz10 : Arr W10 z 36 [.string D1, .int .u32 (y : Int), .int .i64 (a : Int), .int .i64 (Z : Int)] := hz9a.otherRow ho9a hg10 (by decide)
    have hk10 : KeepR B0 W9a W10 := ⟨hb10.mono (by omega), .app ho9a hg10 (by unfold TyCons; decide)⟩
    obtain ⟨va, vc, hv, -⟩ := (OwS.rd ho9).open
    obtain ⟨vn, hvn⟩ : ∃ vn, vn = (sumsB acc).length := ⟨_, rfl⟩
    rw [← hvn] at hv
    obtain ⟨va', vc', hv', -⟩ := (OwS.rd ho10).open
    obtain ⟨vn', hvn'⟩ : ∃ vn', vn' = (sumsB acc ++ [BitVec.ofNat 32 y]).length := ⟨_, rfl⟩
    rw [← hvn'] at hv'
    subst hv hv'
    have c2 := Arr.cell hA9 (i := 2) rfl
    have c2a : (W9.alloc (.cells #[.int .u32 (y : Int)] 34)).cell? ⟨b, 2, none⟩ = some (.slice va vn vc) := (Arr.alloc hA9 _).cell (i := 2) rfl
    have x1 := hz9.cell (i := 1) rfl
    have d2 := Arr.cell hA10 (i := 2) rfl
    have f2 := Arr.free hA10 2
    rw [hW9a] at hr
    have hA11 : SRd (W10.setCell ⟨b, 2, none⟩ (.slice va' vn' vc')) b s (Z : Int) (.slice va' vn' vc') := Arr.set hA10 2 _
    have hz11 : Arr (W10.setCell ⟨b, 2, none⟩ (.slice va' vn' vc')) z 36 [.string D1, .int .u32 (y : Int), .int .i64 (a : Int), .int .i64 (Z : Int)] := hz10.other _ (by show b ≠ z; omega) _
    have ho11 : OwS (W10.setCell ⟨b, 2, none⟩ (.slice va' vn' vc')) B1 (.slice va' vn' vc') (sumsB acc ++ [BitVec.ofNat 32 y]) := Ow.box ho10 (gbS _ _ _ _) hbB1
    have hJ11 := hJ _ _ _ hJ9 ((hka.trans hk10).trans (KeepR.set (i := 2) hA10 hbB (.slice va' vn' vc')))
    have hs11 : B1 ≤ (W10.setCell ⟨b, 2, none⟩ (.slice va' vn' vc')).heap.size := by have := hb10.size; simp only [World.size_setCell]; omega
    clear hka hA9a hz9a ho9a hc9a hs9a hacc ho10 hb10 hg10 hk10 hA10 hz10 hvn hvn' hW9a
    have HSU := hid (show sumsB acc ++ [BitVec.ofNat 32 y] = sumsB (acc ++ [p]) by
      unfold sumsB
      rw [List.map_append, List.map_cons, List.map_nil, hp, BitVec.ofInt_natCast])
    refine wpIn_wide.2 ?_
    go_region_law (refine xC rfl (.tmp 89) (.tmp 92) 44 rfl (.slice va vn vc) (.slice (some ⟨W9.heap.size, 0, none⟩) 1 1) (.slice va' vn' vc') W10 (by simp [Act.eval]) (by simp [Act.eval]) hr ?_)
    all_goals
      generalize W10.setCell ⟨b, 2, none⟩ (.slice va' vn' vc') = W11 at *
      obtain ⟨fn, tmps, assign, body, hy, hR⟩ := hY _ (p, 0) W11 hJ11 (by omega) hpart2
      unfold encPE at hy
      rw [hp] at hy
      dsimp only at hy
      have HPE := hid hp
      have z0 := hz11.cell (i := 0) rfl
      have z1 := hz11.cell (i := 1) rfl
      have z2 := hz11.cell (i := 2) rfl
      have z3 := hz11.cell (i := 3) rfl
      clear hp hpart2 hz11 hz9 hA9 ho9 hJ9 hs9 hr c2 c2a x1 d2 f2
      gi_wp2_with fail
      refine hR.mono ?_
      rintro e W12 (⟨rfl, hJ12, hk12⟩ | ⟨rfl, hJx⟩)
      · gi_wp2_with fail
        gi_roundg f
        case measure => omega
        case rel => exact ⟨0, acc ++ [p], Z, _, rfl, rfl, by rw [okP_append, okP_one, ← List.append_assoc]; exact hJ12, hA11.kept hk12, by rw [← HSU.out]; exact OwS.kept ho11 hk12, Nat.le_trans hs11 hk12.1, hid (.inl ⟨rfl, HP.out, hR1, hR2, by rw [HL.out]; exact hk8, by rw [HL.out]; omega, by rw [HL.out, List.length_append, List.length_singleton]; omega⟩)⟩
      · gi_wp2_with fail
        go_ret
        exact .inr ⟨rfl, .inr ⟨_, hJx⟩⟩

end Go.Proofs.YtpgmbhpbgkljdaaGreatDoor
