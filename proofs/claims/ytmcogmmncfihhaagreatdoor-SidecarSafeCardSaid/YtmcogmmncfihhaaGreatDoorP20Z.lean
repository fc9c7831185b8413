/-
  The walks of sidecars (chapter 20): a number as so many bytes.
-/
import Derived.Test.YtmcogmmncfihhaaGreatDoorM20Z
import Derived.ArgAppend
import Derived.Lib.SlBytesConst
import Derived.Test.YtmcogmmncfihhaaGreatDoorZ7
set_option linter.unusedVariables false
set_option linter.unusedSimpArgs false
namespace Go.Proofs.YtmcogmmncfihhaaGreatDoor
open Go.RowKit Go Go.Shelf

/-- A range variable's box is left alone. -/
def KeepE (w w' : World) : Prop := ∀ (g : Nat) (cs : List Value), Arr w g 51 cs → Arr w' g 51 cs
theorem KeepE.refl (w : World) : KeepE w w := fun _ _ h => h
theorem KeepE.trans {a b c : World} (h : KeepE a b) (k : KeepE b c) : KeepE a c := fun g cs q => k g cs (h g cs q)
theorem KeepE.alloc (w : World) (o : Obj) : KeepE w (w.alloc o) := fun _ _ q => q.alloc o
theorem OwB.keepE {w w' : World} {B : Nat} {v : Value} {l : List UInt8} (ho : OwB w B v l) (hg : w.grownBy w' v.ownBlock) : KeepE w w' := fun g cs hA => hA.grown hg (by
  intro e
  rcases ho.2 with ⟨e2, _⟩ | ⟨g', cap, cur, e2, _, hg, _⟩
  · rw [e2] at e; simp [Value.ownBlock] at e
  · rw [e2] at e
    simp [Value.ownBlock] at e
    subst e
    unfold Arr at hA
    rw [hg] at hA
    injection hA with hA
    injection hA with _ h2 _
    exact absurd h2 (by decide))
/-- A row of bytes that is full, whoever owns it: what is appended goes into a new one. -/
def FullB (w : World) (v : Value) (s : List UInt8) : Prop := ∃ g, v = .slice (some ⟨g, 0, none⟩) s.length s.length ∧ ∀ (j : Nat) (u : Value), (eO s)[j]? = some u → w.cell? ⟨g, j, none⟩ = some u
def OwQ20 (w : World) (B : Nat) (v : Value) (s : List UInt8) : Prop := OwB w B v s ∨ FullB w v s
theorem OwQ20.alloc {w : World} {B : Nat} {v : Value} {s : List UInt8} (h : OwQ20 w B v s) (o : Obj) : OwQ20 (w.alloc o) B v s := by
  rcases h with h | ⟨g, rfl, hc⟩
  · exact .inl (Ow.alloc h o)
  · refine .inr ⟨g, rfl, fun j u hj => ?_⟩
    have h := hc j u hj
    rw [World.cell?_alloc_lt _ _ _ (World.block_lt_of_cell? w _ h)]
    exact h
theorem appQ20 {ops : Array Oper} {rest : List Oper} {o : Oper} {a : Act} {Q : Exit → Act → World → Prop} {w : World} (hgd : o.guard = none) (s x : Operand)
    (ho : o.op = .call { callee := .builtin .append, args := #[s, x], argTypes := #[47, 47] }) (base : Nat) (v : Value) (l : List UInt8) (hs : a.eval s = v) (hown : OwQ20 w base v l)
    (g : Nat) (b : UInt8) (hx : a.eval x = .slice (some ⟨g, 0, none⟩) 1 1) (hc : w.cell? ⟨g, 0, none⟩ = some (.int .u8 (b.toNat : Int))) (hroom : (l.length + 1) * 1 ≤ 140737488355328) (hbase : base ≤ w.heap.size)
    (h : ∀ v' w', OwB w' base v' (l ++ [b]) → Below base w w' → KeepE w w' → wpList Tryz.prog ops Q rest (a.put o.dst v') w') : wpList Tryz.prog ops Q (o :: rest) a w := by
  rcases hown with hown | ⟨g0, rfl, hc0⟩
  · exact IX hgd s x ho base v l hs hown g b hx hc hroom hbase (fun v' w' q1 q2 q3 => h v' w' q1 q2 (hown.keepE q3))
  · obtain ⟨i, hi, hz, h2, h3⟩ := vQ.info
    refine wpList_append_grows w hgd s x 47 ho 5 i (.int .u8 0) 1 1 Tryz.underlying47 hi hz h2 h3 rfl (by decide) (some ⟨g0, 0, none⟩) l.length l.length (eO l) hs (fun e => nomatch e) (by simp [eO])
      (fun b hb j u hj => ?_) ⟨g, 0, none⟩ 1 1 [.int .u8 (b.toNat : Int)] hx rfl (fun j u hj => ?_) (fun u hu => by rw [List.mem_singleton.1 hu]; rfl) (Nat.lt_succ_self _) (by simp only [maxLen]; omega) hroom (fun v' w' q1 q2 => h v' w' ?_ ?_ ?_)
    · cases hb
      have e : (⟨g0, 0, none⟩ : Addr).add j = ⟨g0, j, none⟩ := by unfold Addr.add; split <;> simp_all
      rw [e]
      exact hc0 j u hj
    · cases j with
      | zero => simp at hj; subst hj; simpa [Addr.add] using hc
      | succ j => simp at hj
    · unfold OwB Ow
      rw [IC, List.length_append]
      refine IA (base := w.heap.size) ?_ hbase
      simpa [eO] using q1
    · exact (Below.refl base w).grown q2 hbase (fun k hk => nomatch hk)
    · exact fun g cs hA => hA.grown q2 (by simp)
theorem byte20 (X D k : Nat) (hD : D = 8 * k) : IntKind.u8.wrap ((X : Int) / 2 ^ D) = ((UInt8.ofNat (X / 256 ^ k)).toNat : Int) := by
  rw [yG, hD, Nat.pow_mul, show (2 : Nat) ^ 8 = 256 from rfl, IntKind.wrap_u8, UInt8.toNat_ofNat']
  omega
set_option maxRecDepth 100000 in
set_option maxHeartbeats 3200000 in
theorem num20_any (v : Value) (s : List UInt8) (X m B : Nat) (w : World) (ho : OwQ20 w B v s) (hm1 : 1 ≤ m) (hX : X < 9223372036854775808) (hm : m ≤ 8) (hs : s.length ≤ 1000000) (hB : B ≤ w.heap.size) :
    Calls Tryz.prog 26 #[v, .int .i64 (X : Int), .int .i64 (m : Int)] w fun e w' => ∃ u, e = .returned u ∧ OwB w' B u (s ++ beL m X) ∧ Below B w w' ∧ KeepE w w' := by
  have m0 : IntKind.i64.wrap ((m : Int) - 1) = (m : Int) - 1 := by rw [IntKind.wrap_i64]; omega
  have mX : IntKind.u64.wrap (X : Int) = (X : Int) := by rw [IntKind.wrap_u64]; omega
  go_enter Tryz.func26, Tryz.ntmps26
  go_wp2_with fail
  go_loopg [0, 7] m (fun g s0 s7 wr => ∃ (k : Nat) (r : List UInt8), k ≤ m ∧ g = k ∧ s7 = .int .i64 ((k : Int) - 1) ∧ Hid (r.length + k = s.length + m) ∧ Hid (s ++ beL m X = r ++ beL k X) ∧ OwQ20 wr B s0 r ∧ (k < m → OwB wr B s0 r) ∧ Below B w wr ∧ KeepE w wr)
  case atStart => exact ⟨m, s, Nat.le_refl _, rfl, rfl, hid rfl, hid rfl, ho, fun h => absurd h (Nat.lt_irrefl _), Below.refl _ _, KeepE.refl _⟩
  case round =>
    obtain ⟨k, r, hk, hg, rfl, HL, HR, hor, hor1, hbel, hkE⟩ := hrel
    obtain rfl := hg.symm
    have hsz := hbel.size
    by_cases h0 : k = 0
    · subst h0
      have t1 : decide (((0 : Nat) : Int) - 1 ≥ 0) = false := decide_eq_false (by omega)
      have t2 : decide (0 ≤ ((0 : Nat) : Int) - 1) = false := decide_eq_false (by omega)
      have e1 : s ++ beL m X = r := by rw [HR.out]; exact List.append_nil _
      clear HR HL hg
      go_wp2_with fail
      go_ret
      exact ⟨_, rfl, by rw [e1]; exact hor1 hm1, hbel, hkE⟩
    · obtain ⟨j, rfl⟩ : ∃ j, k = j + 1 := ⟨k - 1, by omega⟩
      obtain ⟨D, hD⟩ : ∃ D, D = 8 * j := ⟨_, rfl⟩
      have hD64 : D ≤ 56 := by omega
      have ej : ((j + 1 : Nat) : Int) - 1 = (j : Int) := by omega
      rw [ej]
      have t1 : decide ((j : Int) ≥ 0) = true := decide_eq_true (by omega)
      have t2 : decide (0 ≤ (j : Int)) = true := decide_eq_true (by omega)
      have e7 : min D 64 = D := by omega
      have mD : IntKind.i64.wrap (8 * (j : Int)) = (D : Int) := by rw [IntKind.wrap_i64]; omega
      have mD' : 8 * (j : Int) = (D : Int) := by omega
      have e4 := byte20 X D j hD
      obtain ⟨b, hb⟩ : ∃ b, b = UInt8.ofNat (X / 256 ^ j) := ⟨_, rfl⟩
      rw [← hb] at e4
      have HR2 := hid (show s ++ beL m X = (r ++ [b]) ++ beL j X by rw [HR.out, List.append_assoc, hb]; rfl)
      have mj : IntKind.i64.wrap ((j : Int) - 1) = (j : Int) - 1 := by rw [IntKind.wrap_i64]; omega
      have hlen : r.length ≤ 1000008 := by have := HL.out; omega
      have HL2 := hid (show (r ++ [b]).length + j = s.length + m by have := HL.out; rw [List.length_append, List.length_singleton]; omega)
      clear hb hD HR HL ej
      go_wp2_with (at_builtin; refine appQ20 rfl _ _ rfl B _ _ rfl (OwQ20.alloc hor _) wr.heap.size b rfl ?_ ?_ ?_ ?_; (exact bS _ _ _); (omega); (simp; omega); intro v' w3 hown' hB' hgrow)
      go_roundg j
      case measure => omega
      case rel => exact ⟨j, r ++ [b], by omega, rfl, rfl, HL2, HR2, .inl hown', fun _ => hown', (hbel.alloc (Nat.le_trans hB hsz) _).trans hB', hkE.trans ((KeepE.alloc _ _).trans hgrow)⟩
set_option maxRecDepth 100000 in
set_option maxHeartbeats 3200000 in
theorem num20u_any (v : Value) (s : List UInt8) (X m B : Nat) (w : World) (ho : OwQ20 w B v s) (hm1 : 1 ≤ m) (hX : X < 4294967296) (hm : m ≤ 8) (hs : s.length ≤ 1000000) (hB : B ≤ w.heap.size) :
    Calls Tryz.prog 27 #[v, .int .u32 (X : Int), .int .i64 (m : Int)] w fun e w' => ∃ u, e = .returned u ∧ OwB w' B u (s ++ beL m X) ∧ Below B w w' ∧ KeepE w w' := by
  have m0 : IntKind.i64.wrap ((m : Int) - 1) = (m : Int) - 1 := by rw [IntKind.wrap_i64]; omega
  have mX : IntKind.u64.wrap (X : Int) = (X : Int) := by rw [IntKind.wrap_u64]; omega
  go_enter Tryz.func27, Tryz.ntmps27
  go_wp2_with fail
  go_loopg [0, 7] m (fun g s0 s7 wr => ∃ (k : Nat) (r : List UInt8), k ≤ m ∧ g = k ∧ s7 = .int .i64 ((k : Int) - 1) ∧ Hid (r.length + k = s.length + m) ∧ Hid (s ++ beL m X = r ++ beL k X) ∧ OwQ20 wr B s0 r ∧ (k < m → OwB wr B s0 r) ∧ Below B w wr ∧ KeepE w wr)
  case atStart => exact ⟨m, s, Nat.le_refl _, rfl, rfl, hid rfl, hid rfl, ho, fun h => absurd h (Nat.lt_irrefl _), Below.refl _ _, KeepE.refl _⟩
  case round =>
    obtain ⟨k, r, hk, hg, rfl, HL, HR, hor, hor1, hbel, hkE⟩ := hrel
    obtain rfl := hg.symm
    have hsz := hbel.size
    by_cases h0 : k = 0
    · subst h0
      have t1 : decide (((0 : Nat) : Int) - 1 ≥ 0) = false := decide_eq_false (by omega)
      have t2 : decide (0 ≤ ((0 : Nat) : Int) - 1) = false := decide_eq_false (by omega)
      have e1 : s ++ beL m X = r := by rw [HR.out]; exact List.append_nil _
      clear HR HL hg
      go_wp2_with fail
      go_ret
      exact ⟨_, rfl, by rw [e1]; exact hor1 hm1, hbel, hkE⟩
    · obtain ⟨j, rfl⟩ : ∃ j, k = j + 1 := ⟨k - 1, by omega⟩
      obtain ⟨D, hD⟩ : ∃ D, D = 8 * j := ⟨_, rfl⟩
      have hD64 : D ≤ 56 := by omega
      have ej : ((j + 1 : Nat) : Int) - 1 = (j : Int) := by omega
      rw [ej]
      have t1 : decide ((j : Int) ≥ 0) = true := decide_eq_true (by omega)
      have t2 : decide (0 ≤ (j : Int)) = true := decide_eq_true (by omega)
      have e7 : min D 64 = D := by omega
      have mD : IntKind.i64.wrap (8 * (j : Int)) = (D : Int) := by rw [IntKind.wrap_i64]; omega
      have mD' : 8 * (j : Int) = (D : Int) := by omega
      have e4 := byte20 X D j hD
      obtain ⟨b, hb⟩ : ∃ b, b = UInt8.ofNat (X / 256 ^ j) := ⟨_, rfl⟩
      rw [← hb] at e4
      have HR2 := hid (show s ++ beL m X = (r ++ [b]) ++ beL j X by rw [HR.out, List.append_assoc, hb]; rfl)
      have mj : IntKind.i64.wrap ((j : Int) - 1) = (j : Int) - 1 := by rw [IntKind.wrap_i64]; omega
      have hlen : r.length ≤ 1000008 := by have := HL.out; omega
      have HL2 := hid (show (r ++ [b]).length + j = s.length + m by have := HL.out; rw [List.length_append, List.length_singleton]; omega)
      clear hb hD HR HL ej
      go_wp2_with (at_builtin; refine appQ20 rfl _ _ rfl B _ _ rfl (OwQ20.alloc hor _) wr.heap.size b rfl ?_ ?_ ?_ ?_; (exact bS _ _ _); (omega); (simp; omega); intro v' w3 hown' hB' hgrow)
      go_roundg j
      case measure => omega
      case rel => exact ⟨j, r ++ [b], by omega, rfl, rfl, HL2, HR2, .inl hown', fun _ => hown', (hbel.alloc (Nat.le_trans hB hsz) _).trans hB', hkE.trans ((KeepE.alloc _ _).trans hgrow)⟩

end Go.Proofs.YtmcogmmncfihhaaGreatDoor
