/-
  The walks of sidecars (chapter 20): Parse; Load, where its answer is known without an archive.
-/
import Derived.Test.YtmcogmmncfihhaaGreatDoorP20dZ
import Derived.Test.YtmcogmmncfihhaaGreatDoorE20Z
set_option linter.unusedVariables false
set_option linter.unusedSimpArgs false
namespace Go.Proofs.YtmcogmmncfihhaaGreatDoor
open Go.RowKit Go Go.Shelf

theorem errnoOf20_any (er : Value) (x : Int) (w : World) (h : ErrOf er x) :
    Calls Tryz.prog 29 #[er] w fun e w' => e = .returned (.int .i64 x) ∧ Below w.heap.size w w' := by
  rcases h with ⟨rfl, rfl⟩ | ⟨p, rfl, hx⟩
  · exact (errnoNil20_any w).mono fun e w' h => ⟨h.1, by rw [h.2]; exact Below.refl _ _⟩
  · exact errno20_any p x w hx

set_option maxRecDepth 100000 in
set_option maxHeartbeats 3200000 in
theorem parse20_any (s : ByteArray) (w : World) (hs : s.size ≤ 1000000) :
    Calls Tryz.prog 13 #[.string s] w fun e w' => ∃ v, e = .returned (.tuple #[v, .int .i64 ((readD s.data.toList).2.1 : Int), .int .u32 ((readD s.data.toList).2.2.1 : Int), .int .i64 (readD s.data.toList).2.2.2]) ∧ RdR w' v ((readD s.data.toList).1.map LF) ∧ Below w.heap.size w w' := by
  have hre := read20_any s w hs
  obtain ⟨⟨l, n, c, x⟩, hD⟩ : ∃ D, D = readD s.data.toList := ⟨_, rfl⟩
  rw [← hD] at hre ⊢
  dsimp only at hre ⊢
  clear hD
  go_enter Tryz.func13, Tryz.ntmps13
  go_wp2_with fail
  refine hre.mono ?_
  rintro e w1 ⟨v, er, rfl, hr, hE, h1⟩
  go_wp2_with fail
  refine (errnoOf20_any er x _ hE).mono ?_
  rintro e w2 ⟨rfl, h2⟩
  have hr2 := hr.below h2
  go_wp2_with fail
  refine bodyPost_ret (results_tmp4 rfl _ _ _) rfl ?_
  exact ⟨_, rfl, hr2, bV h1 h2⟩

theorem equal20_nil (a b : Option Addr) (c d : Nat) (w : World) :
    Calls Tryz.prog 30 #[.slice a 0 c, .slice b 0 d] w fun e w' => e = .returned (.bool true) ∧ w' = w := by
  go_enter Tryz.func30, Tryz.ntmps30
  go_wp2_with fail
  refine wp_loop_rounds 1 ?_
  rw [rounds_succ]
  go_wp2_with fail
  go_ret
  exact ⟨rfl, rfl⟩

set_option maxRecDepth 100000 in
set_option maxHeartbeats 3200000 in
/-- What cannot be read is not loaded. -/
theorem load20_err (a s : ByteArray) (w : World) (hs : s.size ≤ 1000000) (hx : (readD s.data.toList).2.2.2 ≠ 0) :
    Calls Tryz.prog 11 #[.string a, .string s] w fun e w' => e = .returned (.tuple #[.slice none 0 0, .int .i64 (readD s.data.toList).2.2.2]) ∧ Below w.heap.size w w' := by
  have hre := read20_any s w hs
  obtain ⟨⟨l, n, c, x⟩, hD⟩ : ∃ D, D = readD s.data.toList := ⟨_, rfl⟩
  rw [← hD] at hre hx ⊢
  dsimp only at hre hx ⊢
  clear hD
  go_enter Tryz.func11, Tryz.ntmps11
  go_wp2_with fail
  refine hre.mono ?_
  rintro e w1 ⟨v, er, rfl, -, hE, h1⟩
  rcases hE with ⟨-, h0⟩ | ⟨p, rfl, hx3⟩
  · exact absurd h0 hx
  have n3 : ∀ w, (binOp .eql 66 (.iface 71 (.agg #[.string p, .iface 69 (.int .i64 x)])) .nilIface).run Tryz.prog w = .ok (.bool false) w := fun w => by kernel_rfl
  have n4 : ∀ w, (binOp .neq 66 (.iface 71 (.agg #[.string p, .iface 69 (.int .i64 x)])) .nilIface).run Tryz.prog w = .ok (.bool true) w := fun w => by kernel_rfl
  go_wp2_with fail
  refine (errno20_any p x _ hx3).mono ?_
  rintro e w2 ⟨rfl, h2⟩
  go_wp2_with fail
  go_ret2
  exact ⟨rfl, bV h1 h2⟩

set_option maxRecDepth 100000 in
set_option maxHeartbeats 3200000 in
/-- Beside an archive of another size none is loaded. -/
theorem load20_size (a s : ByteArray) (w : World) (hs : s.size ≤ 1000000) (hx : (readD s.data.toList).2.2.2 = 0) (hn : (readD s.data.toList).2.1 ≠ a.size) :
    Calls Tryz.prog 11 #[.string a, .string s] w fun e w' => e = .returned (.tuple #[.slice none 0 0, .int .i64 7]) ∧ Below w.heap.size w w' := by
  have hre := read20_any s w hs
  obtain ⟨⟨l, n, c, x⟩, hD⟩ : ∃ D, D = readD s.data.toList := ⟨_, rfl⟩
  rw [← hD] at hre hx hn
  dsimp only at hre hx hn
  subst hx
  clear hD
  have t1 : ((n : Int) == (a.size : Int)) = false := beq_eq_false_iff_ne.2 (by omega)
  have t1' : (n == a.size) = false := beq_eq_false_iff_ne.2 hn
  go_enter Tryz.func11, Tryz.ntmps11
  go_wp2_with fail
  refine hre.mono ?_
  rintro e w1 ⟨v, er, rfl, -, hE, h1⟩
  rcases hE with ⟨rfl, -⟩ | ⟨p, -, hx3⟩
  rotate_left
  · omega
  have n3 : ∀ w, (binOp .eql 66 .nilIface .nilIface).run Tryz.prog w = .ok (.bool true) w := fun w => by kernel_rfl
  have n4 : ∀ w, (binOp .neq 66 (.iface 71 (.agg #[.string ⟨#[97, 114, 99, 104, 105, 118, 101]⟩, .iface 69 (.int .i64 7)])) .nilIface).run Tryz.prog w = .ok (.bool true) w := fun w => by kernel_rfl
  go_wp2_with fail
  refine (errno20_any _ 7 _ (.inr (.inr rfl))).mono ?_
  rintro e w2 ⟨rfl, h2⟩
  go_wp2_with fail
  go_ret2
  exact ⟨rfl, bV h1 h2⟩

set_option maxRecDepth 100000 in
set_option maxHeartbeats 3200000 in
/-- What says of an archive without levels that it has none is loaded. -/
theorem load20_none (a s : ByteArray) (w : World) (hE : iF w) (hs : s.size ≤ 1000000) (ha : a.size ≤ 120000) (hD : readD s.data.toList = ([], a.size, (fG a.data.toList).toNat, 0)) (hA : hH a.data.toList = ([], 0)) :
    Calls Tryz.prog 11 #[.string a, .string s] w fun e w' => ∃ b c, e = .returned (.tuple #[.slice b 0 c, .int .i64 0]) ∧ Below w.heap.size w w' := by
  have hre := read20_any s w hs
  rw [hD] at hre
  dsimp only at hre
  have hsu := fun W => FA a W (by omega)
  have hsc := fun W h => aX9 a W h ha
  have e2 : aUl a.data.toList = [] := by unfold aUl; rw [hA]; rfl
  rw [e2, hA] at hsc
  have hsc : ∀ W, iF W → Calls Tryz.prog 9 #[.string a] W fun e w' => ∃ v, e = .returned (.tuple #[v, .int .i64 0]) ∧ RdR w' v (([] : List Ent).map LF) ∧ Below W.heap.size W w' := hsc
  obtain ⟨C, hC⟩ : ∃ C, C = (fG a.data.toList).toNat := ⟨_, rfl⟩
  rw [← hC] at hre hsu
  clear hC hD hA e2
  go_enter Tryz.func11, Tryz.ntmps11
  go_wp2_with fail
  refine hre.mono ?_
  rintro e w1 ⟨v, er, rfl, hr, hEr, h1⟩
  rcases hEr with ⟨rfl, -⟩ | ⟨p, -, hx3⟩
  rotate_left
  · omega
  obtain ⟨a1, c1, rfl, -⟩ := aWp hr
  have hE1 := hE.below h1
  have n3 : ∀ w, (binOp .eql 66 .nilIface .nilIface).run Tryz.prog w = .ok (.bool true) w := fun w => by kernel_rfl
  have n4 : ∀ w, (binOp .neq 66 .nilIface .nilIface).run Tryz.prog w = .ok (.bool false) w := fun w => by kernel_rfl
  clear hre hr hE
  go_wp2_with fail
  refine (hsu _).mono ?_
  rintro e w2 ⟨rfl, h2⟩
  have hE2 := hE1.below h2
  clear hsu hE1
  go_wp2_with fail
  refine (hsc _ hE2).mono ?_
  rintro e w3 ⟨u, rfl, hu, h3⟩
  obtain ⟨a2, c2, rfl, -⟩ := aWp hu
  clear hsc hE2 hu
  go_wp2_with fail
  refine (equal20_nil a2 a1 c2 c1 _).mono ?_
  rintro e w4 ⟨rfl, rfl⟩
  go_wp2_with fail
  go_ret2
  exact ⟨_, _, rfl, bV (bV h1 h2) h3⟩

end Go.Proofs.YtmcogmmncfihhaaGreatDoor
