/-
  The walks of streams (chapter 17): what stands behind a stream's blocks.
-/
import Derived.Test.YtpgmbhpbgkljdaaGreatDoorP17Z
set_option linter.unusedVariables false
set_option linter.unusedSimpArgs false
namespace Go.Proofs.YtpgmbhpbgkljdaaGreatDoor
open Go.RowKit Go Go.Shelf

/-- A reader's box, of a stream. -/
def SRd (w : World) (b : Nat) (s : ByteArray) (a : Int) (v : Value) : Prop := Arr w b 190 [.string s, .int .i64 a, v]
theorem Ow.box {w w' : World} {B b e : Nat} {v : Value} {xs : List Value} (h : Ow w B e v xs) (hg : w.grownBy w' (some b)) (hb : b < B) : Ow w' B e v xs :=
  h.kept hg (by
    cases hv : v.ownBlock with
    | none => exact .inl rfl
    | some k => exact .inr (fun q => by injection q with q; have := (h.lt k hv).1; omega))

theorem nat_wI (d : Nat) (h : d ≤ 9223372036854775807) : IntKind.i64.wrap (d : Int) = (d : Int) := by rw [IntKind.wrap_i64]; omega
theorem u32_nat (V : Nat) (h : V < 4294967296) : IntKind.u32.wrap (V : Int) = (V : Int) := by rw [IntKind.wrap_u32]; omega
theorem u32_natM (V : Nat) (h : V < 4294967296) : (V : Int) % 4294967296 = (V : Int) := by omega
theorem end_num (a : Nat) (ha : a ≤ 90000000) : ∃ A r8 q pd F : Nat, A = a + 80 ∧ padN ((a : Int) + 80).toNat = pd ∧ pd ≤ 7 ∧ F = A + pd ∧ (A : Int) + (padN (A : Int).toNat : Int) = (F : Int) ∧ IntKind.i64.wrap ((a : Int) + 48) = (a : Int) + 48 ∧ IntKind.i64.wrap ((a : Int) + 80) = (A : Int) ∧ (a : Int) + 80 = (A : Int) ∧
    (A : Int).tmod 8 = (r8 : Int) ∧ IntKind.i64.wrap (8 - (r8 : Int)) = (q : Int) ∧ 8 - (r8 : Int) = (q : Int) ∧ (q : Int).tmod 8 = (pd : Int) ∧ IntKind.i64.wrap ((A : Int) + (pd : Int)) = (F : Int) ∧ (A : Int) + (pd : Int) = (F : Int) ∧ IntKind.i64.wrap (F : Int) = (F : Int) ∧ wrap64 (F : Int) = (F : Int) := by
  obtain ⟨A, hA⟩ : ∃ A, A = a + 80 := ⟨_, rfl⟩
  obtain ⟨r8, hr8⟩ : ∃ r8, r8 = A % 8 := ⟨_, rfl⟩
  obtain ⟨q, hq⟩ : ∃ q, q = 8 - r8 := ⟨_, rfl⟩
  obtain ⟨pd, hpd⟩ : ∃ pd, pd = q % 8 := ⟨_, rfl⟩
  obtain ⟨F, hF⟩ : ∃ F, F = A + pd := ⟨_, rfl⟩
  have hr : r8 < 8 := by rw [hr8]; exact Nat.mod_lt _ (by decide)
  have hp : pd < 8 := by rw [hpd]; exact Nat.mod_lt _ (by decide)
  have e1 : (a : Int) + 80 = (A : Int) := by omega
  have e2 : 8 - (r8 : Int) = (q : Int) := by omega
  have e3 : (A : Int) + (pd : Int) = (F : Int) := by omega
  have hFb : F ≤ 9223372036854775807 := by omega
  have hAb : A ≤ 9223372036854775807 := by omega
  have e4 : (a : Int) + 48 = ((a + 48 : Nat) : Int) := by push_cast; rfl
  have e5 : padN A = pd := by unfold padN; rw [← hr8, ← hq, hpd]
  have e6 : ((a : Int) + 80).toNat = A := by omega
  refine ⟨A, r8, q, pd, F, hA, by rw [e6]; exact e5, by omega, hF, by rw [Int.toNat_natCast, e5]; exact e3, ?_, ?_, e1, ?_, ?_, e2, ?_, ?_, e3, nat_wI F hFb, nat_w64 F hFb⟩
  · rw [e4]; exact nat_wI _ (by omega)
  · rw [e1]; exact nat_wI _ hAb
  · rw [Int.tmod_eq_emod_of_nonneg (Int.natCast_nonneg _), hr8]; rfl
  · rw [e2]; exact nat_wI _ (by omega)
  · rw [Int.tmod_eq_emod_of_nonneg (Int.natCast_nonneg _), hpd]; rfl
  · rw [e3]; exact nat_wI _ hFb

set_option maxRecDepth 100000 in
set_option maxHeartbeats 400000 in
theorem strEnd_any (b B : Nat) (s : ByteArray) (a : Nat) (v : Value) (l : List (BitVec 32)) (w : World) (hA : SRd w b s (a : Int) v) (hr : OwS w B v l) (hbB : b < B) (hs : s.size ≤ 1000000) (ha : a ≤ 90000000) :
    Calls Tryz.prog 140 #[.pointer (some ⟨b, 0, none⟩)] w fun e w' =>
      e = .returned (.int .i64 (endD s.data.toList (a : Int) (allB l)).2) ∧ w.grownBy w' (some b) ∧ ∃ a' : Int, SRd w' b s a' v ∧ ((endD s.data.toList (a : Int) (allB l)).2 = 0 → a' = (endD s.data.toList (a : Int) (allB l)).1) := by
  have HL := hid (show s.data.toList.length = s.size by simp)
  obtain ⟨A, r8, q, pd, F, hAe, hpn, hpd7, hF, hAF, hrest⟩ := end_num a ha
  have HR := hid hrest
  clear hrest
  have hAI : (a : Int) + 80 = (A : Int) := by omega
  have hFI : (A : Int) + (pd : Int) = (F : Int) := by omega
  have hg1 := fun W => sT s ((a : Int) + 48) 32 W hs (by decide) (by omega) (by omega)
  have hg2 := fun W => sT s (A : Int) pd W hs (by omega) (by omega) (by omega)
  have hpn' : padN (A : Int).toNat = pd := by rw [← hAI]; exact hpn
  have hAF' : (A : Int) + (pd : Int) = (F : Int) := hFI
  have hv1 := iA s.data.toList ((a : Int) + 48) 32
  have hd : endD s.data.toList (a : Int) (allB l) = if aO s.size ((a : Int) + 48) 32 ≠ 0 then (0, aO s.size ((a : Int) + 48) 32) else if aE s.data.toList ((a : Int) + 48) 32 ≠ (allB l).toNat then (0, 7) else if aE s.data.toList (A : Int) pd ≠ 0 then (0, 3) else ((F : Int), 0) := by
    unfold endD
    rw [HL.out, hAI, hpn', hAF']
  have hcall := fun W (h : RdS W v l) => all_any v l W h
  obtain ⟨S, hS⟩ : ∃ S, S = (allB l).toNat := ⟨_, rfl⟩
  obtain ⟨E, hE⟩ : ∃ E, E = aO s.size ((a : Int) + 48) 32 := ⟨_, rfl⟩
  obtain ⟨V, hV⟩ : ∃ V, V = aE s.data.toList ((a : Int) + 48) 32 := ⟨_, rfl⟩
  obtain ⟨E2, hE2⟩ : ∃ E2, E2 = aO s.size (A : Int) pd := ⟨_, rfl⟩
  obtain ⟨V2, hV2⟩ : ∃ V2, V2 = aE s.data.toList (A : Int) pd := ⟨_, rfl⟩
  rw [← hE, ← hV] at hg1
  rw [← hE2, ← hV2] at hg2
  rw [← hS] at hcall
  rw [← hE, ← hV, ← hV2, ← hS] at hd
  rw [← hV] at hv1
  have hv1' : V < 4294967296 := hv1
  obtain ⟨m1, m2, m2', m3, m4, m4', m5, m6, m6', -, -⟩ := HR.out
  have m7 := u32_nat V hv1'
  have m7' := u32_natM V hv1'
  have HD := hid hd
  have c0 := Arr.cell hA (i := 0) rfl
  have c1 := Arr.cell hA (i := 1) rfl
  clear hpn' hAF' HR hAI hFI
  clear hd hS hE hV hE2 hV2 hv1 hpn hAe hF hAF HL
  go_enter Tryz.func140, Tryz.ntmps140
  go_wp2_with fail
  go_quiet (first | (go_at_call 25; exact Calls.quiet_of_same (hg1 _)))
  generalize hWn : w.drewN nq = W1 at *
  have hA1 : SRd W1 b s (a : Int) v := by rw [← hWn]; exact hA
  have hr1 : OwS W1 B v l := by rw [← hWn]; exact hr
  have hgr1 : w.grownBy W1 (some b) := by rw [← hWn]; exact ⟨rfl, rfl, rfl, Nat.le_refl _, fun _ _ _ => rfl⟩
  have d1 := Arr.cell hA1 (i := 1) rfl
  have f1 := Arr.free hA1 1
  have hA2 : SRd (W1.setCell ⟨b, 1, none⟩ (.int .i64 (A : Int))) b s (A : Int) v := Arr.set hA1 1 _
  have hr2 : OwS (W1.setCell ⟨b, 1, none⟩ (.int .i64 (A : Int))) B v l := Ow.box hr1 (gbS _ _ _ _) hbB
  have hgr2 := gbT hgr1 (gbS W1 b 1 (.int .i64 (A : Int)))
  have e0 := Arr.cell hA2 (i := 0) rfl
  have e1 := Arr.cell hA2 (i := 1) rfl
  clear hWn hA hr c0 c1 hA1 hr1 hgr1
  go_wp2_with fail
  generalize W1.setCell ⟨b, 1, none⟩ (.int .i64 (A : Int)) = W2 at *
  go_quiet (first | (go_at_call 25; exact Calls.quiet_of_same (hg2 _)))
  generalize hWn : W2.drewN nq = W3 at *
  have hA3 : SRd W3 b s (A : Int) v := by rw [← hWn]; exact hA2
  have hr3 : OwS W3 B v l := by rw [← hWn]; exact hr2
  have hgr3 : w.grownBy W3 (some b) := by rw [← hWn]; exact ⟨hgr2.os, hgr2.tape, hgr2.output, hgr2.size, hgr2.block⟩
  have d3 := Arr.cell hA3 (i := 1) rfl
  have f3 := Arr.free hA3 1
  have hA4 : SRd (W3.setCell ⟨b, 1, none⟩ (.int .i64 (F : Int))) b s (F : Int) v := Arr.set hA3 1 _
  have hr4 : OwS (W3.setCell ⟨b, 1, none⟩ (.int .i64 (F : Int))) B v l := Ow.box hr3 (gbS _ _ _ _) hbB
  have hgr4 := gbT hgr3 (gbS W3 b 1 (.int .i64 (F : Int)))
  have e2 := Arr.cell hA4 (i := 2) rfl
  have hrd := hr4.rd
  have hrt := hcall _ hrd
  clear hWn hA2 hr2 hgr2 e0 e1 d1 f1 hA3 hr3 hgr3 hg1 hg2 hcall
  by_cases h1 : E = 0
  rotate_left
  · have t1 : (E == 0) = false := by rw [beq_eq_false_iff_ne]; exact h1
    have t2 : (E != 0) = true := by rw [bne_iff_ne]; exact h1
    have hd := HD.out
    rw [if_pos h1] at hd
    have HF := hid hd
    clear hd HD hrt h1
    go_wp2_with fail
    go_ret
    exact ⟨fX (by rw [HF.out]), hgr4, _, hA4, fun k => absurd (by rw [HF.out] at k; exact k) (by simpa using t2)⟩
  subst h1
  have hd := HD.out
  rw [if_neg (fun k => k rfl)] at hd
  have HD := hid hd
  clear hd
  go_wp2_with fail
  refine hrt.mono ?_
  rintro e w' ⟨rfl, rfl⟩
  by_cases h2 : V = S
  rotate_left
  · have t1 : ((V : Int) != (S : Int)) = true := by rw [bne_iff_ne]; exact fun q => h2 (Int.ofNat_inj.1 q)
    have t2 : (V != S) = true := by rw [bne_iff_ne]; exact h2
    have hd := HD.out
    rw [if_pos h2] at hd
    have HF := hid hd
    clear hd HD h2
    go_wp2_with fail
    go_ret
    exact ⟨fX (by rw [HF.out]), hgr4, _, hA4, fun k => absurd (by rw [HF.out] at k; exact k) (by decide)⟩
  have t1 : ((V : Int) != (S : Int)) = false := by rw [bne_eq_false_iff_eq, h2]
  have t2 : (V != S) = false := by rw [bne_eq_false_iff_eq]; exact h2
  have hd := HD.out
  rw [if_neg (fun k => k h2)] at hd
  by_cases h3 : V2 = 0
  rotate_left
  · have t3 : ((V2 : Int) != 0) = true := by rw [bne_iff_ne]; exact fun q => h3 (Int.ofNat_inj.1 q)
    have t4 : (V2 != 0) = true := by rw [bne_iff_ne]; exact h3
    rw [if_pos h3] at hd
    have HF := hid hd
    clear hd HD h2 h3
    go_wp2_with fail
    go_ret
    exact ⟨fX (by rw [HF.out]), hgr4, _, hA4, fun k => absurd (by rw [HF.out] at k; exact k) (by decide)⟩
  have t3 : ((V2 : Int) != 0) = false := by rw [bne_eq_false_iff_eq, h3]; rfl
  have t4 : (V2 != 0) = false := by rw [bne_eq_false_iff_eq]; exact h3
  rw [if_neg (fun k => k h3)] at hd
  have HF := hid hd
  clear hd HD h2 h3
  go_wp2_with fail
  go_ret
  exact ⟨fX (by rw [HF.out]), hgr4, _, hA4, fun _ => by rw [HF.out]⟩

end Go.Proofs.YtpgmbhpbgkljdaaGreatDoor
