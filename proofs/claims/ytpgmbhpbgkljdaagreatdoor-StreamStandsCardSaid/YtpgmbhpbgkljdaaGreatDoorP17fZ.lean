/-
  The walks of streams (chapter 17): an archive's parts, one behind the other.
-/
import Derived.Test.YtpgmbhpbgkljdaaGreatDoorP17bZ
set_option linter.unusedVariables false
set_option linter.unusedSimpArgs false
namespace Go.Proofs.YtpgmbhpbgkljdaaGreatDoor
open Go.RowKit Go Go.Shelf

attribute [local go_sem] Oper.semAt_some

theorem yok_any {n l B : Nat} {T : List PrtE} {J Jx : List PrtE → World → Prop} (h : YOk n l B T J Jx) (m : Nat) : YOk m l B T J Jx := fun pre x W1 a b c =>
  let ⟨fn, tmps, assign, body, hy, hR⟩ := h pre x W1 a b c
  ⟨fn, tmps, assign, body, hy, hR.1, fun c cs _ => hR.2 c cs (room_wide _)⟩

/-- How far an archive's parts go. -/
def PaQ (s : List UInt8) (g : Nat) (a : Nat) (acc : List Prt) : Prop := arcD s = arcF s g (8 * (a : Int)) acc ∧ 8 * a ≤ 8 * s.length ∧ 8 * s.length + 1 ≤ g + 8 * a

set_option maxRecDepth 100000 in
set_option maxHeartbeats 1600000 in
theorem parts1_in (n : Nat) (hn : 2 ≤ n) (l Ab : Nat) (s : ByteArray) (J Jx : List PrtE → World → Prop) (W : World) (hs : s.size ≤ 120000) (hA : Arr W Ab 9 [.string s])
    (hJ : JOk W.heap.size J) (hJE : ∀ p X, J p X → iF X) (hY : YOk (n - 1) l W.heap.size (arcT s.data.toList) J Jx) (h0 : J [] W) :
    CallsIn Fence.wide n Tryz.prog 119 #[.func (.yield l) #[] #[], .pointer (some ⟨Ab, 0, none⟩)] W fun e W' => (∃ v, e = .returned v) ∧ (J (arcT s.data.toList) W' ∨ ∃ pre, Jx pre W') := by
  refine callsIn_of_wp Tryz.func119 rfl trivial ?_ rfl
  simp only [Tryz.ntmps119, List.size_toArray, List.length_cons, List.length_nil, Nat.reduceAdd, Nat.reduceSub, Array.replicate_succ, Array.replicate_zero, List.push_toArray, List.append_toArray, List.nil_append, List.cons_append]
  have HL := hid (show s.data.toList.length = s.size by simp)
  have c0 := hA.cell (i := 0) rfl
  by_cases he : s.data.toList = []
  · have te : s.toList.isEmpty = true := by rw [Lib.toList_data, he]; rfl
    have hT : arcT s.data.toList = [] ++ [(zeroP, 3)] := by rw [he]; exact arcT_nil
    obtain ⟨fn, tmps, assign, body, hy, hR⟩ := bad_yield hY hT h0 (Nat.le_refl _)
    clear he hT
    gi_wp2_with fail
    refine ⟨fun _ => by omega, hR.mono ?_⟩
    rintro e W5 ⟨⟨c, rfl⟩, hfin⟩
    gi_wp2_with fail
    refine bodyPost_ret (results_none rfl _ _ _) rfl ?_
    exact ⟨⟨_, rfl⟩, hfin⟩
  have te : s.toList.isEmpty = false := LR he
  have hpos : 0 < s.size := by rw [← HL.out]; exact List.length_pos_iff.2 he
  have HQ := hid (show PaQ s.data.toList (8 * s.size + 1) 0 [] by
    unfold PaQ
    refine ⟨?_, by omega, by rw [HL.out]; omega⟩
    unfold arcD
    rw [if_neg he, HL.out]
    rfl)
  clear he
  gi_wp2_with fail
  have hA1 : SRd (W.alloc (.cells #[.string s, .int .i64 0, .slice none 0 0] 190)) W.heap.size s ((0 : Nat) : Int) (.slice none 0 0) := Arr.new W _ [_, _, _]
  have hS1 := Arr.alloc hA (.cells #[.string s, .int .i64 0, .slice none 0 0] 190)
  have hJ1 := hJ _ _ (W.alloc (.cells #[.string s, .int .i64 0, .slice none 0 0] 190)) h0 (KeepR.of (bD (Below.refl _ _) _) (Nat.le_refl _))
  generalize W.alloc (.cells #[.string s, .int .i64 0, .slice none 0 0] 190) = W1 at *
  have hAbW : Ab < W.heap.size := hA.lt
  obtain ⟨B0, hB0⟩ : ∃ B0, B0 = W.heap.size := ⟨_, rfl⟩
  rw [← hB0] at hA1 hAbW hJ hY ⊢
  have HB := hid hB0
  clear h0 hA c0 hB0
  have hm1 : (8 * s.size) ≤ 1000000 := by omega
  have hJA : ∀ X Y, Arr X Ab 9 [.string s] → KeepR B0 X Y → Arr Y Ab 9 [.string s] := fun X Y h k => h.below k.bel hAbW
  have hY' : ∀ m, YOk m l B0 (arcT s.data.toList) (fun p X => J p X ∧ Arr X Ab 9 [.string s]) Jx := fun m pre x X1 hj hb hr => by
    obtain ⟨fn, tmps, assign, body, hy, hR⟩ := yok_any hY m pre x X1 hj.1 hb hr
    refine ⟨fn, tmps, assign, body, hy, hR.mono ?_⟩
    rintro e W' (⟨rfl, h1, h2⟩ | ⟨rfl, h1⟩)
    · exact .inl ⟨rfl, ⟨h1, h2.arr hj.2 (by unfold TyIter; decide) (fun q => by cases q)⟩, h2⟩
    · exact .inr ⟨rfl, h1⟩
  gi_loopg [] (8 * s.size + 1) (fun g wr => ∃ (acc : List Prt) (a : Nat) (v : Value), J (okP acc) wr ∧ SRd wr B0 s (8 * (a : Int)) v ∧ Arr wr Ab 9 [.string s] ∧ Hid (PaQ s.data.toList g a acc))
  case atStart => exact ⟨[], 0, _, hJ1, hA1, hS1, HQ⟩
  case round =>
    clear hA1 hS1 hJ1 HQ
    obtain ⟨acc, a, v, hJr, hAr, hSr, HQ⟩ := hrel
    obtain ⟨hq1, hq2, hq3⟩ := HQ.out
    rw [HL.out] at hq2 hq3
    obtain ⟨A, hAe⟩ : ∃ A, A = 8 * a := ⟨_, rfl⟩
    obtain ⟨Sz, hSz⟩ : ∃ Sz, Sz = 8 * s.size := ⟨_, rfl⟩
    have hAI : 8 * (a : Int) = (A : Int) := by omega
    have hSI : 8 * (s.size : Int) = (Sz : Int) := by omega
    have hAb : A ≤ 1000000 := by omega
    have hSb : Sz ≤ 1000000 := by omega
    rw [hAI] at hAr
    have hw : IntKind.i64.wrap (8 * (s.size : Int)) = (Sz : Int) := by rw [hSI]; exact nat_wI _ (by omega)
    have c0 := Arr.cell hAr (i := 1) rfl
    have s0 := Arr.cell hSr (i := 0) rfl
    by_cases hlt : A < Sz
    rotate_left
    · have t1 : decide ((A : Int) < (Sz : Int)) = false := decide_eq_false (by omega)
      obtain ⟨f, rfl⟩ : ∃ f, gk = f + 1 := ⟨gk - 1, by omega⟩
      have hdone := hid (arc_done hq1 (by rw [HL.out]; omega)).1
      clear hq1 hq2 hq3 hAe hSz HQ hAI
      gi_wp2_with fail
      refine wpIn_wide.2 ?_
      go_quiet (fail)
      gi_wp2_with fail
      go_end0
      exact ⟨⟨_, rfl⟩, .inl (by rw [hdone.out]; exact hJ _ _ _ hJr (KeepR.drewN _ _ _))⟩
    have t1 : decide ((A : Int) < (Sz : Int)) = true := decide_eq_true (by omega)
    obtain ⟨f, rfl⟩ : ∃ f, gk = f + 1 := ⟨gk - 1, by omega⟩
    have hin := inT_of hq1 (by rw [HL.out]; omega)
    rw [show (8 * (a : Int)) = ((8 * a : Nat) : Int) by omega] at hin
    have hnx := fun hb => arc_next hq1 (by rw [HL.out]; omega) hb
    have hmod := fun hb => strD_mod (s := s.data.toList) (a := 8 * (a : Int)) (by omega) hb
    have hok := fun hb => strD_ok (s := s.data.toList) (a := 8 * (a : Int)) hb
    rw [show (8 * (a : Int)) = ((8 * a : Nat) : Int) by omega] at hnx hmod hok
    rw [HL.out] at hok
    have HNX := hid hnx
    have HMOD := hid hmod
    have HOK := hid hok
    have HIN := hid hin
    have ha8 : a < s.size := by omega
    have HAE := hid hAe
    have hfq : 8 * s.size ≤ f + 8 * a := by omega
    clear hq1 hq2 hq3 hAe hSz HQ hAI hnx hmod hok hin
    gi_wp2_with fail
    refine wpIn_wide.2 ?_
    go_quiet (fail)
    generalize hWn : wr.drewN nq = W4 at *
    have hA4 : SRd W4 B0 s ((8 * a : Nat) : Int) v := by rw [← hWn, ← HAE.out]; exact hAr
    have hS4 : Arr W4 Ab 9 [.string s] := by rw [← hWn]; exact hSr
    have hJ4 : J (okP acc) W4 := by rw [← hWn]; exact hJ _ _ _ hJr (KeepR.drewN _ _ _)
    clear hWn hAr hSr hJr c0 s0
    have hcall := stream_in (n - 1) (by omega) l B0 B0 a s v (okP acc) (arcT s.data.toList) (fun p X => J p X ∧ Arr X Ab 9 [.string s]) Jx W4 hs ha8 hA4 (Nat.le_refl _) (fun p X Y h k => ⟨hJ _ _ _ h.1 k, hJA _ _ h.2 k⟩) (fun p X h => hJE _ _ h.1) (hY' _) HIN.out ⟨hJ4, hS4⟩
    gi_wp2_with fail
    refine ⟨trivial, fun _ => by omega, hcall.mono ?_⟩
    rintro e W5 (⟨rfl, hd3, ⟨hJ5, hS5⟩, v5, hA5⟩ | ⟨rfl, hfin⟩)
    · have hm := HMOD.out hd3
      have hk := HOK.out hd3
      obtain ⟨a', ha'⟩ : ∃ a' : Nat, (strD s.data.toList ((8 * a : Nat) : Int)).2.1 = 8 * (a' : Int) := ⟨((strD s.data.toList ((8 * a : Nat) : Int)).2.1 / 8).toNat, by omega⟩
      have hn := HNX.out hd3
      rw [ha'] at hn hA5 hk
      have HN := hid (show PaQ s.data.toList f a' (acc ++ (strD s.data.toList ((8 * a : Nat) : Int)).1) from ⟨hn, by rw [HL.out]; omega, by rw [HL.out]; omega⟩)
      have hmeas : f < f + 1 := Nat.lt_succ_self f
      rw [← okP_append] at hJ5
      clear hcall hm hk ha' hn hd3 HMOD HOK HNX HIN
      gi_wp2_with fail
      gi_roundg f
      case measure => exact hmeas
      case rel => exact ⟨_, a', v5, hJ5, hA5, hS5, HN⟩
    · gi_wp2_with fail
      refine bodyPost_ret (results_none rfl _ _ _) rfl ?_
      exact ⟨⟨_, rfl⟩, hfin.elim (fun h => .inl h.1) .inr⟩

/-- What an archive's parts promise to whoever ranges over them. -/
theorem parts_seq (n : Nat) (hn : 2 ≤ n) (Ab : Nat) (s : ByteArray) (w : World) (hA : Arr w Ab 9 [.string s]) (hs : s.size ≤ 120000) :
    SeqTy n Tryz.prog 119 #[.pointer (some ⟨Ab, 0, none⟩)] encPE (TyKept TyCons none) (TyKept TyIter none) iF (fun pre x => ∃ r, arcT s.data.toList = pre ++ x :: r) (fun xs => xs = arcT s.data.toList) w := fun l J Jx W hW hJ _ hJE hY h0 =>
  (parts1_in n hn l Ab s J Jx W hs (hA.below hW hA.lt) (fun p X Y h k => hJ p X Y h k.bel k.ty) hJE (fun pre x W1 a b c => hY pre x W1 a b c) h0).mono fun _ _ h => ⟨h.1, h.2.elim (fun k => .inl ⟨_, rfl, k⟩) .inr⟩

end Go.Proofs.YtpgmbhpbgkljdaaGreatDoor
