/-
  The walks of the document's own chapter 5.
-/
import Derived.Test.YthjmpiekjfnoiaaGreatDoorZ3
import Derived.Test.YthjmpiekjfnoiaaGreatDoorZ4
import Derived.Deep.AppendLies
import Derived.Deep.RegionHeld3
import Derived.Test.YthjmpiekjfnoiaaGreatDoorZ1
import Derived.Test.YthjmpiekjfnoiaaGreatDoorZ2
namespace Go.Proofs.YthjmpiekjfnoiaaGreatDoor
open Go.RowKit

theorem front_ext (a : ByteArray) (i : Nat) : a.extract i (i + 1) ++ a.extract 0 i ++ a.extract (i + 1) a.size = mkS (toFront a.data.toList i) := by
  rw [ext_data, ext_data, ext_data, mkS_append, mkS_append]
  unfold toFront
  rw [List.drop_zero, Nat.sub_zero, show i + 1 - i = 1 by omega, List.take_of_length_le (l := a.data.toList.drop (i + 1)) (by rw [List.length_drop]; simp)]
theorem toFront_size (a : ByteArray) (i : Nat) : (mkS (toFront a.data.toList i)).size = a.size := by rw [mkS_size, toFront_length]; simp

set_option maxRecDepth 100000 in
theorem refPlace_any (a : ByteArray) (b : UInt8) (w : World) (hs : a.size ≤ 1000000000) (hm : b ∈ a.data.toList) :
    Calls Tryz.prog 83 #[.string a, .int .u8 (b.toNat : Int)] w fun e w' => e = .returned (.int .i64 ((plc a.data.toList b : Nat) : Int)) ∧ w' = w := by
  have hl : a.data.toList.length = a.size := by simp
  have hp := plc_lt hm
  rw [hl] at hp
  obtain ⟨p, hpp⟩ : ∃ p, p = plc a.data.toList b := ⟨_, rfl⟩
  rw [← hpp] at hp ⊢
  have HPP := hid hpp
  have HL := hid hl
  have hb := b.toNat_lt
  clear hl hpp
  go_enter Tryz.func83, Tryz.ntmps83
  go_wp2_with fail
  go_loopg [5] p (fun gh s5 wr => ∃ k : Nat, k ≤ p ∧ gh = p - k ∧ s5 = .int .i64 k ∧ w = wr)
  case atStart => exact ⟨0, Nat.zero_le _, rfl, rfl, rfl⟩
  case round =>
  obtain ⟨k, hk, hg, rfl, rfl⟩ := hrel
  have HG := hid hg
  clear hg
  have hka : k < a.size := by omega
  have hbk := a[k].toNat_lt
  by_cases hkp : k < p
  · have hne : a[k].toNat ≠ b.toNat := by
      have h1 := plc_min (a := a.data.toList) (c := b) (i := k) (by rw [← HPP.out]; exact hkp) (by rw [HL.out]; exact hka)
      intro e
      exact h1 (UInt8.toNat_inj.1 e)
    have t1 : ((a[k].toNat : Int) == (b.toNat : Int)) = false := by rw [beq_eq_false_iff_ne]; omega
    have t2 : ¬ ((a[k].toNat : Int) = (b.toNat : Int)) := by omega
    go_wp2_with fail
    have hg := HG.out
    go_roundg (p - (k + 1))
    case measure => omega
    case rel => exact ⟨k + 1, by omega, rfl, by go_num, rfl⟩
  · obtain rfl : p = k := by omega
    have he : a[p] = b := by
      have h1 := plc_get hm
      rw [← HPP.out] at h1
      rw [byteAt a p hka] at h1
      exact Option.some.inj h1
    have t1 : ((a[p].toNat : Int) == (b.toNat : Int)) = true := by rw [beq_iff_eq, he]
    clear he
    go_wp2_with fail
    go_ret
    exact ⟨rfl, rfl⟩

set_option maxRecDepth 100000 in
theorem refRight_any (a : ByteArray) (w : World) (hs : a.size ≤ 1000000000) (hn : a.data.toList.Nodup) :
    Calls Tryz.prog 70 #[.string a] w fun e w' => e = .returned (.bool true) ∧ w' = w := by
  have HN := hid hn
  clear hn
  go_enter Tryz.func70, Tryz.ntmps70
  go_wp2_with fail
  go_loopg [3] a.size (fun gh s3 wr => ∃ k : Nat, k ≤ a.size ∧ gh = a.size - k ∧ s3 = .int .i64 k ∧ w = wr)
  case atStart => exact ⟨0, Nat.zero_le _, rfl, rfl, rfl⟩
  case round =>
  obtain ⟨k, hk, hg, rfl, rfl⟩ := hrel
  have HG := hid hg
  clear hg
  by_cases hka : k < a.size
  · have hp := hid (show plc a.data.toList a[k] = k from plc_nodup (a := a.data.toList) HN.out (i := k) (by simpa using hka))
    have hm : a[k] ∈ a.data.toList := List.mem_of_getElem? (byteAt a k hka)
    have t1 : decide ((k : Int) < (k : Int)) = false := decide_eq_false (by omega)
    go_wp2_with fail
    refine (refPlace_any a a[k] _ hs hm).mono ?_
    rintro e w1 ⟨rfl, rfl⟩
    rw [hp.out]
    go_wp2_with fail
    have hg := HG.out
    go_roundg (a.size - (k + 1))
    case measure => omega
    case rel => exact ⟨k + 1, by omega, rfl, by go_num, rfl⟩
  · go_wp2_with fail
    go_ret
    exact ⟨rfl, rfl⟩

set_option maxRecDepth 100000 in
theorem refFront1_any (a : ByteArray) (i : Nat) (w : World) (hs : a.size ≤ 1000000000) (hi : i < a.size) :
    Calls Tryz.prog 71 #[.string a, .int .i64 (i : Int)] w fun e w' => e = .returned (.string (mkS (toFront a.data.toList i))) ∧ Below w.heap.size w w' := by
  have e := front_ext a i
  have HE := hid e
  clear e
  have hle : i ≤ a.size := by omega
  have hle2 : i + 1 ≤ a.size := by omega
  go_enter Tryz.func71, Tryz.ntmps71
  go_wp2
  go_quiet (fail)
  go_wp2
  go_ret
  exact ⟨ret_str HE.out, bDrewN (Below.refl _ _) _⟩

set_option maxRecDepth 100000 in
set_option maxHeartbeats 1600000 in
theorem refFront_any (a s : ByteArray) (w : World) (ha : a.size ≤ 1000) (hs : s.size ≤ 1000000) (hn : a.data.toList.Nodup) (hsub : ∀ b ∈ s.data.toList, b ∈ a.data.toList) :
    Calls Tryz.prog 30 #[.string a, .string s] w fun e w' => ∃ v, e = .returned (.tuple #[v, .int .i64 0]) ∧ OwI w' w.heap.size v (mtfL a.data.toList s.data.toList) ∧ Below w.heap.size w w' := by
  have htold : Calls Tryz.prog 59 #[.string a, .string s] w fun e w' => ∃ v u, e = .returned (.tuple #[v, u, .int .i64 0]) ∧ OwI w' w.heap.size v (mtfL a.data.toList s.data.toList) ∧ Below w.heap.size w w' := by
    have HN := hid hn
    have HSUB := hid hsub
    have hl : s.data.toList.length = s.size := by simp
    have hla : a.data.toList.length = a.size := by simp
    have HL := hid hl
    have HLA := hid hla
    clear hn hsub hl hla
    go_enter Tryz.func59, Tryz.ntmps59
    go_wp2_with fail
    refine (refRight_any a _ (by omega) HN.out).mono ?_
    rintro e w1 ⟨rfl, rfl⟩
    go_wp2_with fail
    go_loopg [8, 9, 10, 11] s.size (fun gh s8 s9 s10 _s11 wr => ∃ k : Nat, k ≤ s.size ∧ gh = s.size - k ∧ s10 = .int .i64 k ∧ s8 = .string (mkS (mtfA a.data.toList (s.data.toList.take k))) ∧ OwI wr w1.heap.size s9 (mtfL a.data.toList (s.data.toList.take k)) ∧ Below w1.heap.size w1 wr)
    case atStart => exact ⟨0, Nat.zero_le _, rfl, rfl, by simp [mtfA, mkS_of], OwI.nil _ _, Below.refl _ _⟩
    case round =>
    obtain ⟨k, hk, hg, rfl, rfl, hown, hbel⟩ := hrel
    have HG := hid hg
    clear hg
    by_cases hlt : k < s.size
    · obtain ⟨A, hA⟩ : ∃ A, A = mkS (mtfA a.data.toList (s.data.toList.take k)) := ⟨_, rfl⟩
      have hAl : A.data.toList = mtfA a.data.toList (s.data.toList.take k) := by rw [hA]; rfl
      have hperm := mtfA_perm (s.data.toList.take k) a.data.toList
      rw [← hAl] at hperm
      have hAs : A.size = a.size := by
        have := hperm.length_eq
        simpa using this
      have hmem : s[k] ∈ A.data.toList := hperm.mem_iff.2 (HSUB.out _ (List.mem_of_getElem? (byteAt s k hlt)))
      have e1 := hid (show mtfL a.data.toList (s.data.toList.take (k + 1)) = mtfL a.data.toList (s.data.toList.take k) ++ [((plc A.data.toList s[k] : Nat) : Int)] by
        rw [List.take_add_one, byteAt s k hlt, Option.toList_some, mtfL_snoc, ← hAl])
      have e2 := hid (show mtfA a.data.toList (s.data.toList.take (k + 1)) = toFront A.data.toList (plc A.data.toList s[k]) by
        rw [List.take_add_one, byteAt s k hlt, Option.toList_some, mtfA_snoc, ← hAl])
      have hll := hid (show (mtfL a.data.toList (s.data.toList.take k)).length = k by rw [mtfL_length, List.length_take, HL.out]; omega)
      rw [← hA]
      have hp := plc_lt hmem
      rw [show A.data.toList.length = A.size by simp] at hp
      obtain ⟨p, hpp⟩ : ∃ p, p = plc A.data.toList s[k] := ⟨_, rfl⟩
      rw [← hpp] at hp e1 e2
      have HPP := hid hpp
      have hA1000 : A.size ≤ 1000 := by omega
      have hbs := hbel.size
      have hb := s[k].toNat_lt
      clear hA hAl hperm hAs hpp
      go_wp2_with fail
      refine (refPlace_any A s[k] _ (by omega) hmem).mono ?_
      rintro e w2 ⟨rfl, rfl⟩
      rw [← HPP.out]
      go_wp2_with (at_builtin; refine appI rfl _ _ rfl w1.heap.size _ _ rfl (hown.alloc _) w2.heap.size (p : Int) rfl ?_ ?_ ?_ ?_; (exact newc _ _ _); (rw [hll.out]; omega); (simp; omega); intro v' w3 hown' hB hgrow)
      refine (refFront1_any A p _ (by omega) hp).mono ?_
      rintro e w4 ⟨rfl, h4⟩
      rw [← e2.out]
      go_wp2_with fail
      have hg := HG.out
      go_roundg (s.size - (k + 1))
      case measure => omega
      case rel => exact ⟨k + 1, by omega, rfl, by go_num, rfl, by rw [e1.out]; exact hown'.below h4 (Nat.le_refl _), ((hbel.alloc hbs _).trans hB).trans (h4.mono (by have := hB.size; simp at this; omega))⟩
    · have hke : k = s.size := by omega
      go_wp2_with fail
      go_ret3
      rw [List.take_of_length_le (by rw [HL.out]; omega)] at hown
      exact ⟨_, _, rfl, hown, hbel⟩
  have HT := hid htold
  clear htold hn hsub
  go_enter Tryz.func30, Tryz.ntmps30
  go_wp2_with fail
  refine HT.out.mono ?_
  rintro e w1 ⟨v, u, rfl, hown, hb⟩
  go_wp2_with fail
  go_ret2
  exact ⟨_, rfl, hown, hb⟩

set_option maxRecDepth 100000 in
set_option maxHeartbeats 1600000 in
theorem refBack5_any (a : ByteArray) (v : Value) (l : List Int) (w : World) (ha : a.size ≤ 1000) (hl : l.length ≤ 1000000) (hn : a.data.toList.Nodup) (hr : RdI w v l) (hx : ∀ x ∈ l, 0 ≤ x ∧ x < (a.size : Int)) :
    Calls Tryz.prog 44 #[.string a, v] w fun e w' => e = .returned (.tuple #[.string (mkS (unL a.data.toList l)), .int .i64 0]) ∧ Below w.heap.size w w' := by
  obtain ⟨ad, ca, rfl, hca, hma, hA⟩ := hr.open
  unfold maxLen at hma
  have HN := hid hn
  have HX := hid hx
  clear hn hx hr
  go_enter Tryz.func44, Tryz.ntmps44
  go_wp2_with fail
  refine (refRight_any a _ (by omega) HN.out).mono ?_
  rintro e w1 ⟨rfl, rfl⟩
  go_wp2_with fail
  go_loopg [7, 8, 9] l.length (fun gh s7 s8 s9 wr => ∃ k : Nat, k ≤ l.length ∧ gh = l.length - k ∧ s9 = .int .i64 k ∧ s7 = .string (mkS (unA a.data.toList (l.take k))) ∧ s8 = .string (mkS (unL a.data.toList (l.take k))) ∧ Below w1.heap.size w1 wr)
  case atStart => exact ⟨0, Nat.zero_le _, rfl, rfl, by simp [unA, mkS_of], by simp [unL, mkS], Below.refl _ _⟩
  case round =>
  obtain ⟨k, hk, hg, rfl, rfl, rfl, hbel⟩ := hrel
  have HG := hid hg
  clear hg
  by_cases hlt : k < l.length
  · obtain ⟨b0, o0, rfl, hb0, hc0⟩ := hA (by omega)
    obtain ⟨x, hx⟩ := getI hlt
    have c1 := (hbel.cell (p := ⟨b0, o0 + k, none⟩) hb0).trans (hc0 k x hx)
    have hxb := HX.out x (List.mem_of_getElem? hx)
    obtain ⟨i, rfl⟩ : ∃ i : Nat, x = (i : Int) := ⟨x.toNat, by omega⟩
    obtain ⟨A, hAA⟩ : ∃ A, A = mkS (unA a.data.toList (l.take k)) := ⟨_, rfl⟩
    have hAl : A.data.toList = unA a.data.toList (l.take k) := by rw [hAA]; rfl
    have hAs : A.size = a.size := by rw [hAA, mkS_size, (unA_perm _ _).length_eq]; simp
    obtain ⟨S, hS⟩ : ∃ S, S = mkS (unL a.data.toList (l.take k)) := ⟨_, rfl⟩
    have hSs : S.size = k := by rw [hS, mkS_size, unL_length, List.length_take]; omega
    have hi : i < A.size := by omega
    have hA1000 : A.size ≤ 1000 := by omega
    obtain ⟨C, hC⟩ : ∃ C, C = mkS [A.data.toList.getD i 0] := ⟨_, rfl⟩
    have eC : A.extract i (i + 1) = C := by rw [ext_one A i hi, hC]
    have hCs : C.size = 1 := by rw [hC]; rfl
    have e1 := hid (show mkS (unL a.data.toList (l.take (k + 1))) = S ++ C by
      rw [List.take_add_one, hx, Option.toList_some, unL_snoc, ← mkS_append, hS, hC, hAl]; rfl)
    have e2 := hid (show mkS (unA a.data.toList (l.take (k + 1))) = mkS (toFront A.data.toList i) by
      rw [List.take_add_one, hx, Option.toList_some, unA_snoc, ← hAl]; rfl)
    rw [← hAA, ← hS]
    have t1 : decide ((i : Int) < 0) = false := decide_eq_false (by omega)
    have t2 : decide (A.size ≤ i) = false := decide_eq_false (by omega)
    have hle : i + 1 ≤ A.size := by omega
    have hSm : S.size ≤ 1000000 := by omega
    have hb0r := Nat.lt_of_lt_of_le hb0 hbel.size
    clear hc0 hA hx hxb hAA hAl hAs hS hSs hC
    go_wp2_with fail
    go_quiet (fail)
    clear eC
    go_wp2_with fail
    refine (refFront1_any A i _ (by omega) hi).mono ?_
    rintro e w2 ⟨rfl, h2⟩
    rw [← e2.out]
    go_wp2_with fail
    have hg := HG.out
    go_roundg (l.length - (k + 1))
    case measure => omega
    case rel => exact ⟨k + 1, by omega, rfl, by go_num, rfl, by rw [e1.out], (bDrewN hbel _).trans (h2.mono hbel.size)⟩
  · have hke : k = l.length := by omega
    go_wp2_with fail
    go_ret2
    rw [List.take_of_length_le (by omega)]
    exact ⟨rfl, hbel⟩

end Go.Proofs.YthjmpiekjfnoiaaGreatDoor

/-
  The walks of the document's own answer for chapter 13.
-/
namespace Go.Proofs.YthjmpiekjfnoiaaGreatDoor
open Go.RowKit

set_option maxRecDepth 100000 in
theorem refTurnQ (s : ByteArray) (k : Nat) (w : World) (hn : s.size ≤ 1000000) (hk : k ≤ s.size) :
    Calls Tryz.prog 58 #[.string s, .int .i64 (k : Int)] w fun e w' => e = .returned (.string (mkS (rot s k))) ∧ ∃ m, w' = w.drewN m := by
  have e := rot_ext s k
  have HE := hid e
  clear e
  go_enter Tryz.func58, Tryz.ntmps58
  go_wp2
  go_quiet (fail)
  go_wp2
  go_ret
  exact ⟨ret_str HE.out, _, rfl⟩

set_option maxRecDepth 100000 in
set_option maxHeartbeats 1600000 in
theorem refForward_any (s : ByteArray) (w : World) (hn : s.size ≤ 1000000)
    (hord : ∀ w, Calls Tryz.prog 57 #[.string s] w fun e w' => ∃ v o, e = .returned v ∧ Ord (cycf s) s.size s.size o ∧ OwI w' w.heap.size v (outL s.size o) ∧ Below w.heap.size w w') :
    Calls Tryz.prog 29 #[.string s] w fun e w' =>
      ∃ o, Ord (cycf s) s.size s.size o ∧ e = .returned (.tuple #[.string (mkS (lastTo s o s.size)), .int .i64 ((origTo o s.size : Nat) : Int)]) ∧ Below w.heap.size w w' := by
  have HORD := hid hord
  clear hord
  go_enter Tryz.func29, Tryz.ntmps29
  go_wp2_with fail
  refine (HORD.out _).mono ?_
  rintro e w1 ⟨v, o, rfl, hO, hown, hbel⟩
  obtain ⟨a, cap, rfl, hca, hma, hA⟩ := hown.rd.open
  rw [outL_length] at hca hA ⊢
  unfold maxLen at hma
  have HO := hid hO
  have HA := hid hA
  clear hO hA hown
  go_wp2_with fail
  go_loopg [5, 6, 7, 8] s.size (fun gh s5 s6 s7 _s8 wr => ∃ k : Nat, k ≤ s.size ∧ gh = s.size - k ∧ s7 = .int .i64 k ∧ s6 = .int .i64 ((origTo o k : Nat) : Int) ∧ s5 = .string (mkS (lastTo s o k)) ∧ Below w1.heap.size w1 wr)
  case atStart => exact ⟨0, Nat.zero_le _, rfl, rfl, rfl, rfl, Below.refl _ _⟩
  case round =>
    obtain ⟨k, hk, hg, rfl, rfl, rfl, hbel1⟩ := hrel
    have HG := hid hg
    clear hg
    by_cases hlt : k < s.size
    · obtain ⟨b, off, rfl, hbl, hc⟩ := HA.out (by omega)
      have hok := HO.out.rng k hlt
      obtain ⟨kk, hkk⟩ : ∃ kk, kk = (o k).toNat := ⟨_, rfl⟩
      have ek : o k = (kk : Int) := by omega
      have hkn : kk < s.size := by omega
      have c1 := (hbel1.cell (p := ⟨b, off + k, none⟩) hbl).trans (hc k _ (outL_get _ _ _ hlt))
      rw [ek] at c1
      have EK := hid ek
      have HKK := hid hkk
      clear ek hkk hok hc
      go_wp2_with fail
      refine (refTurn_any s kk _ hn (by omega)).mono ?_
      rintro e w2 ⟨rfl, hb2⟩
      obtain ⟨t, ht⟩ : ∃ t, t = mkS (rot s kk) := ⟨_, rfl⟩
      rw [← ht]
      have hts : t.size = s.size := by rw [ht, mkS_size, rot_length _ _ (by omega)]
      obtain ⟨d, hd⟩ : ∃ d, d = s.size - 1 := ⟨_, rfl⟩
      have hdn : d < s.size := by omega
      have hdt : d < t.size := by omega
      have ed : (s.size : Int) - 1 = (d : Int) := by omega
      obtain ⟨C, hC⟩ : ∃ C, C = mkS [s.data.toList.getD ((kk + d) % s.size) 0] := ⟨_, rfl⟩
      have hbyte : t.extract d s.size = C := by
        have h1 := rot_get s kk d hkn hdn
        have h2 := ext_one t d hdt
        rw [show d + 1 = s.size by omega] at h2
        rw [h2, hC, show t.data.toList = rot s kk by rw [ht]; rfl, List.getD, h1]; rfl
      have hCs : C.size = 1 := by rw [hC]; rfl
      obtain ⟨S, hS⟩ : ∃ S, S = mkS (lastTo s o k) := ⟨_, rfl⟩
      rw [← hS]
      have hSs : S.size ≤ 1000000 := by rw [hS, mkS_size, lastTo_length]; omega
      have hnext : mkS (lastTo s o (k + 1)) = S ++ C := by
        rw [hS, hC, mkS_append, lastTo_succ, ← HKK.out, ← hd]
      have HN := hid hnext
      have HD := hid hd
      have hbel2 := hbel1.trans (hb2.mono hbel1.size)
      have c1' := (hb2.cell (p := ⟨b, off + k, none⟩) (World.block_lt_of_cell? wr _ c1)).trans c1
      have hle : d ≤ s.size := by omega
      clear hbel1 ht hd hC hS hnext c1
      by_cases h0 : kk = 0
      · have t1 : ((kk : Int) == 0) = true := by rw [beq_iff_eq]; omega
        go_wp2_with fail
        have hg := HG.out
        go_roundg (s.size - (k + 1))
        case measure => omega
        case rel =>
          refine ⟨k + 1, by omega, rfl, by go_num, ?_, by rw [HN.out], hbel2⟩
          unfold origTo; rw [if_pos (by rw [EK.out]; omega)]
      · have t1 : ((kk : Int) == 0) = false := by rw [beq_eq_false_iff_ne]; omega
        go_wp2_with fail
        have hg := HG.out
        go_roundg (s.size - (k + 1))
        case measure => omega
        case rel =>
          refine ⟨k + 1, by omega, rfl, by go_num, ?_, by rw [HN.out], hbel2⟩
          show _ = Value.int .i64 (((if o k = 0 then k else origTo o k : Nat)) : Int)
          rw [if_neg (by rw [EK.out]; omega)]
    · have hke : k = s.size := by omega
      subst hke
      go_wp2_with fail
      go_ret2
      exact ⟨o, HO.out, rfl, hbel.trans (hbel1.mono hbel.size)⟩

end Go.Proofs.YthjmpiekjfnoiaaGreatDoor

/-
  Plain mathematics of turned texts as lists of bytes; an order checked by reckoning.
-/
namespace Go.Proofs.YthjmpiekjfnoiaaGreatDoor
open Go.RowKit

theorem less_at : ∀ (t : Nat) (x y : List UInt8) (p q : UInt8), (∀ u, u < t → x[u]? = y[u]?) → x[t]? = some p → y[t]? = some q → p.toNat < q.toNat → Op.bytesLess x y = true := by
  intro t
  induction t with
  | zero =>
    intro x y p q _ hx hy hpq
    cases x with
    | nil => simp at hx
    | cons a x =>
      cases y with
      | nil => simp at hy
      | cons b y =>
        simp at hx hy
        subst hx; subst hy
        simp [Op.bytesLess, UInt8.lt_iff_toNat_lt, hpq]
  | succ t ih =>
    intro x y p q h hx hy hpq
    cases x with
    | nil => simp at hx
    | cons a x =>
      cases y with
      | nil => simp at hy
      | cons b y =>
        have h0 := h 0 (by omega)
        simp at h0 hx hy
        subst h0
        have := ih x y p q (fun u hu => by have := h (u + 1) (by omega); simpa using this) hx hy hpq
        simp [Op.bytesLess, this]
theorem less_irrefl (x : List UInt8) : Op.bytesLess x x = false := by
  induction x with
  | nil => rfl
  | cons a x ih => simp [Op.bytesLess, ih]

theorem rot_byte (s : ByteArray) {k i : Nat} (hk : k < s.size) (hi : i < s.size) : ∃ b, (rot s k)[i]? = some b ∧ b.toNat = cycf s (k + i) := ⟨_, rot_get s k i hk hi, rfl⟩
theorem rot_same (s : ByteArray) {a b i : Nat} (ha : a < s.size) (hb : b < s.size) (hi : i < s.size) (h : cycf s (a + i) = cycf s (b + i)) : (rot s a)[i]? = (rot s b)[i]? := by
  obtain ⟨x, hx, ex⟩ := rot_byte s ha hi
  obtain ⟨y, hy, ey⟩ := rot_byte s hb hi
  rw [hx, hy]
  have : x = y := UInt8.toNat_inj.1 (by omega)
  rw [this]
theorem rot_eqm (s : ByteArray) {a b : Nat} (ha : a < s.size) (hb : b < s.size) (h : eqm (cycf s) s.size a b) : rot s a = rot s b := by
  apply List.ext_getElem?
  intro i
  by_cases hi : i < s.size
  · exact rot_same s ha hb hi (h i hi)
  · rw [List.getElem?_eq_none (by rw [rot_length _ _ (by omega)]; omega), List.getElem?_eq_none (by rw [rot_length _ _ (by omega)]; omega)]
theorem rot_ltm (s : ByteArray) {a b : Nat} (ha : a < s.size) (hb : b < s.size) (h : ltm (cycf s) s.size a b) : Op.bytesLess (rot s a) (rot s b) = true := by
  obtain ⟨t, t1, t2, t3⟩ := h
  obtain ⟨x, hx, ex⟩ := rot_byte s ha t1
  obtain ⟨y, hy, ey⟩ := rot_byte s hb t1
  exact less_at t _ _ x y (fun u hu => rot_same s ha hb (by omega) (t2 u hu)) hx hy (by omega)
theorem rot_ltm_ne (s : ByteArray) {a b : Nat} (ha : a < s.size) (hb : b < s.size) (h : ltm (cycf s) s.size a b) : rot s a ≠ rot s b := by
  intro e
  have := rot_ltm s ha hb h
  rw [e, less_irrefl] at this
  exact Bool.noConfusion this

/-! ### An order, checked by reckoning. -/
def eqmB (c : Nat → Nat) (m a b : Nat) : Bool := (List.range m).all (fun t => c (a + t) == c (b + t))
def ltmB (c : Nat → Nat) (m a b : Nat) : Bool := (List.range m).any (fun t => eqmB c t a b && decide (c (a + t) < c (b + t)))
def befB (c : Nat → Nat) (m : Nat) (x y : Int) : Bool := ltmB c m x.toNat y.toNat || (eqmB c m x.toNat y.toNat && decide (x < y))
def ordB (c : Nat → Nat) (l : List Int) : Bool := l.all (fun x => decide (0 ≤ x) && decide (x < (l.length : Int))) && (List.range l.length).all (fun j => (List.range j).all (fun i => befB c l.length (l.getD i 0) (l.getD j 0)))
theorem eqmB_iff (c : Nat → Nat) (m a b : Nat) : eqmB c m a b = true ↔ eqm c m a b := by
  simp [eqmB, eqm]
theorem ltmB_iff (c : Nat → Nat) (m a b : Nat) : ltmB c m a b = true ↔ ltm c m a b := by
  simp only [ltmB, ltm, List.any_eq_true, List.mem_range, Bool.and_eq_true, eqmB_iff, decide_eq_true_eq]
  rfl
theorem befB_iff (c : Nat → Nat) (m : Nat) (x y : Int) : befB c m x y = true ↔ bef c m x y := by
  simp only [befB, bef, Bool.or_eq_true, Bool.and_eq_true, eqmB_iff, ltmB_iff, decide_eq_true_eq]
theorem ordB_ord {c : Nat → Nat} {l : List Int} (h : ordB c l = true) : Ord c l.length l.length (fun k => l.getD k 0) := by
  simp only [ordB, Bool.and_eq_true, List.all_eq_true, List.mem_range, decide_eq_true_eq, befB_iff] at h
  refine ⟨fun k hk => h.1 _ ?_, fun i j _ h2 h3 => h.2 j h3 i h2⟩
  simp [List.getD, List.getElem?_eq_getElem hk]

theorem lastTo_congr {s : ByteArray} {o o' : Nat → Int} {n : Nat} (h : ∀ k, k < n → o k = o' k) : lastTo s o n = lastTo s o' n := by
  unfold lastTo
  exact List.map_congr_left (fun k hk => by rw [h k (by simpa using hk)])
theorem origTo_congr {o o' : Nat → Int} : ∀ {n : Nat}, (∀ k, k < n → o k = o' k) → origTo o n = origTo o' n := by
  intro n
  induction n with
  | zero => intro _; rfl
  | succ n ih => intro h; unfold origTo; rw [h n (by omega), ih (fun k hk => h k (by omega))]

theorem fwd_of (d : Array UInt8) (l : List Int) (r : Array UInt8) (q : Int) (w : World) (hl : (ByteArray.mk d).size = l.length) (hs : l.length ≤ 1000000) (ho : ordB (cycf (ByteArray.mk d)) l = true)
    (hr : mkS (lastTo (ByteArray.mk d) (fun k => l.getD k 0) l.length) = ByteArray.mk r) (hq : ((origTo (fun k => l.getD k 0) l.length : Nat) : Int) = q) :
    Calls Tryz.prog 24 #[.string { data := d }] w fun e w' => e = .returned (.tuple #[.string { data := r }, .int .i64 q]) ∧ Below w.heap.size w w' := by
  refine (forward_any _ w (by rw [hl]; exact hs)).mono ?_
  rintro e w' ⟨o, hO, rfl, hb⟩
  rw [hl] at hO ⊢
  have hu := hO.uniq (ordB_ord ho)
  rw [lastTo_congr hu, origTo_congr hu, hr, hq]
  exact ⟨rfl, hb⟩
theorem ord_of (d : Array UInt8) (l : List Int) (w : World) (hl : (ByteArray.mk d).size = l.length) (hs : l.length ≤ 1000000) (ho : ordB (cycf (ByteArray.mk d)) l = true) :
    Calls Tryz.prog 51 #[.string { data := d }] w fun e w' => ∃ v, e = .returned v ∧ OwI w' w.heap.size v l ∧ Below w.heap.size w w' := by
  refine (order_any _ w (by rw [hl]; exact hs)).mono ?_
  rintro e w' ⟨v, o, rfl, hO, hown, hb⟩
  rw [hl] at hO hown
  have hu := hO.uniq (ordB_ord ho)
  rw [outL_congr hu, outL_of] at hown
  exact ⟨v, rfl, hown, hb⟩

end Go.Proofs.YthjmpiekjfnoiaaGreatDoor

/-
  Plain mathematics of an order by insertion.
-/
namespace Go.Proofs.YthjmpiekjfnoiaaGreatDoor

theorem less_asymm : ∀ (x y : List UInt8), Op.bytesLess x y = true → Op.bytesLess y x = false := by
  intro x
  induction x with
  | nil =>
    intro y h
    cases y with
    | nil => rfl
    | cons b y => rfl
  | cons a x ih =>
    intro y h
    cases y with
    | nil => simp [Op.bytesLess] at h
    | cons b y =>
      simp only [Op.bytesLess, Bool.or_eq_true, Bool.and_eq_true, decide_eq_true_eq, beq_iff_eq, Bool.or_eq_false_iff, Bool.and_eq_false_iff, decide_eq_false_iff_not] at h ⊢
      rcases h with h | ⟨h1, h2⟩
      · exact ⟨fun h' => by rw [UInt8.lt_iff_toNat_lt] at h h'; omega, .inl (by rw [beq_eq_false_iff_ne]; intro e; rw [e, UInt8.lt_iff_toNat_lt] at h; omega)⟩
      · exact ⟨fun h' => by rw [h1, UInt8.lt_iff_toNat_lt] at h'; omega, .inr (ih y h2)⟩

theorem rot_less (s : ByteArray) {a b : Nat} (ha : a < s.size) (hb : b < s.size) : Op.bytesLess (rot s a) (rot s b) = true ↔ ltm (cycf s) s.size a b := by
  constructor
  · intro h
    rcases ltm_or (cycf s) a b s.size with p | p | p
    · exact p
    · rw [rot_eqm s ha hb p, less_irrefl] at h; exact Bool.noConfusion h
    · have := less_asymm _ _ (rot_ltm s hb ha p); rw [this] at h; exact Bool.noConfusion h
  · exact rot_ltm s ha hb

def insL (L : List Int) (j : Nat) (k : Int) : List Int := L.take j ++ k :: L.drop j
theorem insL_length (L : List Int) (j : Nat) (k : Int) : (insL L j k).length = L.length + 1 := by
  unfold insL
  rw [List.length_append, List.length_cons, List.length_take, List.length_drop]; omega

theorem insL_sorted {R : Int → Int → Prop} {L : List Int} {j : Nat} {k : Int} (h : L.Pairwise R) (h1 : ∀ x ∈ L.take j, R x k) (h2 : ∀ x ∈ L.drop j, R k x) : (insL L j k).Pairwise R := by
  unfold insL
  rw [List.pairwise_append]
  refine ⟨h.sublist (List.take_sublist _ _), ?_, ?_⟩
  · rw [List.pairwise_cons]; exact ⟨h2, h.sublist (List.drop_sublist _ _)⟩
  · intro a ha b hb
    rcases List.mem_cons.1 hb with rfl | hb
    · exact h1 a ha
    · rw [← List.take_append_drop j L, List.pairwise_append] at h
      exact h.2.2 a ha b hb

theorem insL_rng {L : List Int} {j : Nat} {k : Nat} (h : ∀ x ∈ L, 0 ≤ x ∧ x < (k : Int)) : ∀ x ∈ insL L j k, 0 ≤ x ∧ x < ((k + 1 : Nat) : Int) := by
  intro x hx
  unfold insL at hx
  rcases List.mem_append.1 hx with hx | hx
  · have := h x (List.mem_of_mem_take hx); omega
  · rcases List.mem_cons.1 hx with rfl | hx
    · omega
    · have := h x (List.mem_of_mem_drop hx); omega

theorem take_before {c : Nat → Nat} {n : Nat} {L : List Int} (h : L.Pairwise (bef c n)) {j : Nat} {y k : Int} (hj : 0 < j) (hy : L[j - 1]? = some y) (hk : bef c n y k) : ∀ x ∈ L.take j, bef c n x k := by
  intro x hx
  obtain ⟨i, hi, rfl⟩ := List.mem_iff_getElem.1 hx
  rw [List.length_take] at hi
  rw [List.getElem_take]
  obtain ⟨hl, hy'⟩ := List.getElem?_eq_some_iff.1 hy
  rcases Nat.lt_or_ge i (j - 1) with p | p
  · have := List.pairwise_iff_getElem.1 h i (j - 1) (by omega) hl p
    rw [hy'] at this
    exact (bef_strict c n).tr _ _ _ this hk
  · have : i = j - 1 := by omega
    subst this; rw [hy']; exact hk

theorem ord_of_list {c : Nat → Nat} {n : Nat} {L : List Int} (hl : L.length = n) (hr : ∀ x ∈ L, 0 ≤ x ∧ x < (n : Int)) (hs : L.Pairwise (bef c n)) : Ord c n n (fun k => L.getD k 0) := by
  subst hl
  refine ⟨fun k hk => hr _ (by simp [List.getD, List.getElem?_eq_getElem hk]), fun i j _ h2 h3 => ?_⟩
  have := List.pairwise_iff_getElem.1 hs i j (by omega) h3 h2
  simpa [List.getD, List.getElem?_eq_getElem h3, List.getElem?_eq_getElem (show i < L.length by omega)] using this

end Go.Proofs.YthjmpiekjfnoiaaGreatDoor

/-
  The walk of the document's own Order, by insertion.
-/
namespace Go.Proofs.YthjmpiekjfnoiaaGreatDoor
open Go.RowKit

theorem stepAppI {ops : Array Oper} {o : Oper} {a : Act} {K : Act → World → Prop} {Q : Exit → Act → World → Prop} {E : Prop} {w : World} (hgd : o.guard = none) (s x : Operand)
    (ho : o.op = .call { callee := .builtin .append, args := #[s, x], argTypes := #[23, 23] }) (base : Nat) (v : Value) (l : List Int) (hs : a.eval s = v) (hown : OwI w base v l)
    (ad : Addr) (m c : Nat) (new : List Int) (hx : a.eval x = .slice (some ad) m c) (hl : new.length = m) (hnews : ∀ j y, new[j]? = some y → w.cell? (ad.add j) = some (.int .i64 y)) (hroom : (l.length + m) * 8 ≤ 140737488355328) (hbase : base ≤ w.heap.size)
    (h : ∀ v' w', OwI w' base v' (l ++ new) → Below base w w' → w.grownBy w' v.ownBlock → K (a.put o.dst v') w') : if Region.wanted o (yielded ops a.tmps) = true then Oper.wp Tryz.prog o a w K Q else E := by
  have hw : Region.wanted o (yielded ops a.tmps) = true := by simp [Region.wanted, hgd]
  rw [if_pos hw]
  obtain ⟨i, hi, hz, h2, h3⟩ := elInt.info
  have h4 : (Value.int .i64 0).cells.size = 1 := by rw [elInt.cells]; rfl
  have hown' : w.ownsRow base 3 1 v l.length (l.map (Value.int .i64)) := by have := hown; unfold OwI Ow at this; rwa [List.length_map] at this
  refine wp_append_own w s x _ ho base 3 i _ 1 8 elInt.under hi hz h2 h3 h4 (by decide) v l.length _ hs hown' ad m c (new.map (Value.int .i64)) hx (by simp [hl]) ?_ ?_ (by simp only [maxLen]; omega) hroom hbase (fun v' w' q1 q2 _ => h v' w' ?_ (own_grown hown' q2 hbase) q2)
  · intro j u hu
    rw [List.getElem?_map] at hu
    cases hn : new[j]? with
    | none => rw [hn] at hu; simp at hu
    | some y => rw [hn] at hu; simp at hu; subst hu; exact hnews j y hn
  · intro u hu
    obtain ⟨y, _, rfl⟩ := List.mem_map.1 hu
    rfl
  · unfold OwI Ow
    rw [List.map_append]
    rw [List.length_append, List.length_map, List.length_map, hl]
    exact q1

theorem stepAppN {ops : Array Oper} {o : Oper} {a : Act} {K : Act → World → Prop} {Q : Exit → Act → World → Prop} {E : Prop} {w : World} (hgd : o.guard = none) (s x : Operand)
    (ho : o.op = .call { callee := .builtin .append, args := #[s, x], argTypes := #[23, 23] }) (base : Nat) (v : Value) (l : List Int) (hs : a.eval s = v) (hown : OwI w base v l)
    (hx : a.eval x = .slice none 0 0)
    (h : K (a.put o.dst v) w) : if Region.wanted o (yielded ops a.tmps) = true then Oper.wp Tryz.prog o a w K Q else E := by
  have hw : Region.wanted o (yielded ops a.tmps) = true := by simp [Region.wanted, hgd]
  rw [if_pos hw]
  obtain ⟨i, hi, _, _, _⟩ := elInt.info
  have hown' : w.ownsRow base 3 1 v l.length (l.map (Value.int .i64)) := by have := hown; unfold OwI Ow at this; rwa [List.length_map] at this
  have hrun := run_append_owned_none (P := Tryz.prog) (w := w) base _ o.type 3 i 1 elInt.under hi v l.length _ hown'
  unfold Oper.wp
  simp [execOp, ho, resolve, invoke, builtin, hs, hx, hrun, Result.andThen]
  exact h

theorem addr_add (b off j : Nat) : (⟨b, off, none⟩ : Addr).add j = ⟨b, off + j, none⟩ := by unfold Addr.add; split <;> simp_all

theorem newsAt {wr w : World} {b off : Nat} {L : List Int} (hb : b < wr.heap.size) (hc : ∀ j x, L[j]? = some x → wr.cell? ⟨b, off + j, none⟩ = some (.int .i64 x)) (h : Below wr.heap.size wr w ∧ wr.heap.size ≤ w.heap.size) (n : Nat) :
    (∀ j y, (L.take n)[j]? = some y → w.cell? ((⟨b, off, none⟩ : Addr).add j) = some (.int .i64 y)) ∧ (∀ j y, (L.drop n)[j]? = some y → w.cell? ((⟨b, off + n, none⟩ : Addr).add j) = some (.int .i64 y)) := by
  refine ⟨fun j y hy => ?_, fun j y hy => ?_⟩
  · rw [addr_add, h.1.cell (p := ⟨b, off + j, none⟩) hb]
    by_cases hj : j < n
    · rw [List.getElem?_take_of_lt hj] at hy; exact hc j y hy
    · rw [List.getElem?_take_eq_none (by omega)] at hy; simp at hy
  · rw [addr_add, h.1.cell (p := ⟨b, off + n + j, none⟩) hb]
    rw [List.getElem?_drop] at hy
    rw [Nat.add_assoc]; exact hc _ y hy
theorem keepT {B : Nat} {w0 w1 w2 : World} (h : Below B w0 w1 ∧ B ≤ w1.heap.size) (hb : Below B w1 w2) : Below B w0 w2 ∧ B ≤ w2.heap.size := ⟨h.1.trans hb, Nat.le_trans h.2 hb.size⟩
theorem keepTA {B : Nat} {w0 w1 : World} (h : Below B w0 w1 ∧ B ≤ w1.heap.size) (o : Obj) : Below B w0 (w1.alloc o) ∧ B ≤ (w1.alloc o).heap.size := ⟨h.1.alloc h.2 o, Nat.le_trans h.2 (by simp)⟩
theorem startS {B : Nat} {w0 w1 : World} (h : Below B w0 w1) (hB : B ≤ w1.heap.size) (n : Nat) : Below B w0 (w1.drewN n).drew ∧ B ≤ (w1.drewN n).drew.heap.size := ⟨(bDrewN h n).drew, hB⟩
theorem startSA {B : Nat} {w0 w1 : World} (h : Below B w0 w1) (hB : B ≤ w1.heap.size) (n : Nat) (o : Obj) : Below B w0 ((w1.drewN n).alloc o) ∧ B ≤ ((w1.drewN n).alloc o).heap.size := keepTA ⟨bDrewN h n, hB⟩ o
theorem cellKept {W w' : World} {p : Addr} {v : Value} (hg : W.grownBy w' none) (hc : W.cell? p = some v) : w'.cell? p = some v := by
  rw [← hc]; exact World.cell?_of_block (w := W) (hg.block p.block (World.block_lt_of_cell? W p hc) (by simp))
theorem one_new {w : World} {g : Nat} {x : Int} (h : w.cell? ⟨g, 0, none⟩ = some (.int .i64 x)) : ∀ j y, [x][j]? = some y → w.cell? ((⟨g, 0, none⟩ : Addr).add j) = some (.int .i64 y) := by
  intro j y hy
  cases j with
  | zero => simp at hy; subst hy; simpa [Addr.add] using h
  | succ j => simp at hy

set_option maxRecDepth 100000 in
set_option maxHeartbeats 1600000 in
theorem refOrder_any (s : ByteArray) (w : World) (hn : s.size ≤ 1000000) :
    Calls Tryz.prog 57 #[.string s] w fun e w' => ∃ v o, e = .returned v ∧ Ord (cycf s) s.size s.size o ∧ OwI w' w.heap.size v (outL s.size o) ∧ Below w.heap.size w w' := by
  go_enter Tryz.func57, Tryz.ntmps57
  go_wp2_with fail
  go_loopg [3, 4, 5] s.size (fun gh s3 s4 _s5 wr => ∃ (k : Nat) (L : List Int), k ≤ s.size ∧ gh = s.size - k ∧ s4 = .int .i64 k ∧ OwI wr w.heap.size s3 L ∧ Hid (L.length = k ∧ (∀ x ∈ L, 0 ≤ x ∧ x < (k : Int)) ∧ L.Pairwise (bef (cycf s) s.size)) ∧ (k = 0 → s3 = .slice none 0 0) ∧ Below w.heap.size w wr)
  case atStart => exact ⟨0, [], Nat.zero_le _, rfl, rfl, OwI.nil _ _, hid ⟨rfl, fun x hx => by simp at hx, List.Pairwise.nil⟩, fun _ => rfl, Below.refl _ _⟩
  case round =>
    obtain ⟨k, L, hk, hg, rfl, hown, HL, hnil, hbel⟩ := hrel
    have HG := hid hg
    have HNIL := hid hnil
    clear hg hnil
    by_cases hlt : k < s.size
    · obtain ⟨va, cap, rfl, hca, hma, hA⟩ := hown.rd.open
      rw [HL.out.1] at hca hA ⊢
      unfold maxLen at hma
      have HA := hid hA
      have HOWN := hid hown
      clear hA hown
      obtain ⟨wo, rfl⟩ : ∃ wo : World, wo = wr := ⟨_, rfl⟩
      go_wp2_with fail
      go_loopg [5] k (fun gh s5 wr => ∃ j : Nat, j ≤ k ∧ gh = j ∧ s5 = .int .i64 j ∧ Hid (∀ x ∈ L.drop j, bef (cycf s) s.size (k : Int) x) ∧ Below wo.heap.size wo wr)
      case atStart => exact ⟨k, Nat.le_refl _, rfl, rfl, hid (fun x hx => by rw [List.drop_of_length_le (by rw [HL.out.1]; exact Nat.le_refl _)] at hx; simp at hx), Below.refl _ _⟩
      case round =>
        obtain ⟨j, hj, hg, rfl, HD, hbel1⟩ := hrel
        have HG2 := hid hg
        clear hg
        rcases Nat.eq_zero_or_pos j with h0 | h0
        · have t1 : decide (0 < j) = false := decide_eq_false (by omega)
          have HT := hid (show ∀ x ∈ L.take j, bef (cycf s) s.size x (k : Int) from fun x hx => by rw [h0] at hx; simp at hx)
          have HJ0 := hid h0
          clear h0
          go_wp2_with fail
          go_quiet (fail)
          go_wp2_with fail
          rcases Nat.eq_zero_or_pos k with hk0 | hk0
          · have hsl := HNIL.out hk0
            rw [Value.slice.injEq] at hsl
            obtain ⟨rfl, _, rfl⟩ := hsl
            have hL0 : L = [] := List.eq_nil_of_length_eq_zero (by rw [HL.out.1]; exact hk0)
            subst hk0
            have hj0 : j = 0 := HJ0.out
            subst hj0
            go_region_held3 (fun w' => Below wo.heap.size wo w' ∧ wo.heap.size ≤ w'.heap.size)
              (first
                | with_reducible assumption
                | with_reducible exact keepTA (by assumption) _
                | with_reducible exact keepT (by assumption) (by assumption)
                | with_reducible exact startS hbel1 hbel1.size _
                | with_reducible exact startSA hbel1 hbel1.size _ _)
              (first
                | (refine stepAppN rfl _ _ rfl wo.heap.size (.slice none 0 0) [] rfl (OwI.nil _ _) rfl ?_)
                | (refine stepAppI rfl _ _ rfl wo.heap.size _ [] rfl (OwI.nil _ _) ⟨_, 0, none⟩ 1 1 [((0 : Nat) : Int)] rfl rfl ?_ ?_ ?_ ?_; (first | exact one_new (newc _ _ _) | exact one_new (cellKept (by assumption) (by exact newc _ _ _))); (simp only [List.length_nil]; omega); (exact (show Below wo.heap.size wo _ ∧ wo.heap.size ≤ _ by assumption).2); intro v2 w2 hown2 hB2 hg2)
                | (refine stepAppN rfl _ _ rfl wo.heap.size _ ([] ++ [((0 : Nat) : Int)]) rfl (by assumption) rfl ?_))
            all_goals go_wp2_with fail
            all_goals
              have hg := HG.out
              go_roundg (s.size - (0 + 1))
              case measure => omega
              case rel =>
                have hS : Below wo.heap.size wo _ ∧ wo.heap.size ≤ _ := (show Below wo.heap.size wo w2 ∧ wo.heap.size ≤ w2.heap.size by assumption)
                refine ⟨0 + 1, [((0 : Nat) : Int)], by omega, rfl, by go_num, ?_, hid ⟨rfl, fun x hx => by simp at hx; omega, List.pairwise_singleton _ _⟩, fun e => by omega, hbel.trans (hS.1.mono hbel.size)⟩
                exact Ow.base hown2 hbel.size
          · obtain ⟨b, off, rfl, hbl, hc⟩ := HA.out hk0
            have HC := hid hc
            have HLL := hid HL.out.1
            clear hc
            have hjk1 : (j : Int) ≤ (k : Int) := by omega
            have hjc : j ≤ cap := by omega
            have hcj : ¬ cap = j := by have := HJ0.out; omega
            go_region_held3 (fun w' => Below wo.heap.size wo w' ∧ wo.heap.size ≤ w'.heap.size)
              (first
                | with_reducible assumption
                | with_reducible exact keepTA (by assumption) _
                | with_reducible exact keepT (by assumption) (by assumption)
                | with_reducible exact startS hbel1 hbel1.size _
                | with_reducible exact startSA hbel1 hbel1.size _ _)
              (first
                | (refine stepAppI rfl _ _ rfl wo.heap.size (.slice none 0 0) [] rfl (OwI.nil _ _) ⟨b, off, none⟩ j cap (L.take j) rfl ?_ ?_ ?_ ?_ ?_; (rw [List.length_take, HLL.out]; omega); (exact (newsAt hbl HC.out (by assumption) j).1); (simp only [List.length_nil]; omega); (exact (show Below wo.heap.size wo _ ∧ wo.heap.size ≤ _ by assumption).2); intro v1 w1 hown1 hB1 hg1)
                | (refine stepAppI rfl _ _ rfl wo.heap.size _ ([] ++ L.take j) rfl (by first | assumption | exact OwI.alloc (by assumption) _) ⟨_, 0, none⟩ 1 1 [(k : Int)] rfl rfl ?_ ?_ ?_ ?_; (first | exact one_new (newc _ _ _) | exact one_new (cellKept (by assumption) (by exact newc _ _ _))); (simp only [List.length_append, List.length_nil, List.length_take]; omega); (exact (show Below wo.heap.size wo _ ∧ wo.heap.size ≤ _ by assumption).2); intro v2 w2 hown2 hB2 hg2)
                | (refine stepAppI rfl _ _ rfl wo.heap.size _ (([] ++ L.take j) ++ [(k : Int)]) rfl (by assumption) ⟨b, off + j, none⟩ (k - j) (cap - j) (L.drop j) rfl ?_ ?_ ?_ ?_ ?_; (rw [List.length_drop, HLL.out]); (exact (newsAt hbl HC.out (by assumption) j).2); (simp only [List.length_append, List.length_nil, List.length_take, List.length_cons]; omega); (exact (show Below wo.heap.size wo _ ∧ wo.heap.size ≤ _ by assumption).2); intro v3 w3 hown3 hB3 hg3))
            all_goals go_wp2_with fail
            all_goals
              have hg := HG.out
              go_roundg (s.size - (k + 1))
              case measure => omega
              case rel =>
                obtain ⟨q1, q2, q3⟩ := HL.out
                have hS : Below wo.heap.size wo _ ∧ wo.heap.size ≤ _ := (show Below wo.heap.size wo w3 ∧ wo.heap.size ≤ w3.heap.size by assumption)
                refine ⟨k + 1, insL L j k, by omega, rfl, by go_num, ?_, hid ⟨by rw [insL_length, q1], insL_rng q2, insL_sorted q3 HT.out HD.out⟩, fun e => by omega, hbel.trans (hS.1.mono hbel.size)⟩
                have e : ([] ++ L.take j ++ [(k : Int)]) ++ L.drop j = insL L j k := by simp [insL]
                rw [← e]
                exact Ow.base hown3 hbel.size
        · have t1 : decide (0 < j) = true := decide_eq_true h0
          obtain ⟨b, off, rfl, hbl, hc⟩ := HA.out (by omega)
          obtain ⟨h1, h2, h3⟩ := HL.out
          have hjl : j - 1 < L.length := by omega
          have hget : L[j - 1]? = some (L.getD (j - 1) 0) := by simp [List.getD, List.getElem?_eq_getElem hjl]
          have hrg := h2 _ (List.mem_of_getElem? hget)
          obtain ⟨y, hy⟩ : ∃ y : Nat, L.getD (j - 1) 0 = (y : Int) := ⟨(L.getD (j - 1) 0).toNat, by omega⟩
          have hyk : y < k := by omega
          have c1 := (hbel1.cell (p := ⟨b, off + (j - 1), none⟩) hbl).trans (hc (j - 1) _ hget)
          rw [hy] at c1
          have HY := hid hy
          have s1 : IntKind.i64.wrap ((j : Int) - 1) = (j : Int) - 1 := IntWalk.i64_in _ (by omega)
          have s2 : ((j : Int) - 1).toNat = j - 1 := by omega
          have s3 : (0 : Int) ≤ (j : Int) - 1 := by omega
          have s4 : (j : Int) - 1 < (k : Int) := by omega
          have s6 : (1 : Int) ≤ (j : Int) := by omega
          have s9 : (j : Int) ≤ (k : Int) := by omega
          obtain ⟨A, hA⟩ : ∃ A, A = mkS (rot s k) := ⟨_, rfl⟩
          obtain ⟨B, hB⟩ : ∃ B, B = mkS (rot s y) := ⟨_, rfl⟩
          have qa : ∀ W, Calls Tryz.prog 58 #[.string s, .int .i64 (k : Int)] W fun e w' => e = .returned (.string A) ∧ ∃ m, w' = W.drewN m := fun W => by rw [hA]; exact refTurnQ s k W hn (by omega)
          have qb : ∀ W, Calls Tryz.prog 58 #[.string s, .int .i64 (y : Int)] W fun e w' => e = .returned (.string B) ∧ ∃ m, w' = W.drewN m := fun W => by rw [hB]; exact refTurnQ s y W hn (by omega)
          have QA := hid qa
          have QB := hid qb
          have hAl : A.toList = rot s k := by rw [ByteArray.toList_eq, hA]; rfl
          have hBl : B.toList = rot s y := by rw [ByteArray.toList_eq, hB]; rfl
          have hiff : Op.bytesLess A.toList B.toList = true ↔ ltm (cycf s) s.size k y := by rw [hAl, hBl]; exact rot_less s hlt (by omega)
          have HIFF := hid hiff
          have HC := hid hc
          clear qa qb hAl hBl hiff hA hB hy hrg hget h1 h2 h3 hc
          by_cases hlm : Op.bytesLess A.toList B.toList = true
          · go_wp2_with fail
            go_quiet (first | (go_at_call_of 58 (Value.int .i64 (k : Int)); refine Calls.quiet_of (QA.out _)) | (go_at_call_of 58 (Value.int .i64 (y : Int)); refine Calls.quiet_of (QB.out _)))
            go_wp2_with fail
            have hg2 := HG2.out
            go_roundg (j - 1)
            case measure => omega
            case rel =>
              refine ⟨j - 1, by omega, rfl, congrArg _ (by omega), hid (fun x hx => ?_), bDrewN hbel1 _⟩
              rw [List.drop_eq_getElem_cons hjl, List.mem_cons] at hx
              rcases hx with rfl | hx
              · have e : L[j - 1] = (y : Int) := by rw [← HY.out]; simp [List.getD, List.getElem?_eq_getElem hjl]
                rw [e]
                exact .inl (by simpa using HIFF.out.1 hlm)
              · rw [show j - 1 + 1 = j by omega] at hx
                exact HD.out x hx
          · have hfl : Op.bytesLess A.toList B.toList = false := by simpa using hlm
            have HLL := hid HL.out.1
            have hjc : j ≤ cap := by omega
            have HT := hid (show ∀ x ∈ L.take j, bef (cycf s) s.size x (k : Int) from take_before (y := (y : Int)) HL.out.2.2 h0 (by simp [← HY.out, List.getD, List.getElem?_eq_getElem hjl]) (by
              rcases ltm_or (cycf s) y k s.size with p | p | p
              · exact .inl (by simpa using p)
              · exact .inr ⟨by simpa using p, by omega⟩
              · exact absurd (HIFF.out.2 p) hlm))
            go_wp2_with fail
            go_quiet (first | (go_at_call_of 58 (Value.int .i64 (k : Int)); refine Calls.quiet_of (QA.out _)) | (go_at_call_of 58 (Value.int .i64 (y : Int)); refine Calls.quiet_of (QB.out _)))
            clear hlm hfl c1 s1 s2 s3 s4 s6 hyk
            go_wp2_with fail
            obtain ⟨wq, hwq⟩ : ∃ wq : World, wq = wr := ⟨_, rfl⟩
            by_cases hcj : cap = j
            · obtain rfl : cap = j := hcj
              obtain rfl : k = cap := by omega
              go_region_held3 (fun w' => Below wo.heap.size wo w' ∧ wo.heap.size ≤ w'.heap.size)
                (first
                  | with_reducible assumption
                  | with_reducible exact keepTA (by assumption) _
                  | with_reducible exact keepT (by assumption) (by assumption)
                  | with_reducible exact startS hbel1 hbel1.size _
                  | with_reducible exact startSA hbel1 hbel1.size _ _)
                (first
                  | (refine stepAppI rfl _ _ rfl wo.heap.size (.slice none 0 0) [] rfl (OwI.nil _ _) ⟨b, off, none⟩ k k (L.take k) rfl ?_ ?_ ?_ ?_ ?_; (rw [List.length_take, HLL.out]; omega); (exact (newsAt hbl HC.out (by assumption) k).1); (simp only [List.length_nil]; omega); (exact (show Below wo.heap.size wo _ ∧ wo.heap.size ≤ _ by assumption).2); intro v1 w1 hown1 hB1 hg1)
                  | (refine stepAppI rfl _ _ rfl wo.heap.size _ ([] ++ L.take k) rfl (by first | assumption | exact OwI.alloc (by assumption) _) ⟨_, 0, none⟩ 1 1 [(k : Int)] rfl rfl ?_ ?_ ?_ ?_; (first | exact one_new (newc _ _ _) | exact one_new (cellKept (by assumption) (by exact newc _ _ _))); (simp only [List.length_append, List.length_nil, List.length_take]; omega); (exact (show Below wo.heap.size wo _ ∧ wo.heap.size ≤ _ by assumption).2); intro v2 w2 hown2 hB2 hg2)
                  | (refine stepAppI rfl _ _ rfl wo.heap.size _ (([] ++ L.take k) ++ [(k : Int)]) rfl (by assumption) ⟨b, off, none⟩ 0 0 (L.drop k) rfl ?_ ?_ ?_ ?_ ?_; (rw [List.length_drop, HLL.out]; omega); (intro j y hy; rw [List.drop_of_length_le (by rw [HLL.out]; exact Nat.le_refl _)] at hy; simp at hy); (simp only [List.length_append, List.length_nil, List.length_take, List.length_cons]; omega); (exact (show Below wo.heap.size wo _ ∧ wo.heap.size ≤ _ by assumption).2); intro v3 w3 hown3 hB3 hg3))
              all_goals go_wp2_with fail
              all_goals
                have hg := HG.out
                go_roundg (s.size - (k + 1))
                case measure => omega
                case rel =>
                  obtain ⟨q1, q2, q3⟩ := HL.out
                  have hS : Below wo.heap.size wo _ ∧ wo.heap.size ≤ _ := (show Below wo.heap.size wo w3 ∧ wo.heap.size ≤ w3.heap.size by assumption)
                  refine ⟨k + 1, insL L k k, by omega, rfl, by go_num, ?_, hid ⟨by rw [insL_length, q1], insL_rng q2, insL_sorted q3 HT.out HD.out⟩, fun e => by omega, hbel.trans (hS.1.mono hbel.size)⟩
                  have e : ([] ++ L.take k ++ [(k : Int)]) ++ L.drop k = insL L k k := by simp [insL]
                  rw [← e]
                  exact Ow.base hown3 hbel.size
            · go_region_held3 (fun w' => Below wo.heap.size wo w' ∧ wo.heap.size ≤ w'.heap.size)
                (first
                  | with_reducible assumption
                  | with_reducible exact keepTA (by assumption) _
                  | with_reducible exact keepT (by assumption) (by assumption)
                  | with_reducible exact startS hbel1 hbel1.size _
                  | with_reducible exact startSA hbel1 hbel1.size _ _)
                (first
                  | (refine stepAppI rfl _ _ rfl wo.heap.size (.slice none 0 0) [] rfl (OwI.nil _ _) ⟨b, off, none⟩ j cap (L.take j) rfl ?_ ?_ ?_ ?_ ?_; (rw [List.length_take, HLL.out]; omega); (exact (newsAt hbl HC.out (by assumption) j).1); (simp only [List.length_nil]; omega); (exact (show Below wo.heap.size wo _ ∧ wo.heap.size ≤ _ by assumption).2); intro v1 w1 hown1 hB1 hg1)
                  | (refine stepAppI rfl _ _ rfl wo.heap.size _ ([] ++ L.take j) rfl (by first | assumption | exact OwI.alloc (by assumption) _) ⟨_, 0, none⟩ 1 1 [(k : Int)] rfl rfl ?_ ?_ ?_ ?_; (first | exact one_new (newc _ _ _) | exact one_new (cellKept (by assumption) (by exact newc _ _ _))); (simp only [List.length_append, List.length_nil, List.length_take]; omega); (exact (show Below wo.heap.size wo _ ∧ wo.heap.size ≤ _ by assumption).2); intro v2 w2 hown2 hB2 hg2)
                  | (refine stepAppI rfl _ _ rfl wo.heap.size _ (([] ++ L.take j) ++ [(k : Int)]) rfl (by assumption) ⟨b, off + j, none⟩ (k - j) (cap - j) (L.drop j) rfl ?_ ?_ ?_ ?_ ?_; (rw [List.length_drop, HLL.out]); (exact (newsAt hbl HC.out (by assumption) j).2); (simp only [List.length_append, List.length_nil, List.length_take, List.length_cons]; omega); (exact (show Below wo.heap.size wo _ ∧ wo.heap.size ≤ _ by assumption).2); intro v3 w3 hown3 hB3 hg3))
              all_goals go_wp2_with fail
              all_goals
                have hg := HG.out
                go_roundg (s.size - (k + 1))
                case measure => omega
                case rel =>
                  obtain ⟨q1, q2, q3⟩ := HL.out
                  have hS : Below wo.heap.size wo _ ∧ wo.heap.size ≤ _ := (show Below wo.heap.size wo w3 ∧ wo.heap.size ≤ w3.heap.size by assumption)
                  refine ⟨k + 1, insL L j k, by omega, rfl, by go_num, ?_, hid ⟨by rw [insL_length, q1], insL_rng q2, insL_sorted q3 HT.out HD.out⟩, fun e => by omega, hbel.trans (hS.1.mono hbel.size)⟩
                  have e : ([] ++ L.take j ++ [(k : Int)]) ++ L.drop j = insL L j k := by simp [insL]
                  rw [← e]
                  exact Ow.base hown3 hbel.size
    · have hke : k = s.size := by omega
      subst hke
      go_wp2_with fail
      go_ret
      obtain ⟨h1, h2, h3⟩ := HL.out
      refine ⟨_, _, rfl, ord_of_list h1 h2 h3, ?_, hbel⟩
      have e := outL_of L
      rw [h1] at e
      rw [e]; exact hown

end Go.Proofs.YthjmpiekjfnoiaaGreatDoor

/-
  The walks of the document's chapter 15: Squeeze.
-/
namespace Go.Proofs.YthjmpiekjfnoiaaGreatDoor
open Go.RowKit

set_option maxRecDepth 100000 in
theorem refSqueeze_nil (w : World) :
    Calls Tryz.prog 12 #[.string emptyS] w fun e w' => e = .returned (.tuple #[.agg #[.string emptyS, .int .i64 0, .slice none 0 0], .int .i64 1]) ∧ Below w.heap.size w w' := by
  unfold emptyS
  have harr := Arr.new w 25 [.string { data := #[] }, .int .i64 0, .slice none 0 0]
  have f0 := harr.cell (i := 0) rfl
  have f1 := harr.cell (i := 1) rfl
  have f2 := harr.cell (i := 2) rfl
  have f3 := harr.free
  go_enter Tryz.func12, Tryz.ntmps12
  go_wp2_with fail
  exact bodyPost_ret (res_cell_tmp_row rfl _ _ w.heap.size _ _ (0, 0) _ rfl harr Tryz.underlying25 rfl sqzInfo) rfl ⟨rfl, (Below.refl _ _).alloc (Nat.le_refl _) _⟩

set_option maxRecDepth 100000 in
set_option maxHeartbeats 1600000 in
theorem refSqueeze_any (s : ByteArray) (w : World) (h0 : 0 < s.size) (hs : s.size ≤ 65536) :
    Calls Tryz.prog 12 #[.string s] w fun e w' => ∃ o v, Ord (cycf s) s.size s.size o ∧ e = .returned (.tuple #[.agg #[.string (mkS (alph s.data.toList)), .int .i64 ((origTo o s.size : Nat) : Int), v], .int .i64 0]) ∧ OwI w' w.heap.size v (symL s o) ∧ Below w.heap.size w w' := by
  have t0 := str_full h0
  have t1 : decide ((65536 : Int) < (s.size : Int)) = false := decide_eq_false (by omega)
  have t2 : decide (65536 < s.size) = false := decide_eq_false (by omega)
  go_enter Tryz.func12, Tryz.ntmps12
  go_wp2_with fail
  refine (refAlphabet_any s _ (by omega)).mono ?_
  rintro e w1 ⟨rfl, hb1⟩
  have hz1 := hb1.size
  simp only [World.size_alloc] at hz1
  obtain ⟨A, hA⟩ : ∃ A, A = mkS (alph s.data.toList) := ⟨_, rfl⟩
  rw [← hA]
  have HA0 := hid hA
  clear hA
  go_wp2_with fail
  refine (refForward_any s _ (by omega) (fun w => refOrder_any s w (by omega))).mono ?_
  rintro e w2 ⟨o, hO, rfl, hb2⟩
  have hz2 := hb2.size
  obtain ⟨n, hn⟩ : ∃ n, n = origTo o s.size := ⟨_, rfl⟩
  have hnl := origTo_le o s.size
  rw [← hn] at hnl ⊢
  have HN := hid hn
  clear hn
  obtain ⟨L, hL⟩ : ∃ L, L = mkS (lastTo s o s.size) := ⟨_, rfl⟩
  have hA := HA0.out
  have hLl : L.data.toList = lastTo s o s.size := by rw [hL]; rfl
  have hAl : A.data.toList = alph s.data.toList := by rw [hA]; rfl
  have hLs : L.size = s.size := by rw [hL, mkS_size, lastTo_length]
  have hAs : A.size ≤ 256 := by rw [hA, mkS_size]; exact alph_le _
  have hnd : A.data.toList.Nodup := by rw [hAl]; exact alph_nodup _
  have hsub : ∀ b ∈ L.data.toList, b ∈ A.data.toList := fun b hb => by
    rw [hAl, mem_alph]; rw [hLl] at hb; exact (lastTo_perm s hO).mem_iff.1 hb
  have hml : (mtfL A.data.toList L.data.toList).length = s.size := by rw [mtfL_length]; simp [hLs]
  have hmr : ∀ x ∈ mtfL A.data.toList L.data.toList, 0 ≤ x ∧ x ≤ 1000000 := fun x hx => by
    have := mtfL_range L.data.toList A.data.toList hsub x hx
    have hl : A.data.toList.length = A.size := by simp
    omega
  have hsym : symL s o = zenc 0 (mtfL A.data.toList L.data.toList) ++ [(A.size : Int) + 1] := by
    unfold symL
    rw [← hAl, ← hLl]; simp
  have HSYM := hid hsym
  have HA := hid hA
  rw [← hL]
  have hFR : ∀ W, Calls Tryz.prog 30 #[.string A, .string L] W fun e w' => ∃ v, e = .returned (.tuple #[v, .int .i64 0]) ∧ OwI w' W.heap.size v (mtfL A.data.toList L.data.toList) ∧ Below W.heap.size W w' := fun W => refFront_any A L W (by omega) (by omega) hnd hsub
  have HFR := hid hFR
  obtain ⟨M, hM⟩ : ∃ M, M = mtfL A.data.toList L.data.toList := ⟨_, rfl⟩
  rw [← hM] at hml hmr HSYM HFR
  have HMR := hid hmr
  clear hFR hnd hsub hL hA hLl hAl hLs hM hmr hsym
  go_wp2_with fail
  refine (HFR.out w2).mono ?_
  rintro e w3 ⟨v3, rfl, hown3, hb3⟩
  have hz3 := hb3.size
  go_wp2_with fail
  refine (refEncode_any v3 M w3 hown3.rd (by omega) (by omega) HMR.out).mono ?_
  rintro e w4 ⟨v4, rfl, hown4, hb4⟩
  have hz4 := hb4.size
  have harr := Arr.new w 25 [.string { data := #[] }, .int .i64 0, .slice none 0 0]
  have hlen := hid (zenc_length M 0)
  have e1 : IntKind.i64.wrap ((A.size : Int) + 1) = (A.size : Int) + 1 := by rw [IntKind.wrap_i64]; omega
  have hz04 : w.heap.size + 1 ≤ w4.heap.size := by omega
  have hz03 : w.heap.size + 1 ≤ w3.heap.size := by omega
  have hb04 : Below (w.heap.size + 1) (w.alloc (.cells #[.string { data := #[] }, .int .i64 0, .slice none 0 0] 25)) w4 := (((hb1.mono (by simp)).trans (hb2.mono (by omega))).trans (hb3.mono (by omega))).trans (hb4.mono (by omega))
  go_wp2_with (at_builtin; (refine appI rfl _ _ rfl w3.heap.size _ _ rfl (hown4.alloc _) w4.heap.size ((A.size : Int) + 1) rfl ?_ ?_ ?_ ?_; (exact newc _ _ _); (have := hlen.out.1; omega); (simp; omega); intro v6 w6 hown6 hb6 _; obtain ⟨a6, c6, e6, _, _, _⟩ := hown6.rd.open; subst e6; have hz6 := hb6.size; simp only [World.size_alloc] at hz6; have hbE := (hb04.alloc hz04 _).trans (hb6.mono hz03); have p0 := harr.below hbE (by omega); have p1 := p0.cell (i := 0) rfl; have p2 := p0.cell (i := 1) rfl; have p3 := p0.cell (i := 2) rfl; have p4 := p0.free))
  rw [show (zenc 0 M ++ [(A.size : Int) + 1]).length = (zenc 0 M).length + 1 by simp] at hown6
  generalize hv : Value.slice a6 ((zenc 0 M).length + 1) c6 = v6 at *
  have hF : Arr (((w6.setCell ⟨w.heap.size, 0, none⟩ (.string A)).setCell ⟨w.heap.size, 1, none⟩ (.int .i64 (n : Int))).setCell ⟨w.heap.size, 2, none⟩ v6) w.heap.size 25 [.string A, .int .i64 (n : Int), v6] := ((p0.set 0 _).set 1 _).set 2 _
  have ho2 := hown6.kept (bSetG (bSetG (bSetG (grownRefl _ (some w.heap.size)) 0 (.string A)) 1 (.int .i64 (n : Int))) 2 v6) (fun b e => by simp at e; omega)
  have hbF := (((((Below.refl w.heap.size w).alloc (Nat.le_refl _) _).trans (hbE.mono (by omega))).setCell (p := ⟨w.heap.size, 0, none⟩) (Nat.le_refl _) (.string A)).setCell (p := ⟨w.heap.size, 1, none⟩) (Nat.le_refl _) (.int .i64 (n : Int))).setCell (p := ⟨w.heap.size, 2, none⟩) (Nat.le_refl _) v6
  refine bodyPost_ret (res_cell_tmp_row rfl _ _ w.heap.size _ _ (0, 0) _ rfl hF Tryz.underlying25 rfl sqzInfo) rfl ⟨o, v6, hO, ?_, ?_, hbF⟩
  · rw [← HA.out, ← HN.out]; rfl
  · rw [HSYM.out]; exact ho2.base (by omega)

end Go.Proofs.YthjmpiekjfnoiaaGreatDoor

/-
  The walks of chapter 15: how many symbols there may be; what is the same; which symbols may be.
-/
namespace Go.Proofs.YthjmpiekjfnoiaaGreatDoor
open Go.RowKit

set_option maxRecDepth 100000 in
theorem codes_any (a : ByteArray) (o : Int) (y : Value) (hy : y.oneCell' = true) (w : World) (ha : a.size ≤ 140737488355328) :
    Calls Tryz.prog 15 #[.agg #[.string a, .int .i64 o, y]] w fun e w' => e = .returned (.int .i64 ((a.size : Int) + 2)) ∧ Below w.heap.size w w' := by
  have e1 : IntKind.i64.wrap ((a.size : Int) + 1 + 1) = (a.size : Int) + 2 := by rw [IntKind.wrap_i64]; omega
  have harr := Arr.new w 25 [.string a, .int .i64 o, y]
  have c0 := harr.cell (i := 0) rfl
  have c1 := harr.cell (i := 1) rfl
  have c2 := harr.cell (i := 2) rfl
  have hb := (Below.refl w.heap.size w).alloc (Nat.le_refl _) (.cells #[.string a, .int .i64 o, y] 25)
  go_enter Tryz.func15, Tryz.ntmps15
  go_wp2_with fail
  refine (end_any a o y hy _ ha).mono ?_
  rintro e w1 ⟨rfl, hb1⟩
  go_wp2_with fail
  go_ret
  exact ⟨rfl, hb.trans (hb1.mono hb.size)⟩

set_option maxRecDepth 100000 in
theorem refCodes_any (a : ByteArray) (o : Int) (y : Value) (_hy : y.oneCell' = true) (w : World) (ha : a.size ≤ 140737488355328) :
    Calls Tryz.prog 16 #[.agg #[.string a, .int .i64 o, y]] w fun e w' => e = .returned (.int .i64 ((a.size : Int) + 2)) ∧ Below w.heap.size w w' := by
  have e1 : IntKind.i64.wrap ((a.size : Int) + 2) = (a.size : Int) + 2 := by rw [IntKind.wrap_i64]; omega
  go_enter Tryz.func16, Tryz.ntmps16
  go_wp2_with fail
  go_ret
  exact ⟨rfl, (Below.refl _ _).alloc (Nat.le_refl _) _⟩

theorem str_ne {a b : ByteArray} (h : a ≠ b) : (a.toList == b.toList) = false := by
  rw [Lib.toList_data, Lib.toList_data, ← Bool.not_eq_true, beq_iff_eq]
  exact fun e => h (by rw [← mkS_of a, e, mkS_of])

set_option maxRecDepth 100000 in
theorem same_any (a1 a2 : ByteArray) (o1 o2 : Int) (v1 v2 : Value) (m1 m2 : List Int) (w : World) (h1 : RdI w v1 m1) (h2 : RdI w v2 m2) :
    Calls Tryz.prog 13 #[.agg #[.string a1, .int .i64 o1, v1], .agg #[.string a2, .int .i64 o2, v2]] w fun e w' => e = .returned (.bool (decide (m1 = m2 ∧ a1 = a2 ∧ o1 = o2))) ∧ Below w.heap.size w w' := by
  obtain ⟨ad1, ca1, rfl, hca1, hma1, hA1⟩ := h1.open
  obtain ⟨ad2, ca2, rfl, hca2, hma2, hA2⟩ := h2.open
  have x1 := Arr.new w 25 [.string a1, .int .i64 o1, .slice ad1 m1.length ca1]
  have x2 := Arr.new (w.alloc (.cells #[.string a1, .int .i64 o1, .slice ad1 m1.length ca1] 25)) 25 [.string a2, .int .i64 o2, .slice ad2 m2.length ca2]
  have z1 : (w.alloc (.cells #[.string a1, .int .i64 o1, .slice ad1 m1.length ca1] 25)).heap.size = w.heap.size + 1 := by simp
  have x3 := x1.alloc (.cells #[.string a2, .int .i64 o2, .slice ad2 m2.length ca2] 25)
  rw [z1] at x2
  have hb := ((Below.refl w.heap.size w).alloc (Nat.le_refl _) (.cells #[.string a1, .int .i64 o1, .slice ad1 m1.length ca1] 25)).alloc (by omega) (.cells #[.string a2, .int .i64 o2, .slice ad2 m2.length ca2] 25)
  have z2 : ((w.alloc (.cells #[.string a1, .int .i64 o1, .slice ad1 m1.length ca1] 25)).alloc (.cells #[.string a2, .int .i64 o2, .slice ad2 m2.length ca2] 25)).heap.size = w.heap.size + 1 + 1 := by simp
  go_enter Tryz.func13, Tryz.ntmps13
  go_wp2_with fail
  clear x1
  change Arr ((w.alloc (.cells #[.string a1, .int .i64 o1, .slice ad1 m1.length ca1] 25)).alloc (.cells #[.string a2, .int .i64 o2, .slice ad2 m2.length ca2] 25)) _ _ _ at x2
  change Arr ((w.alloc (.cells #[.string a1, .int .i64 o1, .slice ad1 m1.length ca1] 25)).alloc (.cells #[.string a2, .int .i64 o2, .slice ad2 m2.length ca2] 25)) _ _ _ at x3
  generalize (w.alloc (.cells #[.string a1, .int .i64 o1, .slice ad1 m1.length ca1] 25)).alloc (.cells #[.string a2, .int .i64 o2, .slice ad2 m2.length ca2] 25) = w2 at *
  refine (ints_any _ _ m1 m2 w2 (h1.below hb) (h2.below hb)).mono ?_
  rintro e w3 ⟨rfl, hb3⟩
  have y1 := x3.below hb3 (by omega)
  have y2 := x2.below hb3 (by omega)
  have d1 := y1.cell (i := 0) rfl
  have d2 := y1.cell (i := 1) rfl
  have d3 := y2.cell (i := 0) rfl
  have d4 := y2.cell (i := 1) rfl
  have hbF := hb.trans (hb3.mono (by omega))
  by_cases hm : m1 = m2
  · have t1 : (m1 == m2) = true := by simp [hm]
    rw [t1]
    by_cases ha : a1 = a2
    · subst ha
      go_wp2_with fail
      go_ret
      exact ⟨ret_bool (by rw [Bool.eq_iff_iff]; simp), hbF⟩
    · have t2 : (a1.toList == a2.toList) = false := str_ne ha
      go_wp2_with fail
      go_ret
      exact ⟨by simp [hm, ha], hbF⟩
  · have t1 : (m1 == m2) = false := by simp [hm]
    rw [t1]
    go_wp2_with fail
    go_ret
    exact ⟨by simp [hm], hbF⟩

end Go.Proofs.YthjmpiekjfnoiaaGreatDoor

/-
  The walks of the document's chapter 15: which symbols may be.
-/
namespace Go.Proofs.YthjmpiekjfnoiaaGreatDoor
open Go.RowKit

/-- Symbols that may be: the last one is the end's, all others are below it. -/
def mayP (l : List Int) (e : Int) : Prop := 0 < l.length ∧ l[l.length - 1]? = some e ∧ ∀ x ∈ l.take (l.length - 1), 0 ≤ x ∧ x < e
instance (l : List Int) (e : Int) : Decidable (mayP l e) := inferInstanceAs (Decidable (0 < l.length ∧ l[l.length - 1]? = some e ∧ ∀ x ∈ l.take (l.length - 1), 0 ≤ x ∧ x < e))

set_option maxRecDepth 100000 in
theorem may_any (v : Value) (l : List Int) (e : Int) (w : World) (hr : RdI w v l) :
    Calls Tryz.prog 42 #[v, .int .i64 e] w fun e' w' => e' = .returned (.bool (decide (mayP l e))) ∧ w' = w := by
  obtain ⟨ad, ca, rfl, hca, hma, hA⟩ := hr.open
  unfold maxLen at hma
  go_enter Tryz.func42, Tryz.ntmps42
  by_cases h0 : l.length = 0
  · have hn : decide (mayP l e) = false := decide_eq_false (fun h => by have := h.1; omega)
    have t1 : decide (l.length = 0) = true := decide_eq_true h0
    go_wp2_with fail
    go_ret
    first | exact ⟨ret_bool hn.symm, rfl⟩ | exact ⟨rfl, rfl⟩
  · have hpos : 0 < l.length := by omega
    obtain ⟨b0, o0, rfl, hb0, hc0⟩ := hA hpos
    obtain ⟨m, hm⟩ : ∃ m, l.length = m + 1 := ⟨l.length - 1, by omega⟩
    obtain ⟨y, hy⟩ := getI (show m < l.length by omega)
    have c1 := hc0 m y hy
    rw [hm] at hca ⊢
    have e1 : IntKind.i64.wrap (((m + 1 : Nat) : Int) - 1) = (m : Int) := by rw [IntKind.wrap_i64]; omega
    have e2 : (m : Int) < ((m + 1 : Nat) : Int) := by omega
    have e4 : m + 1 ≤ ca := hca
    have HM := hid hm
    have HC := hid hc0
    have HY := hid hy
    clear hm hc0 hA hy
    have f1 : ((m : Int) + 1 == 0) = false := by rw [beq_eq_false_iff_ne]; omega
    have f3 : ((m : Int) + 1 = 0) = False := eq_false (by omega)
    by_cases hye : y = e
    · subst hye
      have f2 : (y != y) = false := by simp
      go_wp2_with fail
      go_loopg [6] m (fun gh s6 wq => ∃ k : Nat, k ≤ m ∧ gh = m - k ∧ s6 = .int .i64 (k : Int) ∧ wq = w ∧ ∀ x ∈ l.take k, 0 ≤ x ∧ x < y)
      case atStart => exact ⟨0, Nat.zero_le _, rfl, rfl, rfl, by simp⟩
      case round =>
      obtain ⟨k, hk, hg, rfl, rfl, hall⟩ := hrel
      have HG := hid hg
      have HALL := hid hall
      clear hg hall
      by_cases hlt : k < m
      · have q1 : (k : Int) + 1 < (m : Int) + 1 := by omega
        have q2 : k < m + 1 := by omega
        obtain ⟨x, hx⟩ := getI (show k < l.length by rw [HM.out]; exact q2)
        have c2 := HC.out k x hx
        have HX := hid hx
        clear hx
        by_cases hb : 0 ≤ x ∧ x < y
        · have r1 : decide (x < 0) = false := decide_eq_false (by omega)
          have r2 : decide (y ≤ x) = false := decide_eq_false (by omega)
          go_wp2_with fail
          have hg := HG.out
          go_roundg (m - (k + 1))
          case measure => omega
          case rel =>
            refine ⟨k + 1, by omega, rfl, by go_num, rfl, fun z hz => ?_⟩
            rw [List.take_add_one, HX.out, Option.toList_some, List.mem_append, List.mem_singleton] at hz
            rcases hz with hz | rfl
            · exact HALL.out z hz
            · exact hb
        · have hn : decide (mayP l y) = false := decide_eq_false (fun h => by
            refine hb (h.2.2 x ?_)
            rw [HM.out, Nat.add_sub_cancel]
            refine List.mem_of_getElem? (i := k) ?_
            rw [List.getElem?_take_of_lt hlt]; exact HX.out)
          by_cases hx0 : x < 0
          · have r1 : decide (x < 0) = true := decide_eq_true hx0
            go_wp2_with fail
            go_ret
            first | exact ⟨ret_bool hn.symm, rfl⟩ | exact ⟨rfl, rfl⟩
          · have r1 : decide (x < 0) = false := decide_eq_false hx0
            have r2 : decide (y ≤ x) = true := decide_eq_true (by omega)
            go_wp2_with fail
            go_ret
            first | exact ⟨ret_bool hn.symm, rfl⟩ | exact ⟨rfl, rfl⟩
      · have hke : k = m := by omega
        have hn : decide (mayP l y) = true := decide_eq_true ⟨hpos, by rw [HM.out, Nat.add_sub_cancel]; exact HY.out, by rw [HM.out, Nat.add_sub_cancel, ← hke]; exact HALL.out⟩
        have HN := hid hn
        clear hn
        go_wp2_with fail
        go_ret
        exact ⟨ret_bool HN.out.symm, rfl⟩
    · have hn : decide (mayP l e) = false := decide_eq_false (fun h => by
        have := h.2.1
        rw [HM.out, Nat.add_sub_cancel, HY.out] at this
        exact hye (Option.some.inj this))
      have f2 : (y != e) = true := by simp [hye]
      go_wp2_with fail
      go_ret
      first | exact ⟨ret_bool hn.symm, rfl⟩ | exact ⟨rfl, rfl⟩

end Go.Proofs.YthjmpiekjfnoiaaGreatDoor

/-
  The walks of the functions of chapter 14, of the program and of the document's own answer.
-/
namespace Go.Proofs.YthjmpiekjfnoiaaGreatDoor
open Go.RowKit

theorem vecTo_le (s : List UInt8) (k : Nat) (hk : k ≤ 256) : (vecTo s k).length ≤ s.length := by
  rw [vecTo_length, ← ltc_all s]; exact ltc_mono s k 256 hk
theorem idxTo_le (s : List UInt8) (c n : Nat) : (idxTo s c n).length ≤ n := by
  unfold idxTo; have := List.length_filter_le (fun i => (s.getD i 0).toNat == c) (List.range n); simpa using this
set_option maxRecDepth 100000 in
set_option maxHeartbeats 800000 in
theorem refVector_any (s : ByteArray) (w : World) (hs : s.size ≤ 1000000000) :
    Calls Tryz.prog 72 #[.string s] w fun e w' =>
      ∃ v, e = .returned v ∧ OwI w' w.heap.size v (vecI s.data.toList) ∧ Below w.heap.size w w' := by
  go_enter Tryz.func72, Tryz.ntmps72
  go_wp2
  go_loopw [3, 4] (fun out c wr => ∃ k : Nat, k ≤ 256 ∧ c = .int .i64 k ∧ OwI wr w.heap.size out ((vecTo s.data.toList k).map Int.ofNat) ∧ Below w.heap.size w wr) (fun _ c _ => 256 - (intOf c).toNat)
  case atStart => exact ⟨0, Nat.zero_le _, rfl, OwI.nil _ _, Below.refl _ _⟩
  case round =>
    obtain ⟨k, hk, rfl, hown, hbel⟩ := hrel
    by_cases hlt : k < 256
    · obtain ⟨wo, rfl⟩ : ∃ wo : World, wo = wr := ⟨_, rfl⟩
      have hd : decide ((k : Int) < 256) = true := by simp; omega
      go_wp2
      go_loopw [3, 5] (fun out i wr => ∃ j : Nat, j ≤ s.size ∧ i = .int .i64 j ∧ OwI wr w.heap.size out ((vecTo s.data.toList k ++ idxTo s.data.toList k j).map Int.ofNat) ∧ Below w.heap.size w wr) (fun _ i _ => s.size - (intOf i).toNat)
      case atStart => exact ⟨0, Nat.zero_le _, rfl, by simpa [idxTo] using hown, hbel⟩
      case round =>
        obtain ⟨j, hj, rfl, hown1, hbel1⟩ := hrel
        by_cases hlj : j < s.size
        · have hb : s[j].toNat < 256 := s[j].toNat_lt
          have HB := hid (byteAt s j hlj)
          have hl1 := vecTo_le s.data.toList k (by omega)
          have hl2 := idxTo_le s.data.toList k j
          simp only [Array.length_toList, ByteArray.size_data] at hl1
          go_wp2_with (at_builtin; refine appI rfl _ _ rfl w.heap.size _ _ rfl (hown1.alloc _) wr.heap.size (j : Int) rfl ?_ ?_ ?_ ?_; (exact newc _ _ _); (simp only [List.length_append, List.length_map]; omega); (have := hbel1.size; simp; omega); intro v' w1 hown' hB hgrow)
          · have ht : ((s[j].toNat : Int) == (k : Int)) = true := by assumption
            have hs1 := idxTo_succ s.data.toList k j _ HB.out
            rw [if_pos (by have := eq_of_beq ht; omega)] at hs1
            go_roundw
            case rel => exact ⟨j + 1, by omega, by go_num, by rw [hs1, ← List.append_assoc, List.map_append]; exact hown', (hbel1.alloc (by have := hbel1.size; omega) _).trans hB⟩
            case measure => simp [intOf]; omega
          · have ht : ((s[j].toNat : Int) == (k : Int)) = false := by assumption
            have hs1 := idxTo_succ s.data.toList k j _ HB.out
            rw [if_neg (by have := ne_of_beq_false ht; omega), List.append_nil] at hs1
            go_roundw
            case rel => exact ⟨j + 1, by omega, by go_num, by rw [hs1]; exact hown1, hbel1⟩
            case measure => simp [intOf]; omega
        · go_wp2
          go_roundw
          case rel => exact ⟨k + 1, by omega, by go_num, by
            have hj' : j = s.data.toList.length := by simp; omega
            rw [hj'] at hown1; simpa [vecTo] using hown1, hbel1⟩
          case measure => simp [intOf]; omega
    · have hk' : k = 256 := by omega
      have HK := hid hk'
      clear hk'
      go_wp2
      go_ret
      have e := HK.out
      subst e
      exact ⟨_, rfl, by rw [vecI, vec_eq]; exact hown, hbel⟩

theorem zeroCells257 : Tryz.zeroCells151 = (tab 257 (fun _ => 0)).toArray := by kernel_rfl

set_option maxRecDepth 100000 in
set_option maxHeartbeats 800000 in
theorem vector_any (s : ByteArray) (w : World) (hs : s.size ≤ 1000000000) :
    Calls Tryz.prog 85 #[.string s] w fun e w' =>
      ∃ v, e = .returned v ∧ OwI w' w.heap.size v (vecI s.data.toList) ∧ Below w.heap.size w w' := by
  have hl0 : s.data.toList.length = s.size := by simp
  have HL := hid hl0
  clear hl0
  go_enter Tryz.func85, Tryz.ntmps85
  go_wp2
  go_loopw [10] (fun i wr => ∃ k : Nat, k ≤ s.size ∧ i = .int .i64 k ∧ Arr wr w.heap.size 151 (tab 257 (cntA s.data.toList k)) ∧ Below w.heap.size w wr) (fun i _ => s.size - (intOf i).toNat)
  case atStart => exact ⟨0, Nat.zero_le _, rfl, by rw [cntA_zero, zeroCells257]; exact Arr.new _ _ _, (Below.refl _ _).alloc (Nat.le_refl _) _⟩
  case round =>
    obtain ⟨k, hk, rfl, harr, hbel⟩ := hrel
    by_cases hlt : k < s.size
    · have hb : s[k].toNat < 256 := s[k].toNat_lt
      have HB := hid (byteAt s k hlt)
      have hbd := cntA_bd s.data.toList k (s[k].toNat + 1)
      rw [HL.out] at hbd
      have hc := harr.cell (tab_get 257 (cntA s.data.toList k) (s[k].toNat + 1) (by omega))
      have hf := harr.free (s[k].toNat + 1)
      obtain ⟨x, hx⟩ : ∃ x, x = cntA s.data.toList k (s[k].toNat + 1) := ⟨_, rfl⟩
      rw [← hx] at hc hbd
      have HX := hid hx
      clear hx
      go_wp2
      go_roundw
      case rel =>
        refine ⟨k + 1, by omega, by go_num, ?_, hbel.setCell (Nat.le_refl _) _⟩
        have := harr.set (s[k].toNat + 1) (.int .i64 (x + 1))
        rw [tab_set 257 _ (cntA s.data.toList (k + 1)) _ _ (fun d _ => by rw [cntA_succ _ _ _ HB.out, HX.out])] at this
        exact this
      case measure => simp [intOf]; omega
    · have hk' : k = s.size := by omega
      have HK := hid hk'
      clear hk'
      go_wp2
      go_loopw [23] (fun i wr => ∃ c : Nat, c ≤ 256 ∧ i = .int .i64 c ∧ Arr wr w.heap.size 151 (tab 257 (cntB s.data.toList c)) ∧ Below w.heap.size w wr) (fun i _ => 256 - (intOf i).toNat)
      case atStart => exact ⟨0, Nat.zero_le _, rfl, by have := harr; rw [HK.out, ← HL.out, cntA_cntB] at this; exact this, hbel⟩
      case round =>
        clear harr hbel hlt
        obtain ⟨c, hc, rfl, harr, hbel⟩ := hrel
        by_cases hlt : c < 256
        · have hd : decide ((c : Int) < 256) = true := by simp; omega
          have hbd := cntB_bd s.data.toList c (c + 1)
          have hbe := cntB_bd s.data.toList c c
          rw [HL.out] at hbd hbe
          have h1 := harr.cell (tab_get 257 (cntB s.data.toList c) (c + 1) (by omega))
          have h2 := harr.cell (tab_get 257 (cntB s.data.toList c) c (by omega))
          have hf := harr.free (c + 1)
          obtain ⟨x, hx⟩ : ∃ x, x = cntB s.data.toList c (c + 1) := ⟨_, rfl⟩
          obtain ⟨y, hy⟩ : ∃ x, x = cntB s.data.toList c c := ⟨_, rfl⟩
          rw [← hx] at h1 hbd
          rw [← hy] at h2 hbe
          have HX := hid hx
          have HY := hid hy
          clear hx hy
          go_wp2
          go_region
          go_wp2
          go_roundw
          case rel =>
            refine ⟨c + 1, by omega, by go_num, ?_, (hbel.setCell (Nat.le_refl _) _).drew⟩
            have := harr.set (c + 1) (.int .i64 (x + y))
            rw [tab_set 257 _ (cntB s.data.toList (c + 1)) _ _ (fun d _ => by rw [cntB_succ, HX.out, HY.out])] at this
            exact this
          case measure => simp [intOf]; omega
        · have hc' : c = 256 := by omega
          have HC := hid hc'
          clear hc'
          have hd : decide ((c : Int) < 256) = false := by simp; omega
          obtain ⟨wo, rfl⟩ : ∃ wo : World, wo = wr := ⟨_, rfl⟩
          go_wp2_with (at_make; refine mkA elInt rfl _ _ rfl s.size rfl rfl ?_ ?_; omega)
          have hwo : w.heap.size < wo.heap.size := harr.lt
          go_loopw [41] (fun i wr => ∃ k : Nat, k ≤ s.size ∧ i = .int .i64 k ∧ Arr wr w.heap.size 151 (tab 257 (cntC s.data.toList k)) ∧ (∃ L : List Int, L.length = s.size ∧ Hid (∀ j, j < k → L[place s.data.toList j]? = some (j : Int)) ∧ Arr wr wo.heap.size 3 (L.map (Value.int .i64))) ∧ Below w.heap.size w wr) (fun i _ => s.size - (intOf i).toNat)
          case atStart =>
            refine ⟨0, Nat.zero_le _, rfl, ?_, ⟨List.replicate s.size 0, by simp, hid (fun j hj => by omega), ?_⟩, hbel.alloc (by omega) _⟩
            · have := harr.alloc (.cells (zeros (.int .i64 0) s.size) 3)
              rw [HC.out] at this
              rwa [show tab 257 (cntC s.data.toList 0) = tab 257 (cntB s.data.toList 256) from by
                apply List.map_congr_left; intro d hd; rw [cntB_cntC _ _ (by simpa using hd)]]
            · rw [List.map_replicate]; exact Arr.made _ _ _ _
          case round =>
            clear harr hbel hlt hd
            obtain ⟨k, hk, rfl, harr, ⟨L, hL, HP, hout⟩, hbel⟩ := hrel
            by_cases hlt : k < s.size
            · have hb : s[k].toNat < 256 := s[k].toNat_lt
              have HB := hid (byteAt s k hlt)
              have hp0 := place_lt s.data.toList k (by rw [HL.out]; exact hlt)
              have h1 := harr.cell (tab_get 257 (cntC s.data.toList k) s[k].toNat (by omega))
              rw [cntC_place _ _ _ HB.out] at h1
              rw [HL.out] at hp0
              obtain ⟨p, hp⟩ : ∃ p, p = place s.data.toList k := ⟨_, rfl⟩
              rw [← hp] at h1 hp0
              have HPk := hid hp
              clear hp
              have hf := harr.free s[k].toNat
              have hf2 := hout.free p
              obtain ⟨v2, hv2⟩ : ∃ v2, (L.map (Value.int .i64))[p]? = some v2 := ⟨_, List.getElem?_eq_getElem (by simp; omega)⟩
              have h2 := hout.cell hv2
              clear hv2
              go_wp2
              go_roundw
              case rel =>
                refine ⟨k + 1, by omega, by go_num, ?_, ⟨L.set p (k : Int), by simpa using hL, hid ?_, ?_⟩, (hbel.setCell (by simp; omega) _).setCell (Nat.le_refl _) _⟩
                · have := (harr.other ⟨wo.heap.size, p, none⟩ (by simp; omega) (.int .i64 (k : Int))).set s[k].toNat (.int .i64 ((p : Int) + 1))
                  rw [tab_set 257 _ (cntC s.data.toList (k + 1)) _ _ (fun d _ => by rw [cntC_succ _ _ _ HB.out, cntC_place _ _ _ HB.out, ← HPk.out])] at this
                  exact this
                · intro j hj
                  rcases Nat.lt_or_ge j k with h' | h'
                  · rw [List.getElem?_set_ne (fun e => ?_)]
                    · exact HP.out j h'
                    · have := place_inj s.data.toList j k (by rw [HL.out]; omega) (by rw [HL.out]; omega) (by rw [← HPk.out, e])
                      omega
                  · have : j = k := by omega
                    subst this
                    rw [← HPk.out, List.getElem?_set_self (by omega)]
                · have := (hout.set p (.int .i64 (k : Int))).other ⟨w.heap.size, s[k].toNat, none⟩ (by simp; omega) (.int .i64 ((p : Int) + 1))
                  rwa [← List.map_set] at this
              case measure => simp [intOf]; omega
            · have hk' : k = s.size := by omega
              have HK' := hid hk'
              clear hk'
              go_wp2
              go_ret
              have e := eq_vec s.data.toList L (by rw [HL.out, hL]) (fun j hj => HP.out j (by rw [HK'.out, ← HL.out]; exact hj))
              have ho := hout.own (B := w.heap.size) (by omega) (by rw [List.length_map, hL]; simp only [maxLen]; omega)
              rw [List.length_map, hL] at ho
              rw [e] at ho
              exact ⟨_, rfl, ho, hbel⟩

end Go.Proofs.YthjmpiekjfnoiaaGreatDoor

/-
  The walks of Back, of the program and of the document's own answer.
-/
namespace Go.Proofs.YthjmpiekjfnoiaaGreatDoor
open Go.RowKit

theorem ret2 {a b c d : Value} (h1 : a = c) (h2 : b = d) : Ending.returned (.tuple #[a, b]) = .returned (.tuple #[c, d]) := by rw [h1, h2]
theorem vecI_get (s : List UInt8) (k : Nat) (h : k < s.length) : (vecI s)[k]? = some ((nxt s k : Nat) : Int) := by
  unfold vecI nxt
  have : k < (vec s).length := by rw [vec_length]; exact h
  simp [List.getD, List.getElem?_eq_getElem this]
theorem vecI_length (s : List UInt8) : (vecI s).length = s.length := by simp [vecI, vec_length]
theorem getD_at (s : ByteArray) (k : Nat) (h : k < s.size) : s.data.toList.getD k 0 = s[k] := by
  simp [List.getD, byteAt s k h]

set_option maxRecDepth 100000 in
set_option maxHeartbeats 800000 in
theorem back_any (s : ByteArray) (o : Int) (w : World) (hs : s.size ≤ 1000000000) (ho1 : -9223372036854775808 ≤ o) (ho2 : o ≤ 9223372036854775807) :
    Calls Tryz.prog 64 #[.string s, .int .i64 o] w fun e w' =>
      e = .returned (.tuple #[.string (mkS (backText s.data.toList o)), .int .i64 (backErr s.data.toList o)]) ∧ Below w.heap.size w w' := by
  have hl0 : s.data.toList.length = s.size := by simp
  have HL := hid hl0
  by_cases hok : backOk s.data.toList o = true
  case neg =>
    have h0 : backOk s.data.toList o = false := by simpa using hok
    have hfin : backText s.data.toList o = [] ∧ backErr s.data.toList o = 1 := by simp [backText, backErr, h0]
    have HF := hid hfin
    unfold backOk at h0
    rw [hl0] at h0
    clear hfin hok hl0
    by_cases hneg : o < 0
    · clear h0
      have hd : decide (o < 0) = true := by simpa using hneg
      go_enter Tryz.func64, Tryz.ntmps64
      go_wp2
      go_ret2
      exact ⟨ret2 (by rw [HF.out.1]; rfl) (by rw [HF.out.2]; rfl), Below.refl _ _⟩
    · have h1 : (max (s.size : Int) 1) ≤ o := by simp at h0; omega
      have h2 : decide (max (s.size : Int) 1 ≤ o) = true := by simpa using h1
      have hd : decide (o < 0) = false := by simpa using hneg
      clear h0 h2
      go_enter Tryz.func64, Tryz.ntmps64
      go_wp2
      all_goals go_ret2
      all_goals exact ⟨ret2 (by rw [HF.out.1]; rfl) (by rw [HF.out.2]; rfl), Below.refl _ _⟩
  case pos =>
    have h0 := hok
    unfold backOk at h0
    rw [hl0] at h0
    have h1 : 0 ≤ o ∧ o < max (s.size : Int) 1 := by simpa using h0
    obtain ⟨n, rfl⟩ := Int.eq_ofNat_of_zero_le h1.1
    have hfin : backText s.data.toList n = backTo s.data.toList n s.size ∧ backErr s.data.toList n = 0 := by
      simp [backText, backErr, hok, back_eq]
    have HF := hid hfin
    have hlt : n < s.size ∨ (s.size = 0 ∧ n = 0) := by omega
    clear hfin hok hl0 h0 h1 ho1 ho2
    have hd : decide ((n : Int) < 0) = false := by simp
    have HN := hid (show 0 < s.size → n < s.size from fun h => by omega)
    have hlt' : n < s.size ∨ s.size ≤ 0 ∧ n ≤ 0 := by omega
    clear hlt
    rcases hlt' with hlt | ⟨hlt, hlt2⟩
    · go_enter Tryz.func64, Tryz.ntmps64
      go_wp2_with fail
      refine (vector_any s _ hs).mono ?_
      rintro e w1 ⟨v, rfl, hv, hB⟩
      obtain ⟨va, vc, rfl, hvc, hvm, hvA⟩ := hv.rd.open
      rw [vecI_length, HL.out] at hvA hvc ⊢
      simp only [maxLen] at hvm
      clear hv
      go_wp2_with (at_make; refine mkA elByte rfl _ _ rfl s.size rfl rfl ?_ ?_; omega)
      go_loopg [8, 27] s.size (fun g at_ i wr => ∃ k : Nat, k ≤ s.size ∧ g = s.size - k ∧ i = .int .i64 k ∧ at_ = .int .i64 ((walkN s.data.toList k n : Nat) : Int) ∧ Arr wr w1.heap.size 5 (bytesV (fill s.size 0 (backTo s.data.toList n k))) ∧ Below w.heap.size w wr ∧ Below w1.heap.size w1 wr)
      case atStart =>
        refine ⟨0, Nat.zero_le _, rfl, rfl, rfl, ?_, hB.alloc (by have := hB.size; omega) _, (Below.refl _ _).alloc (Nat.le_refl _) _⟩
        have := Arr.made w1 5 (.int .u8 0) s.size
        rwa [show List.replicate s.size (Value.int .u8 0) = bytesV (fill s.size 0 (backTo s.data.toList n 0)) from by simp [bytesV, fill, backTo]] at this
      case round =>
        obtain ⟨k, hk, hg, rfl, rfl, harr, hbel, hbel1⟩ := hrel
        by_cases hlk : k < s.size
        · have hn := HN.out (by omega)
          have hat := walkN_lt s.data.toList n (by rw [HL.out]; exact hn) k
          have hat1 := walkN_lt s.data.toList n (by rw [HL.out]; exact hn) (k + 1)
          rw [HL.out] at hat hat1
          obtain ⟨b1, o1, rfl, hb1, hc1⟩ := hvA (by omega)
          have c1 : wr.cell? ⟨b1, o1 + walkN s.data.toList k n, none⟩ = some (.int .i64 ((walkN s.data.toList (k + 1) n : Nat) : Int)) := by
            rw [hbel1.cell (p := ⟨b1, o1 + walkN s.data.toList k n, none⟩) hb1]
            exact hc1 _ _ (vecI_get _ _ (by rw [HL.out]; exact hat))
          have HBY := hid (byteAt s _ hat1)
          have hb : s[walkN s.data.toList (k + 1) n].toNat < 256 := UInt8.toNat_lt _
          obtain ⟨x, hx⟩ := fill_lt s.size (0 : UInt8) (backTo s.data.toList n k) k hlk (by rw [backTo_length]; omega)
          have c2 := harr.cell (bytesV_get hx)
          have f2 := harr.free k
          have HG := hid hg
          clear hx hvA hc1 hg
          go_wp2
          have hg := HG.out
          go_roundg (s.size - (k + 1))
          case measure => omega
          case rel =>
            refine ⟨k + 1, by omega, rfl, by go_num, rfl, ?_, hbel.setCell (by have := hB.size; simp; omega) _, hbel1.setCell (by simp) _⟩
            have := harr.set k (.int .u8 ((s[walkN s.data.toList (k + 1) n].toNat : Nat) : Int))
            rw [bytesV_set] at this
            have e := fill_set s.size (0 : UInt8) s[walkN s.data.toList (k + 1) n] (backTo s.data.toList n k) (by rw [backTo_length]; exact hlk)
            rw [backTo_length, ← getD_at s _ hat1, ← backTo_succ] at e
            rw [← getD_at s _ hat1, e] at this
            rw [← getD_at s _ hat1]
            exact this
        · have hk' : k = s.size := by omega
          rw [hk', fill_full _ _ _ (by rw [backTo_length]; exact Nat.le_refl _)] at harr
          have hcv := conv_bytes (harr.rdB (n := s.size) (by rw [backTo_length]) (by simp only [maxLen]; omega))
          clear hk' hg
          go_wp2
          go_ret2
          exact ⟨ret2 (by rw [HF.out.1]; rfl) (by rw [HF.out.2]; rfl), hbel⟩

    · go_enter Tryz.func64, Tryz.ntmps64
      go_wp2_with fail
      refine (vector_any s _ hs).mono ?_
      rintro e w1 ⟨v, rfl, hv, hB⟩
      obtain ⟨va, vc, rfl, hvc, hvm, hvA⟩ := hv.rd.open
      rw [vecI_length, HL.out] at hvA hvc ⊢
      simp only [maxLen] at hvm
      clear hv
      go_wp2_with (at_make; refine mkA elByte rfl _ _ rfl s.size rfl rfl ?_ ?_; omega)
      go_loopg [8, 27] s.size (fun g at_ i wr => ∃ k : Nat, k ≤ s.size ∧ g = s.size - k ∧ i = .int .i64 k ∧ at_ = .int .i64 ((walkN s.data.toList k n : Nat) : Int) ∧ Arr wr w1.heap.size 5 (bytesV (fill s.size 0 (backTo s.data.toList n k))) ∧ Below w.heap.size w wr ∧ Below w1.heap.size w1 wr)
      case atStart =>
        refine ⟨0, Nat.zero_le _, rfl, rfl, rfl, ?_, hB.alloc (by have := hB.size; omega) _, (Below.refl _ _).alloc (Nat.le_refl _) _⟩
        have := Arr.made w1 5 (.int .u8 0) s.size
        rwa [show List.replicate s.size (Value.int .u8 0) = bytesV (fill s.size 0 (backTo s.data.toList n 0)) from by simp [bytesV, fill, backTo]] at this
      case round =>
        obtain ⟨k, hk, hg, rfl, rfl, harr, hbel, hbel1⟩ := hrel
        have hk' : k = s.size := by omega
        rw [hk', fill_full _ _ _ (by rw [backTo_length]; exact Nat.le_refl _)] at harr
        have hcv := conv_bytes (harr.rdB (n := s.size) (by rw [backTo_length]) (by simp only [maxLen]; omega))
        clear hk' hg
        go_wp2
        go_ret2
        exact ⟨ret2 (by rw [HF.out.1]; rfl) (by rw [HF.out.2]; rfl), hbel⟩

theorem back_valid (s : ByteArray) (q : Nat) (w : World) (hs : s.size ≤ 1000000000) (hq : q < s.size) :
    Calls Tryz.prog 64 #[.string s, .int .i64 (q : Int)] w fun e w' =>
      e = .returned (.tuple #[.string (mkS (back s.data.toList q)), .int .i64 0]) ∧ Below w.heap.size w w' :=
  (back_any s q w hs (by omega) (by omega)).mono fun e w' ⟨h1, h2⟩ => by
    have hok : backOk s.data.toList (q : Int) = true := by
      have : s.data.toList.length = s.size := by simp
      simp only [backOk, this, Bool.and_eq_true, decide_eq_true_eq]; omega
    rw [backText, backErr, if_pos hok, if_pos hok] at h1
    exact ⟨h1, h2⟩

end Go.Proofs.YthjmpiekjfnoiaaGreatDoor

/-
  The walk of the document's own Back.
-/
namespace Go.Proofs.YthjmpiekjfnoiaaGreatDoor
open Go.RowKit

set_option maxRecDepth 100000 in
set_option maxHeartbeats 800000 in
theorem refBack_any (s : ByteArray) (o : Int) (w : World) (hs : s.size ≤ 1000000000) (ho1 : -9223372036854775808 ≤ o) (ho2 : o ≤ 9223372036854775807) :
    Calls Tryz.prog 45 #[.string s, .int .i64 o] w fun e w' =>
      e = .returned (.tuple #[.string (mkS (backText s.data.toList o)), .int .i64 (backErr s.data.toList o)]) ∧ Below w.heap.size w w' := by
  have hl0 : s.data.toList.length = s.size := by simp
  have HL := hid hl0
  by_cases hok : backOk s.data.toList o = true
  case neg =>
    have h0 : backOk s.data.toList o = false := by simpa using hok
    have hfin : backText s.data.toList o = [] ∧ backErr s.data.toList o = 1 := by simp [backText, backErr, h0]
    have HF := hid hfin
    unfold backOk at h0
    rw [hl0] at h0
    clear hfin hok hl0
    by_cases hneg : o < 0
    · clear h0
      have hd : decide (o < 0) = true := by simpa using hneg
      go_enter Tryz.func45, Tryz.ntmps45
      go_wp2
      go_ret2
      exact ⟨ret2 (by rw [HF.out.1]; rfl) (by rw [HF.out.2]; rfl), Below.refl _ _⟩
    · have h1 : (max (s.size : Int) 1) ≤ o := by simp at h0; omega
      have hd : decide (o < 0) = false := by simpa using hneg
      have hd2 : decide (0 < o) = true := by simp; omega
      have hd3 : decide ((s.size : Int) ≤ o) = true := by simp; omega
      clear h0
      go_enter Tryz.func45, Tryz.ntmps45
      go_wp2
      go_ret2
      exact ⟨ret2 (by rw [HF.out.1]; rfl) (by rw [HF.out.2]; rfl), Below.refl _ _⟩
  case pos =>
    have h0 := hok
    unfold backOk at h0
    rw [hl0] at h0
    have h1 : 0 ≤ o ∧ o < max (s.size : Int) 1 := by simpa using h0
    obtain ⟨n, rfl⟩ := Int.eq_ofNat_of_zero_le h1.1
    have hfin : backText s.data.toList n = backTo s.data.toList n s.size ∧ backErr s.data.toList n = 0 := by
      simp [backText, backErr, hok, back_eq]
    have HF := hid hfin
    have hlt : n < s.size ∨ (s.size = 0 ∧ n = 0) := by omega
    clear hfin hok hl0 h0 h1 ho1 ho2
    have hd : decide ((n : Int) < 0) = false := by simp
    have HN := hid (show 0 < s.size → n < s.size from fun h => by omega)
    have hg : (decide (0 < n) = true ∧ decide (s.size ≤ n) = false) ∨ decide (0 < n) = false := by
      rcases Nat.eq_zero_or_pos n with h | h
      · right; simp; omega
      · left; simp; omega
    clear hlt
    rcases hg with ⟨hg1, hg2⟩ | hg1
    all_goals
      go_enter Tryz.func45, Tryz.ntmps45
      go_wp2_with fail
      refine (refVector_any s _ hs).mono ?_
      rintro e w1 ⟨v, rfl, hv, hB⟩
      obtain ⟨va, vc, rfl, hvc, hvm, hvA⟩ := hv.rd.open
      rw [vecI_length, HL.out] at hvA hvc ⊢
      simp only [maxLen] at hvm
      clear hv
      go_wp2
      go_loopg [7, 8, 9] s.size (fun g out at_ i wr => ∃ k : Nat, k ≤ s.size ∧ g = s.size - k ∧ i = .int .i64 k ∧ at_ = .int .i64 ((walkN s.data.toList k n : Nat) : Int) ∧ out = .string (mkS (backTo s.data.toList n k)) ∧ Below w.heap.size w wr ∧ Below w1.heap.size w1 wr)
      case atStart =>
        exact ⟨0, Nat.zero_le _, rfl, rfl, rfl, rfl, hB, Below.refl _ _⟩
      case round =>
        obtain ⟨k, hk, hg, rfl, rfl, rfl, hbel, hbel1⟩ := hrel
        by_cases hlk : k < s.size
        · have hn := HN.out (by omega)
          have hat := walkN_lt s.data.toList n (by rw [HL.out]; exact hn) k
          have hat1 := walkN_lt s.data.toList n (by rw [HL.out]; exact hn) (k + 1)
          rw [HL.out] at hat hat1
          obtain ⟨b1, o1, rfl, hb1, hc1⟩ := hvA (by omega)
          have c1 : wr.cell? ⟨b1, o1 + walkN s.data.toList k n, none⟩ = some (.int .i64 ((walkN s.data.toList (k + 1) n : Nat) : Int)) := by
            rw [hbel1.cell (p := ⟨b1, o1 + walkN s.data.toList k n, none⟩) hb1]
            exact hc1 _ _ (vecI_get _ _ (by rw [HL.out]; exact hat))
          have HG := hid hg
          have hbl : (backTo s.data.toList n k).length ≤ 1000000000 := by rw [backTo_length]; omega
          clear hvA hc1 hg
          go_wp2
          have hg := HG.out
          go_roundg (s.size - (k + 1))
          case measure => omega
          case rel => exact ⟨k + 1, by omega, rfl, by go_num, rfl, congrArg Value.string (by rw [ext_one s _ hat1, mkS_append, ← backTo_succ]), hbel, hbel1⟩
        · have hk' : k = s.size := by omega
          have HK := hid hk'
          clear hk' hg
          go_wp2
          go_ret2
          exact ⟨ret2 (by rw [HF.out.1, ← HK.out]; rfl) (by rw [HF.out.2]; rfl), hbel⟩

end Go.Proofs.YthjmpiekjfnoiaaGreatDoor

/-
  The walk of the document's chapter 15: Restore.
-/
namespace Go.Proofs.YthjmpiekjfnoiaaGreatDoor
open Go.RowKit

def zexL (l : List Int) : List Int := zexp (l.take (l.length - 1))
/-- What a squeezed text is restored to, and the error. -/
def rest (a : ByteArray) (o : Int) (l : List Int) (most : Int) : ByteArray × Int :=
  if ¬ (a.data.toList ≠ [] ∧ alph a.data.toList = a.data.toList) then (emptyS, 1)
  else if ¬ mayP l ((a.size : Int) + 1) then (emptyS, 3)
  else if ¬ ((zexL l).length : Int) ≤ most then (emptyS, 4)
  else if ¬ (0 ≤ o ∧ o < ((zexL l).length : Int)) then (emptyS, 3)
  else (mkS (back (unL a.data.toList (zexL l)) o.toNat), 0)

theorem rest_arg {a : ByteArray} {o : Int} {l : List Int} {most : Int} (h : ¬ (a.data.toList ≠ [] ∧ alph a.data.toList = a.data.toList)) : rest a o l most = (emptyS, 1) := if_pos h
theorem rest_form {a : ByteArray} {o : Int} {l : List Int} {most : Int} (h : a.data.toList ≠ [] ∧ alph a.data.toList = a.data.toList) (h2 : ¬ mayP l ((a.size : Int) + 1)) : rest a o l most = (emptyS, 3) := by
  unfold rest; rw [if_neg (fun k => k h), if_pos h2]
theorem rest_long {a : ByteArray} {o : Int} {l : List Int} {most : Int} (h : a.data.toList ≠ [] ∧ alph a.data.toList = a.data.toList) (h2 : mayP l ((a.size : Int) + 1)) (h3 : ¬ ((zexL l).length : Int) ≤ most) : rest a o l most = (emptyS, 4) := by
  unfold rest; rw [if_neg (fun k => k h), if_neg (fun k => k h2), if_pos h3]
theorem rest_orig {a : ByteArray} {o : Int} {l : List Int} {most : Int} (h : a.data.toList ≠ [] ∧ alph a.data.toList = a.data.toList) (h2 : mayP l ((a.size : Int) + 1)) (h3 : ((zexL l).length : Int) ≤ most) (h4 : ¬ (0 ≤ o ∧ o < ((zexL l).length : Int))) : rest a o l most = (emptyS, 3) := by
  unfold rest; rw [if_neg (fun k => k h), if_neg (fun k => k h2), if_neg (fun k => k h3), if_pos h4]
theorem rest_ok {a : ByteArray} {o : Int} {l : List Int} {most : Int} (h : a.data.toList ≠ [] ∧ alph a.data.toList = a.data.toList) (h2 : mayP l ((a.size : Int) + 1)) (h3 : ((zexL l).length : Int) ≤ most) (h4 : 0 ≤ o ∧ o < ((zexL l).length : Int)) : rest a o l most = (mkS (back (unL a.data.toList (zexL l)) o.toNat), 0) := by
  unfold rest; rw [if_neg (fun k => k h), if_neg (fun k => k h2), if_neg (fun k => k h3), if_neg (fun k => k h4)]

theorem zx_mem : ∀ (m : List Int) (n p : Nat), ∀ y ∈ zx n p m, y = 0 ∨ ∃ x ∈ m, 2 ≤ x ∧ y = x - 1 := by
  intro m
  induction m with
  | nil => intro n p y hy; exact .inl (List.eq_of_mem_replicate hy)
  | cons x m ih =>
    intro n p y hy
    unfold zx at hy
    by_cases h : x < 2
    · rw [if_pos h] at hy
      rcases ih _ _ y hy with q | ⟨z, hz, q⟩
      · exact .inl q
      · exact .inr ⟨z, List.mem_cons_of_mem _ hz, q⟩
    · rw [if_neg h, List.mem_append, List.mem_cons] at hy
      rcases hy with hy | rfl | hy
      · exact .inl (List.eq_of_mem_replicate hy)
      · exact .inr ⟨x, by simp, by omega, rfl⟩
      · rcases ih _ _ y hy with q | ⟨z, hz, q⟩
        · exact .inl q
        · exact .inr ⟨z, List.mem_cons_of_mem _ hz, q⟩
theorem zexL_range {l : List Int} {n : Nat} (h : mayP l ((n : Int) + 1)) (hn : 0 < n) : ∀ y ∈ zexL l, 0 ≤ y ∧ y < (n : Int) := fun y hy => by
  rcases zx_mem _ _ _ y hy with q | ⟨x, hx, h2, q⟩
  · omega
  · have := h.2.2 x hx; omega

theorem open2 {w : World} {ad : Option Addr} {n ca : Nat} {l : List Int} (h : RdI w (.slice ad n ca) l) (h0 : 0 < l.length) : ∃ b off, ad = some ⟨b, off, none⟩ ∧ b < w.heap.size ∧ ∀ j x, l[j]? = some x → w.cell? ⟨b, off + j, none⟩ = some (.int .i64 x) := by
  obtain ⟨a, c, e, _, _, hA⟩ := h.open
  obtain ⟨b, off, rfl, q⟩ := hA h0
  exact ⟨b, off, by injection e, q⟩

theorem takeS {w : World} {b off ca : Nat} {l : List Int} (hb : b < w.heap.size) (hc : ∀ j x, l[j]? = some x → w.cell? ⟨b, off + j, none⟩ = some (.int .i64 x)) (k : Nat) (hk : k ≤ l.length) (hca : l.length ≤ ca) (hma : ca ≤ maxLen) : RdI w (.slice (some ⟨b, off, none⟩) k ca) (l.take k) := by
  have hl : (l.take k).length = k := by rw [List.length_take]; omega
  refine ⟨_, _, by rw [hl], by rw [hl]; omega, hma, .inr ⟨b, off, rfl, hb, fun j hj => ?_⟩⟩
  rw [List.length_map] at hj
  have hj' : j < l.length := by omega
  rw [hc j _ (List.getElem?_eq_getElem hj')]
  simp [List.getD, hj', show j < k by omega]

theorem str_nil {s : ByteArray} (h : s.data.toList = []) : s.toList.isEmpty = true := by
  rw [Lib.toList_data, h]; rfl
theorem str_some {s : ByteArray} (h : s.data.toList ≠ []) : s.toList.isEmpty = false := by
  rw [Lib.toList_data]
  cases e : s.data.toList with
  | nil => exact absurd e h
  | cons b l => rfl

set_option maxRecDepth 100000 in
set_option maxHeartbeats 1600000 in
theorem refRestore_any (a : ByteArray) (o : Int) (v : Value) (l : List Int) (most : Int) (w : World) (ha : a.size ≤ 140737488355328) (hr : RdI w v l) (hl : l.length ≤ 100000) (ho1 : -9223372036854775808 ≤ o) (ho2 : o ≤ 9223372036854775807) (hm1 : -9223372036854775808 ≤ most) (hm2 : most ≤ 1000000) :
    Calls Tryz.prog 19 #[.agg #[.string a, .int .i64 o, v], .int .i64 most] w fun e w' => e = .returned (.tuple #[.string (rest a o l most).1, .int .i64 (rest a o l most).2]) ∧ Below w.heap.size w w' := by
  obtain ⟨ad, ca, rfl, hca, hma, hA⟩ := hr.open
  have hma0 := hma
  unfold maxLen at hma
  have harr := Arr.new w 25 [.string a, .int .i64 o, .slice ad l.length ca]
  have c0 := harr.cell (i := 0) rfl
  have c1 := harr.cell (i := 1) rfl
  have c2 := harr.cell (i := 2) rfl
  have hb0 := (Below.refl w.heap.size w).alloc (Nat.le_refl _) (.cells #[.string a, .int .i64 o, .slice ad l.length ca] 25)
  have hz1 : (w.alloc (.cells #[.string a, .int .i64 o, .slice ad l.length ca] 25)).heap.size = w.heap.size + 1 := by simp
  have hr1 := hr.below hb0
  by_cases hne : a.data.toList = []
  · have hE : rest a o l most = (emptyS, 1) := rest_arg (fun h => h.1 hne)
    rw [hE]
    have t1 := str_nil hne
    go_enter Tryz.func19, Tryz.ntmps19
    go_wp2_with fail
    go_quiet (fail)
    go_wp2_with fail
    go_ret2
    exact ⟨rfl, bDrewN hb0 _⟩
  have t1 := str_some hne
  by_cases hal : alph a.data.toList = a.data.toList
  · have HE0 := hid (And.intro hne hal)
    have t2 : ((mkS (alph a.data.toList)).toList == a.toList) = true := by rw [hal, mkS_of]; simp
    have hla : a.data.toList.length = a.size := by simp
    have hasz : a.size ≤ 256 := by rw [← hla, ← hal]; exact alph_le _
    have hapos : 0 < a.size := by
      rw [← hla]; exact List.length_pos_iff.2 hne
    have hnd : a.data.toList.Nodup := by rw [← hal]; exact alph_nodup _
    have HLA := hid hla
    have HAL := hid hal
    clear hla hal
    have q1 : IntKind.i64.wrap ((a.size : Int) + 1) = (a.size : Int) + 1 := by rw [IntKind.wrap_i64]; omega
    go_enter Tryz.func19, Tryz.ntmps19
    go_upto_region 1 with fail
    change Arr (w.alloc (.cells #[.string a, .int .i64 o, .slice ad l.length ca] 25)) _ _ _ at harr
    generalize w.alloc (.cells #[.string a, .int .i64 o, .slice ad l.length ca] 25) = wa at *
    go_cut [23] (fun s23 wx => s23 = .bool false ∧ Below w.heap.size w wx ∧ Arr wx w.heap.size 25 [.string a, .int .i64 o, .slice ad l.length ca])
    case first =>
      rw [HAL.out] at t2
      go_region_with (go_at_call 28; refine (refAlphabet_any a _ ha).mono ?_; rintro e w1 ⟨rfl, hb⟩; rw [HAL.out]; have k0 : Arr w1 w.heap.size 25 [.string a, .int .i64 o, .slice ad l.length ca] := by { first | exact Arr.below harr hb (by omega) | exact Arr.below (w := wa.drew) harr hb (by show w.heap.size < wa.heap.size; omega) }; have k1 := k0.cell (i := 0) rfl)
      all_goals go_wp2_with fail
      all_goals go_meet
      all_goals exact ⟨rfl, hb0.trans (by first | exact hb.mono (by omega) | exact (Below.refl _ _).drew.trans (hb.mono (by show w.heap.size ≤ wa.heap.size; omega))), k0⟩
    case rest =>
      obtain ⟨rfl, hbx, hax⟩ := hcut
      clear c0 c1 c2 harr hr1 hb0 hz1
      have c0 := hax.cell (i := 0) rfl
      have c1 := hax.cell (i := 1) rfl
      have c2 := hax.cell (i := 2) rfl
      have hzx := hax.lt
      have hrx := hr.below hbx
      go_wp2_with fail
      refine (may_any _ l ((a.size : Int) + 1) _ hrx).mono ?_
      rintro e w1 ⟨rfl, rfl⟩
      by_cases hmay : mayP l ((a.size : Int) + 1)
      · rw [decide_eq_true hmay]
        obtain ⟨m, hm⟩ : ∃ m, l.length = m + 1 := ⟨l.length - 1, by have := hmay.1; omega⟩
        obtain ⟨b0, o0, rfl, hb0', hc0⟩ := open2 hrx (by omega)
        have hzr := zexL_range hmay hapos
        have hrm := takeS hb0' hc0 m (by omega) hca hma0
        have hrng : ∀ x ∈ l.take m, 0 ≤ x ∧ x ≤ 1000000 := fun x hx => by
          have := hmay.2.2 x (by rw [hm, Nat.add_sub_cancel]; exact hx)
          omega
        have hzl : zexL l = zexp (l.take m) := by unfold zexL; rw [hm, Nat.add_sub_cancel]
        have hlm : (l.take m).length = m := by rw [List.length_take]; omega
        have hD := refDecode_any _ (l.take m) most w1 hrm (by omega) hrng hm1 hm2
        have HD := hid hD
        have HZR := hid hzr
        have HZL := hid hzl
        have HM := hid hm
        have r1 : IntKind.i64.wrap ((l.length : Int) - 1) = (m : Int) := by rw [IntKind.wrap_i64]; omega
        have r2 : m ≤ ca := by omega
        have r3 : (m : Int) ≤ (ca : Int) := by omega
        have r4 : (0 : Int) ≤ (m : Int) := by omega
        clear hD hzr hzl hm hrm hrng hc0 hA hlm
        go_wp2_with fail
        refine HD.out.mono ?_
        rintro e w2 ⟨v2, rfl, hown2, hb2⟩
        have hb02 := hbx.trans (hb2.mono (by omega))
        have y1 := hax.below hb2 hzx
        have d0 := y1.cell (i := 0) rfl
        have d1 := y1.cell (i := 1) rfl
        by_cases hlo : ((zexL l).length : Int) ≤ most
        · have hyes := decYes (m := l.take m) (by rw [← HZL.out]; exact hlo)
          rw [hyes.2]
          rw [hyes.1, ← HZL.out] at hown2
          obtain ⟨M, hMM⟩ : ∃ M, M = zexL l := ⟨_, rfl⟩
          rw [← hMM] at hown2 HZR
          by_cases hor : 0 ≤ o ∧ o < ((zexL l).length : Int)
          · have hE := hid (rest_ok HE0.out hmay hlo hor)
            have hor2 : 0 ≤ o ∧ o < (M.length : Int) := by rw [hMM]; exact hor
            have hM6 : M.length ≤ 1000000 := by rw [hMM]; omega
            have hBK := hid (refBack5_any a v2 M w2 (by omega) hM6 hnd hown2.rd HZR.out)
            have hUl : (unL a.data.toList M).length = M.length := unL_length _ _
            have hbt : backText (unL a.data.toList M) o = back (unL a.data.toList M) o.toNat := by
              unfold backText
              rw [if_pos (by unfold backOk; rw [hUl]; simp; omega)]
            have HBT := hid hbt
            rw [← hMM] at hE
            obtain ⟨S, hS⟩ : ∃ S, S = mkS (unL a.data.toList M) := ⟨_, rfl⟩
            have hSs : S.size = M.length := by rw [hS, mkS_size, hUl]
            rw [← hS] at hBK
            have HS := hid hS
            clear hor hlo hyes hMM hbt hUl hS
            obtain ⟨a2, c2', rfl, _, _, _⟩ := hown2.rd.open
            have s2 : ((M.length : Int) == 0) = false := by rw [beq_eq_false_iff_ne]; omega
            have s3 : decide (o < 0) = false := decide_eq_false (by omega)
            have s4 : decide ((M.length : Int) ≤ o) = false := decide_eq_false (by omega)
            go_wp2_with fail
            refine hBK.out.mono ?_
            rintro e w3 ⟨rfl, hb3⟩
            have hb03 := hb02.trans (hb3.mono hb02.size)
            have y3 := y1.below hb3 (Nat.lt_of_lt_of_le hzx hb2.size)
            have d3 := y3.cell (i := 1) rfl
            go_wp2_with fail
            refine (refBack_any S o w3 (by omega) ho1 ho2).mono ?_
            rintro e w4 ⟨rfl, hb4⟩
            go_wp2_with fail
            go_ret2
            refine ⟨?_, hb03.trans (hb4.mono hb03.size)⟩
            rw [hE.out, ← HBT.out, HS.out]; rfl
          · have hE := hid (rest_orig HE0.out hmay hlo hor)
            have hor2 : ¬ (0 ≤ o ∧ o < (M.length : Int)) := by rw [hMM]; exact hor
            clear hor hlo hyes hMM
            obtain ⟨a2, c2', rfl, _, _, _⟩ := hown2.rd.open
            by_cases hM0 : M.length = 0
            · have s1 : decide (M.length = 0) = true := decide_eq_true hM0
              have s2 : ((M.length : Int) == 0) = true := by rw [beq_iff_eq]; omega
              go_wp2_with fail
              go_ret2
              exact ⟨by rw [hE.out]; rfl, hb02⟩
            · have s2 : ((M.length : Int) == 0) = false := by rw [beq_eq_false_iff_ne]; omega
              by_cases ho : o < 0
              · have s3 : decide (o < 0) = true := decide_eq_true ho
                go_wp2_with fail
                go_ret2
                exact ⟨by rw [hE.out]; rfl, hb02⟩
              · have s3 : decide (o < 0) = false := decide_eq_false ho
                have s4 : decide ((M.length : Int) ≤ o) = true := decide_eq_true (by omega)
                go_wp2_with fail
                go_ret2
                exact ⟨by rw [hE.out]; rfl, hb02⟩
        · have hno := decNo (m := l.take m) (by rw [← HZL.out]; exact hlo)
          have hE := hid (rest_long (o := o) HE0.out hmay hlo)
          rw [hno.2]
          clear hno hlo
          obtain ⟨a2, c2', rfl, _, _, _⟩ := hown2.rd.open
          go_wp2_with fail
          go_ret2
          exact ⟨by rw [hE.out]; rfl, hb02⟩
      · rw [decide_eq_false hmay]
        have hE := rest_form (o := o) (most := most) HE0.out hmay
        go_wp2_with fail
        go_ret2
        exact ⟨by rw [hE]; rfl, hbx⟩
  · have hE : rest a o l most = (emptyS, 1) := rest_arg (fun h => hal h.2)
    rw [hE]
    have t2 : ((mkS (alph a.data.toList)).toList == a.toList) = false := str_ne (fun e => hal (by have := congrArg (fun s => s.data.toList) e; simpa using this))
    go_enter Tryz.func19, Tryz.ntmps19
    go_upto_region 1 with fail
    change Arr (w.alloc (.cells #[.string a, .int .i64 o, .slice ad l.length ca] 25)) _ _ _ at harr
    generalize w.alloc (.cells #[.string a, .int .i64 o, .slice ad l.length ca] 25) = wa at *
    go_cut [23] (fun s23 wx => s23 = .bool true ∧ Below w.heap.size w wx)
    case first =>
      go_region_with (go_at_call 28; refine (refAlphabet_any a _ ha).mono ?_; rintro e w1 ⟨rfl, hb⟩; have k0 : Arr w1 w.heap.size 25 [.string a, .int .i64 o, .slice ad l.length ca] := by { first | exact Arr.below harr hb (by omega) | exact Arr.below (w := wa.drew) harr hb (by show w.heap.size < wa.heap.size; omega) }; have k1 := k0.cell (i := 0) rfl)
      all_goals go_wp2_with fail
      all_goals go_meet
      all_goals exact ⟨rfl, hb0.trans (by first | exact hb.mono (by omega) | exact (Below.refl _ _).drew.trans (hb.mono (by show w.heap.size ≤ wa.heap.size; omega)))⟩
    case rest =>
      obtain ⟨rfl, hbx⟩ := hcut
      go_wp2_with fail
      go_ret2
      exact ⟨rfl, hbx⟩

end Go.Proofs.YthjmpiekjfnoiaaGreatDoor

/-
  The walks of the program's chapter 15: the steps of Restore.
-/
namespace Go.Proofs.YthjmpiekjfnoiaaGreatDoor
open Go.RowKit

theorem keepL {W w w' : World} {wb : Nat} {x : Value} (h : w.cell? ⟨wb, 0, none⟩ = some x ∧ Below W.heap.size W w) (hl : wb < W.heap.size) (hb : Below w.heap.size w w') : w'.cell? ⟨wb, 0, none⟩ = some x ∧ Below W.heap.size W w' :=
  ⟨by rw [hb.cell (p := ⟨wb, 0, none⟩) (Nat.lt_of_lt_of_le hl h.2.size)]; exact h.1, h.2.trans (hb.mono h.2.size)⟩
theorem startL {w : World} {wb : Nat} {x : Value} (h : w.cell? ⟨wb, 0, none⟩ = some x) : w.drew.cell? ⟨wb, 0, none⟩ = some x ∧ Below w.heap.size w w.drew := ⟨h, (Below.refl _ _).drew⟩

set_option maxRecDepth 100000 in
set_option maxHeartbeats 1600000 in
theorem letters_any (wb : Nat) (a : ByteArray) (o most : Int) (v lv : Value) (b : ByteArray) (w : World) (ha : a.size ≤ 140737488355328) (harr : Arr w wb 57 [.string a, .int .i64 o, v, .int .i64 most, lv, .string b]) :
    Calls Tryz.prog 34 #[.pointer (some ⟨wb, 0, none⟩)] w fun e w' => e = .returned (.int .i64 (if a.data.toList ≠ [] ∧ alph a.data.toList = a.data.toList then 0 else 1)) ∧ Below w.heap.size w w' := by
  have c0 := harr.cell (i := 0) rfl
  have hlt := harr.lt
  by_cases hne : a.data.toList = []
  · have t1 := str_nil hne
    rw [if_neg (fun h => h.1 hne)]
    go_enter Tryz.func34, Tryz.ntmps34
    go_wp2_with fail
    go_quiet (fail)
    go_wp2_with fail
    go_ret
    exact ⟨rfl, bDrewN (Below.refl _ _) _⟩
  have t1 := str_some hne
  by_cases hal : alph a.data.toList = a.data.toList
  · rw [if_pos ⟨hne, hal⟩]
    have t2 : (a.toList == a.toList) = true := by simp
    have HAL := hid hal
    clear hal
    go_enter Tryz.func34, Tryz.ntmps34
    go_upto_region 1 with fail
    go_cut [22] (fun s22 wx => s22 = .bool false ∧ Below w.heap.size w wx)
    case first =>
      go_region_held3 (fun w' => w'.cell? ⟨wb, 0, none⟩ = some (.string a) ∧ Below w.heap.size w w')
        (first
          | with_reducible assumption
          | with_reducible exact startL c0
          | with_reducible exact keepL (by assumption) hlt (by assumption))
        (first
          | (go_at_call 21; refine (alphabet_any a _ ha).mono ?_; rintro e w1 ⟨rfl, hb⟩; rw [HAL.out, mkS_of]))
      all_goals go_wp2_with fail
      all_goals go_meet
      all_goals exact ⟨rfl, And.right (show w1.cell? ⟨wb, 0, none⟩ = some (.string a) ∧ Below w.heap.size w w1 by assumption)⟩
    case rest =>
      obtain ⟨rfl, hbx⟩ := hcut
      go_wp2_with fail
      go_ret
      exact ⟨rfl, hbx⟩
  · rw [if_neg (fun h => hal h.2)]
    have t2 : ((mkS (alph a.data.toList)).toList == a.toList) = false := str_ne (fun e => hal (by have := congrArg (fun s => s.data.toList) e; simpa using this))
    go_enter Tryz.func34, Tryz.ntmps34
    go_upto_region 1 with fail
    go_cut [22] (fun s22 wx => s22 = .bool true ∧ Below w.heap.size w wx)
    case first =>
      go_region_held3 (fun w' => w'.cell? ⟨wb, 0, none⟩ = some (.string a) ∧ Below w.heap.size w w')
        (first
          | with_reducible assumption
          | with_reducible exact startL c0
          | with_reducible exact keepL (by assumption) hlt (by assumption))
        (first
          | (go_at_call 21; refine (alphabet_any a _ ha).mono ?_; rintro e w1 ⟨rfl, hb⟩))
      all_goals go_wp2_with fail
      all_goals go_meet
      all_goals exact ⟨rfl, And.right (show w1.cell? ⟨wb, 0, none⟩ = some (.string a) ∧ Below w.heap.size w w1 by assumption)⟩
    case rest =>
      obtain ⟨rfl, hbx⟩ := hcut
      go_wp2_with fail
      go_ret
      exact ⟨rfl, hbx⟩

end Go.Proofs.YthjmpiekjfnoiaaGreatDoor
