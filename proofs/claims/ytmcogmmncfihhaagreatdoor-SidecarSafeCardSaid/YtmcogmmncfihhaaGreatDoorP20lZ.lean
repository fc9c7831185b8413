/-
  The walk of the document's sidecar (chapter 20): Text.
-/
import Derived.Test.YtmcogmmncfihhaaGreatDoorP20kZ
import Derived.Test.YtmcogmmncfihhaaGreatDoorP20iZ
set_option linter.unusedVariables false
set_option linter.unusedSimpArgs false
namespace Go.Proofs.YtmcogmmncfihhaaGreatDoor
open Go.RowKit Go Go.Shelf

theorem kpC20 {w1 w2 w0 : World} {B z : Nat} {x0 x1 x2 x3 x4 : Value} (h : w1.cell? ⟨z, 0, none⟩ = some x0 ∧ w1.cell? ⟨z, 1, none⟩ = some x1 ∧ w1.cell? ⟨z, 2, none⟩ = some x2 ∧ w1.cell? ⟨z, 3, none⟩ = some x3 ∧ w1.cell? ⟨z, 4, none⟩ = some x4 ∧ Below B w0 w1 ∧ B ≤ w1.heap.size) (hb : Below w1.heap.size w1 w2) :
    w2.cell? ⟨z, 0, none⟩ = some x0 ∧ w2.cell? ⟨z, 1, none⟩ = some x1 ∧ w2.cell? ⟨z, 2, none⟩ = some x2 ∧ w2.cell? ⟨z, 3, none⟩ = some x3 ∧ w2.cell? ⟨z, 4, none⟩ = some x4 ∧ Below B w0 w2 ∧ B ≤ w2.heap.size := by
  obtain ⟨c0, c1, c2, c3, c4, h5, h6⟩ := h
  have k : ∀ {p : Addr} {v : Value}, w1.cell? p = some v → w2.cell? p = some v := fun h => (hb.cell (World.block_lt_of_cell? w1 _ h)).trans h
  exact ⟨k c0, k c1, k c2, k c3, k c4, h5.trans (hb.mono h6), Nat.le_trans h6 hb.size⟩
theorem u64_of (x : Int) : ∃ A : Nat, A < 18446744073709551616 ∧ IntKind.u64.wrap x = (A : Int) ∧ x % 18446744073709551616 = (A : Int) :=
  ⟨(x % 18446744073709551616).toNat, by omega, by rw [IntKind.wrap_u64]; omega, by omega⟩

theorem refnumI20 (V n : Nat) (m : Int) (hm : m = (n : Int)) (w : World) (hV : V < 18446744073709551616) (hn : n ≤ 8) :
    Calls Tryz.prog 34 #[.int .u64 (V : Int), .int .i64 m] w fun e w' => ∃ s : ByteArray, e = .returned (.string s) ∧ s.size = n ∧ Below w.heap.size w w' := by
  subst hm
  exact refnum20_any V n w hV hn

set_option maxRecDepth 100000 in
set_option maxHeartbeats 6400000 in
theorem text20_any (size C : Nat) (v : Value) (l : List Ent) (w : World) (hr : RdR w v (l.map LF)) (hl : l.length ≤ 1000) (hs : size < 9223372036854775808) (hC : C < 4294967296) :
    Calls Tryz.prog 17 #[.int .i64 (size : Int), .int .u32 (C : Int), v] w fun e w' => ∃ s : ByteArray, e = .returned (.string s) ∧ s.size ≤ 30000 ∧ Below w.heap.size w w' := by
  obtain ⟨a, ca, rfl, hca, hma, hA⟩ := aWp hr
  unfold maxLen at hma
  have m1 : IntKind.u64.wrap (size : Int) = (size : Int) := by rw [IntKind.wrap_u64]; omega
  have m1' : (size : Int) % 18446744073709551616 = (size : Int) := by omega
  have m2 : IntKind.u64.wrap (C : Int) = (C : Int) := by rw [IntKind.wrap_u64]; omega
  have m2' : (C : Int) % 18446744073709551616 = (C : Int) := by omega
  have m3 : IntKind.u64.wrap (l.length : Int) = (l.length : Int) := by rw [IntKind.wrap_u64]; omega
  have m3' : (l.length : Int) % 18446744073709551616 = (l.length : Int) := by omega
  have hn1 := fun W => refnum20_any size 8 W (by omega) (by decide)
  have hn2 := fun W => refnum20_any C 4 W (by omega) (by decide)
  have hn3 := fun W => refnum20_any l.length 4 W (by omega) (by decide)
  obtain ⟨H, hH⟩ : ∃ H : ByteArray, H = ⟨#[80, 77, 105, 49]⟩ := ⟨_, rfl⟩
  have hHs : H.size = 4 := by rw [hH]; rfl
  have HH := hid hH.symm
  clear hr hH
  go_enter Tryz.func17, Tryz.ntmps17
  go_wp2_with fail
  refine (hn1 _).mono ?_
  rintro e w1 ⟨s1, rfl, hs1, h1⟩
  have q1 : ¬ 9223372036854775807 < 4 + s1.size := by omega
  clear hn1
  go_wp2_with fail
  refine (hn2 _).mono ?_
  rintro e w2 ⟨s2, rfl, hs2, h2⟩
  have h02 := bV h1 h2
  have q2 : ¬ 9223372036854775807 < 4 + s1.size + s2.size := by omega
  clear hn2 h1 h2
  go_wp2_with fail
  refine (hn3 _).mono ?_
  rintro e w3 ⟨s3, rfl, hs3, h3⟩
  have h03 := bV h02 h3
  have q3 : ¬ 9223372036854775807 < 4 + s1.size + s2.size + s3.size := by omega
  obtain ⟨T0, hT0⟩ : ∃ T0, T0 = H ++ s1 ++ s2 ++ s3 := ⟨_, rfl⟩
  have HT0 := hid (show T0.size = 20 by rw [hT0]; simp only [ByteArray.size_append]; omega)
  clear hn3 h02 h3
  go_wp2_with fail
  rw [HH.out, ← hT0]
  clear hT0 q1 q2 q3 hs1 hs2 hs3 HH hHs
  go_loopg [7, 8, 9] l.length (fun g s7 s8 _s9 wr => ∃ (k : Nat) (T : ByteArray), k ≤ l.length ∧ g = l.length - k ∧ s8 = .int .i64 (k : Int) ∧ s7 = .string T ∧ Hid (T.size = 20 + 26 * k) ∧ Below w.heap.size w wr)
  case atStart => exact ⟨0, T0, Nat.zero_le _, rfl, rfl, rfl, HT0, h03⟩
  case round =>
    obtain ⟨k, T, hk, hg, rfl, rfl, HT, hbel⟩ := hrel
    have HG := hid hg
    clear hg h03
    by_cases hlt : k < l.length
    · have t1 : decide ((k : Int) < (l.length : Int)) = true := decide_eq_true (by omega)
      obtain ⟨b, off, rfl, hb, hc⟩ := hA (by omega)
      obtain ⟨x, hx⟩ : ∃ x, l[k]? = some x := ⟨_, List.getElem?_eq_getElem hlt⟩
      obtain ⟨x0, x1, x2, x3, x4⟩ := hc k x hx
      clear hc hx hA
      obtain ⟨xa, xr, xf, xn, xy⟩ := x
      have c0 := (hbel.cell (p := ⟨b, off + k * 5, none⟩) hb).trans x0
      have c1 := (hbel.cell (p := ⟨b, off + k * 5 + 1, none⟩) hb).trans x1
      have c2 := (hbel.cell (p := ⟨b, off + k * 5 + 2, none⟩) hb).trans x2
      have c3 := (hbel.cell (p := ⟨b, off + k * 5 + 3, none⟩) hb).trans x3
      have c4 := (hbel.cell (p := ⟨b, off + k * 5 + 4, none⟩) hb).trans x4
      dsimp only at c0 c1 c2 c3 c4
      clear x0 x1 x2 x3 x4
      obtain ⟨na, la, ea, ea'⟩ := u64_of xa
      obtain ⟨nr, lr, er, er'⟩ := u64_of xr
      obtain ⟨nf, lf, ef, ef'⟩ := u64_of xf
      obtain ⟨nn, ln, en, en'⟩ := u64_of xn
      obtain ⟨ny, ly, ey, ey'⟩ := u64_of xy
      have hnA := fun W => refnumI20 na 8 8 rfl W la (by decide)
      have hnR := fun W => refnumI20 nr 2 2 rfl W lr (by decide)
      have hnF := fun W => refnumI20 nf 8 8 rfl W lf (by decide)
      have hnN := fun W => refnumI20 nn 4 4 rfl W ln (by decide)
      have hnY := fun W => refnumI20 ny 4 4 rfl W ly (by decide)
      have hN := Arr.new wr 51 [.int .i64 xa, .int .i64 xr, .int .i64 xf, .int .i64 xn, .int .u32 xy]
      change Arr (wr.alloc (.cells #[.int .i64 xa, .int .i64 xr, .int .i64 xf, .int .i64 xn, .int .u32 xy] 51)) _ _ _ at hN
      have h1 := hbel.alloc hbel.size (.cells #[.int .i64 xa, .int .i64 xr, .int .i64 xf, .int .i64 xn, .int .u32 xy] 51)
      have hz1 := h1.size
      obtain ⟨Z, hZ⟩ : ∃ Z, Z = wr.heap.size := ⟨_, rfl⟩
      obtain ⟨B, hB⟩ : ∃ B, B = w.heap.size := ⟨_, rfl⟩
      rw [← hB] at h1 hz1
      clear la lr lf ln ly
      go_wp2_with fail
      rw [← hZ] at hN ⊢
      generalize wr.alloc (.cells #[.int .i64 xa, .int .i64 xr, .int .i64 xf, .int .i64 xn, .int .u32 xy] 51) = wa at *
      have d0 := hN.cell (i := 0) rfl
      have d1 := hN.cell (i := 1) rfl
      have d2 := hN.cell (i := 2) rfl
      have d3 := hN.cell (i := 3) rfl
      have d4 := hN.cell (i := 4) rfl
      have hT9 : T.size ≤ 30000 := by have := HT.out; omega
      have hS0 := kpC20 (w0 := w) (z := Z) ⟨d0, d1, d2, d3, d4, h1, hz1⟩ (Below.refl wa.heap.size wa).drew
      clear c0 c1 c2 c3 c4 hN h1 hz1 hZ hbel hb t1 d0 d1 d2 d3 d4
      go_region_held3 (fun wx => wx.cell? ⟨Z, 0, none⟩ = some (.int .i64 xa) ∧ wx.cell? ⟨Z, 1, none⟩ = some (.int .i64 xr) ∧ wx.cell? ⟨Z, 2, none⟩ = some (.int .i64 xf) ∧ wx.cell? ⟨Z, 3, none⟩ = some (.int .i64 xn) ∧ wx.cell? ⟨Z, 4, none⟩ = some (.int .u32 xy) ∧ Below B w wx ∧ B ≤ wx.heap.size)
        (first
          | with_reducible assumption
          | with_reducible exact kpC20 (by assumption) (by assumption))
        (first
          | (go_at_call 34; with_reducible refine (hnA _).mono ?_; rintro e w4 ⟨sa, rfl, hsa, h4⟩; replace hsa := hid hsa; have qa : ¬ 9223372036854775807 < T.size + sa.size := by have := hsa.out; clear m1 m1' m2 m2' m3 m3' ea ea' er er' ef ef' en en' ey ey'; omega)
          | (go_at_call 34; with_reducible refine (hnR _).mono ?_; rintro e w4 ⟨sr, rfl, hsr, h4⟩; replace hsr := hid hsr; have qr : ¬ 9223372036854775807 < T.size + sa.size + sr.size := by have := hsa.out; have := hsr.out; clear m1 m1' m2 m2' m3 m3' ea ea' er er' ef ef' en en' ey ey'; omega)
          | (go_at_call 34; with_reducible refine (hnF _).mono ?_; rintro e w4 ⟨sf, rfl, hsf, h4⟩; replace hsf := hid hsf; have qf : ¬ 9223372036854775807 < T.size + sa.size + sr.size + sf.size := by have := hsa.out; have := hsr.out; have := hsf.out; clear m1 m1' m2 m2' m3 m3' ea ea' er er' ef ef' en en' ey ey'; omega)
          | (go_at_call 34; with_reducible refine (hnN _).mono ?_; rintro e w4 ⟨sn, rfl, hsn, h4⟩; replace hsn := hid hsn; have qn : ¬ 9223372036854775807 < T.size + sa.size + sr.size + sf.size + sn.size := by have := hsa.out; have := hsr.out; have := hsf.out; have := hsn.out; clear m1 m1' m2 m2' m3 m3' ea ea' er er' ef ef' en en' ey ey'; omega)
          | (go_at_call 34; with_reducible refine (hnY _).mono ?_; rintro e w4 ⟨sy, rfl, hsy, h4⟩; replace hsy := hid hsy; have qy : ¬ 9223372036854775807 < T.size + sa.size + sr.size + sf.size + sn.size + sy.size := by have := hsa.out; have := hsr.out; have := hsf.out; have := hsn.out; have := hsy.out; clear m1 m1' m2 m2' m3 m3' ea ea' er er' ef ef' en en' ey ey'; omega))
      all_goals
        rename_i hfin
        obtain ⟨-, -, -, -, -, hf6, hf7⟩ := hfin
        obtain ⟨T', hT'⟩ : ∃ T', T' = T ++ sa ++ sr ++ sf ++ sn ++ sy := ⟨_, rfl⟩
        have HT2 := hid (show T'.size = 20 + 26 * (k + 1) by
          rw [hT']
          simp only [ByteArray.size_append]
          have := HT.out; have := hsa.out; have := hsr.out; have := hsf.out; have := hsn.out; have := hsy.out
          omega)
        rw [hB] at hf6
        rw [← hT']
        clear hT' qa qr qf qn qy hS0 hnA hnR hnF hnN hnY ea ea' er er' ef ef' en en' ey ey' m1 m1' m2 m2' m3 m3'
        go_wp2_with fail
        have hg := HG.out
        go_roundg (l.length - (k + 1))
        case measure => omega
        case rel => exact ⟨k + 1, T', by omega, rfl, by go_num, rfl, HT2, hf6⟩
    · have t1 : decide ((k : Int) < (l.length : Int)) = false := decide_eq_false (by omega)
      have hke : k = l.length := by omega
      have hTl : T.size ≤ 30000 := by have := HT.out; omega
      clear HG hA
      go_wp2_with fail
      go_ret
      exact ⟨_, rfl, hTl, hbel⟩

end Go.Proofs.YtmcogmmncfihhaaGreatDoor
