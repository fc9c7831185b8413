/-
  The walks of sidecars (chapter 20): Save.
-/
import Derived.Test.YtmcogmmncfihhaaGreatDoorP20Z
import Derived.Test.YtmcogmmncfihhaaGreatDoorM20bZ
import Derived.Test.YtmcogmmncfihhaaGreatDoorZ5
set_option linter.unusedVariables false
set_option linter.unusedSimpArgs false
namespace Go.Proofs.YtmcogmmncfihhaaGreatDoor
open Go.RowKit Go Go.Shelf

theorem lit20 (w : World) : FullB (w.alloc (.cells #[.int .u8 80, .int .u8 77, .int .u8 105, .int .u8 49] 5 (4, 5))) (.slice (some ⟨w.heap.size, 0, none⟩) 4 4) [80, 77, 105, 49] := by
  refine ⟨w.heap.size, rfl, fun j u hj => ?_⟩
  rw [World.cell?_alloc_mark]
  have : (#[.int .u8 80, .int .u8 77, .int .u8 105, .int .u8 49] : Array Value)[j]? = (eO [80, 77, 105, 49])[j]? := by rw [← List.getElem?_toArray]; rfl
  rw [this]
  exact hj
theorem entsB_take {l : List Ent} {k : Nat} {x : Ent} (h : l[k]? = some x) : entsB (l.take (k + 1)) = entsB (l.take k) ++ entB x := by
  unfold entsB
  rw [List.take_add_one, h, List.map_append, List.flatten_append]
  simp

set_option maxRecDepth 100000 in
set_option maxHeartbeats 3200000 in
theorem save20_ok (a : ByteArray) (v : Value) (l : List Ent) (w : World) (hr : RdR w v (l.map LF)) (ha : a.size ≤ 1000000) (hl : l.length ≤ 1000) (hR : aU1 l) (hf : ∀ x ∈ l, x.fit) :
    Calls Tryz.prog 10 #[.string a, v] w fun e w' => e = .returned (.tuple #[.string (mkS (sideB a.size (fG a.data.toList).toNat l)), .int .i64 0]) ∧ Below w.heap.size w w' := by
  have HX := hid hf
  have hri := aX7 v l w hr (by omega)
  rw [decide_eq_true hR] at hri
  have hsum := fun W => FA a W (by omega)
  obtain ⟨S, hS⟩ : ∃ S, S = (fG a.data.toList).toNat := ⟨_, rfl⟩
  have hSb : S < 4294967296 := by rw [hS]; exact BitVec.isLt _
  obtain ⟨s1, hs1⟩ : ∃ s1 : List UInt8, s1 = [80, 77, 105, 49] ++ beL 8 a.size := ⟨_, rfl⟩
  have l1 : s1.length = 12 := by rw [hs1, List.length_append, beL_length]; rfl
  obtain ⟨s2, hs2⟩ : ∃ s2 : List UInt8, s2 = s1 ++ beL 4 S := ⟨_, rfl⟩
  have l2 : s2.length = 16 := by rw [hs2, List.length_append, beL_length, l1]
  obtain ⟨s3, hs3⟩ : ∃ s3 : List UInt8, s3 = s2 ++ beL 4 l.length := ⟨_, rfl⟩
  have l3 : s3.length = 20 := by rw [hs3, List.length_append, beL_length, l2]
  have HS := hid (show sideB a.size (fG a.data.toList).toNat l = s3 ++ entsB l by
    rw [hs3, hs2, hs1, hS]
    unfold sideB
    simp only [List.append_assoc])
  rw [← hS] at hsum
  obtain ⟨a0, ca, rfl, hca, hma, hA⟩ := aWp hr
  unfold maxLen at hma
  clear hf hS hr
  go_enter Tryz.func10, Tryz.ntmps10
  go_wp2_with fail
  refine hri.mono ?_
  rintro e w1 ⟨rfl, h1⟩
  have hcv0 := Lib.run_convert_bytes_const (P := Tryz.prog) w1 47 5 #[.int .u8 80, .int .u8 77, .int .u8 105, .int .u8 49] 4 4 Tryz.underlying47 Tryz.underlying5
  go_wp2_with fail
  refine (num20_any _ _ a.size 8 w1.heap.size _ (.inr (lit20 w1)) (by decide) (by omega) (by decide) (by decide) (by simp)).mono ?_
  rintro e w2 ⟨u2, rfl, ho2, hb2, -⟩
  rw [← hs1] at ho2
  have h02 : Below w.heap.size w w2 := (bD h1 _).trans (hb2.mono h1.size)
  have hz2 : w1.heap.size ≤ w2.heap.size := Nat.le_trans (by simp) hb2.size
  obtain ⟨B, hB⟩ : ∃ B, B = w1.heap.size := ⟨_, rfl⟩
  have hwB : w.heap.size ≤ B := by rw [hB]; exact h1.size
  rw [← hB] at ho2 hz2
  clear hb2 hri h1 hB
  go_wp2_with fail
  refine (hsum _).mono ?_
  rintro e w3 ⟨rfl, h3⟩
  have ho3 := ho2.below h3 (Nat.le_refl _)
  have h03 := bV h02 h3
  have hz3 : B ≤ w3.heap.size := Nat.le_trans hz2 h3.size
  clear hsum ho2 h02 h3 hz2
  go_wp2_with fail
  refine (num20u_any _ _ S 4 B _ (.inl ho3) (by decide) hSb (by decide) (by omega) hz3).mono ?_
  rintro e w4 ⟨u4, rfl, ho4, hb4, -⟩
  rw [← hs2] at ho4
  have h04 : Below w.heap.size w w4 := h03.trans (hb4.mono hwB)
  have hz4 : B ≤ w4.heap.size := Nat.le_trans hz3 hb4.size
  clear ho3 h03 hz3 hb4
  go_wp2_with fail
  refine (num20_any _ _ l.length 4 B _ (.inl ho4) (by decide) (by omega) (by decide) (by omega) hz4).mono ?_
  rintro e w5 ⟨u5, rfl, ho5, hb5, -⟩
  rw [← hs3] at ho5
  have h05 : Below w.heap.size w w5 := h04.trans (hb5.mono hwB)
  have hz5 : B ≤ w5.heap.size := Nat.le_trans hz4 hb5.size
  clear ho4 h04 hz4 hb5 hs1 hs2 hs3 l1 l2
  go_wp2_with fail
  go_loopg [6, 8, 27] l.length (fun g s6 _s8 s27 wr => ∃ (k : Nat), k ≤ l.length ∧ g = l.length - k ∧ s27 = .int .i64 (k : Int) ∧ OwB wr B s6 (s3 ++ entsB (l.take k)) ∧ Below w.heap.size w wr ∧ B ≤ wr.heap.size)
  case atStart => exact ⟨0, Nat.zero_le _, rfl, rfl, by rw [List.take_zero]; exact (List.append_nil s3).symm ▸ ho5, h05, hz5⟩
  case round =>
    obtain ⟨k, hk, hg, rfl, ho, hbel, hzr⟩ := hrel
    have HG := hid hg
    clear hg ho5 h05 hz5
    have hlen : (entsB (l.take k)).length = 26 * k := by rw [entsB_length, List.length_take, Nat.min_eq_left hk]
    by_cases hlt : k < l.length
    · have t1 : decide ((k : Int) < (l.length : Int)) = true := decide_eq_true (by omega)
      obtain ⟨b, off, rfl, hb, hc⟩ := hA (by omega)
      obtain ⟨x, hx⟩ : ∃ x, l[k]? = some x := ⟨_, List.getElem?_eq_getElem hlt⟩
      obtain ⟨f1, f2, f3, f4, f5, f6, f7, f8, f9, f10⟩ := HX.out x (List.mem_of_getElem? hx)
      have HT := hid (entsB_take hx)
      obtain ⟨x0, x1, x2, x3, x4⟩ := hc k x hx
      clear hc hx hA
      obtain ⟨xa, xr, xf, xn, xy⟩ := x
      dsimp only at f1 f2 f3 f4 f5 f6 f7 f8 f9 f10
      obtain ⟨na, rfl⟩ : ∃ n : Nat, xa = n := ⟨xa.toNat, by omega⟩
      obtain ⟨nr, rfl⟩ : ∃ n : Nat, xr = n := ⟨xr.toNat, by omega⟩
      obtain ⟨nf, rfl⟩ : ∃ n : Nat, xf = n := ⟨xf.toNat, by omega⟩
      obtain ⟨nn, rfl⟩ : ∃ n : Nat, xn = n := ⟨xn.toNat, by omega⟩
      obtain ⟨ny, rfl⟩ : ∃ n : Nat, xy = n := ⟨xy.toNat, by omega⟩
      have c0 := (hbel.cell (p := ⟨b, off + k * 5, none⟩) hb).trans x0
      have c1 := (hbel.cell (p := ⟨b, off + k * 5 + 1, none⟩) hb).trans x1
      have c2 := (hbel.cell (p := ⟨b, off + k * 5 + 2, none⟩) hb).trans x2
      have c3 := (hbel.cell (p := ⟨b, off + k * 5 + 3, none⟩) hb).trans x3
      have c4 := (hbel.cell (p := ⟨b, off + k * 5 + 4, none⟩) hb).trans x4
      dsimp only at c0 c1 c2 c3 c4
      clear x0 x1 x2 x3 x4
      obtain ⟨D, hD⟩ : ∃ D, D = s3 ++ entsB (l.take k) := ⟨_, rfl⟩
      have hDl : D.length ≤ 30000 := by rw [hD, List.length_append, hlen]; omega
      obtain ⟨D1, hD1⟩ : ∃ D1, D1 = D ++ beL 8 na := ⟨_, rfl⟩
      obtain ⟨D2, hD2⟩ : ∃ D2, D2 = D1 ++ beL 2 nr := ⟨_, rfl⟩
      obtain ⟨D3, hD3⟩ : ∃ D3, D3 = D2 ++ beL 8 nf := ⟨_, rfl⟩
      obtain ⟨D4, hD4⟩ : ∃ D4, D4 = D3 ++ beL 4 nn := ⟨_, rfl⟩
      obtain ⟨D5, hD5⟩ : ∃ D5, D5 = D4 ++ beL 4 ny := ⟨_, rfl⟩
      have k1 : D1.length = D.length + 8 := by rw [hD1, List.length_append, beL_length]
      have k2 : D2.length = D.length + 10 := by rw [hD2, List.length_append, beL_length, k1]
      have k3 : D3.length = D.length + 18 := by rw [hD3, List.length_append, beL_length, k2]
      have k4 : D4.length = D.length + 22 := by rw [hD4, List.length_append, beL_length, k3]
      have HT2 := hid (show D5 = s3 ++ entsB (l.take (k + 1)) by
        rw [HT.out, ← List.append_assoc, ← hD, hD5, hD4, hD3, hD2, hD1]
        unfold entB
        simp only [Int.toNat_natCast, List.append_assoc])
      rw [← hD] at ho
      have E1 := hid hD1
      have E2 := hid hD2
      have E3 := hid hD3
      have E4 := hid hD4
      have E5 := hid hD5
      clear hD hlen HT hD1 hD2 hD3 hD4 hD5
      have hN := Arr.new wr 51 [.int .i64 (na : Int), .int .i64 (nr : Int), .int .i64 (nf : Int), .int .i64 (nn : Int), .int .u32 (ny : Int)]
      change Arr (wr.alloc (.cells #[.int .i64 (na : Int), .int .i64 (nr : Int), .int .i64 (nf : Int), .int .i64 (nn : Int), .int .u32 (ny : Int)] 51)) _ _ _ at hN
      have ho1 : OwB _ _ _ _ := Ow.alloc ho (.cells #[.int .i64 (na : Int), .int .i64 (nr : Int), .int .i64 (nf : Int), .int .i64 (nn : Int), .int .u32 (ny : Int)] 51)
      have h1 := hbel.alloc hbel.size (.cells #[.int .i64 (na : Int), .int .i64 (nr : Int), .int .i64 (nf : Int), .int .i64 (nn : Int), .int .u32 (ny : Int)] 51)
      have hz1 : B ≤ (wr.alloc (.cells #[.int .i64 (na : Int), .int .i64 (nr : Int), .int .i64 (nf : Int), .int .i64 (nn : Int), .int .u32 (ny : Int)] 51)).heap.size := by simp; omega
      obtain ⟨Z, hZ⟩ : ∃ Z, Z = wr.heap.size := ⟨_, rfl⟩
      go_wp2_with fail
      rw [← hZ] at hN ⊢
      generalize wr.alloc (.cells #[.int .i64 (na : Int), .int .i64 (nr : Int), .int .i64 (nf : Int), .int .i64 (nn : Int), .int .u32 (ny : Int)] 51) = wa at *
      refine (num20_any _ _ na 8 B _ (.inl ho1) (by decide) (by omega) (by decide) (by omega) hz1).mono ?_
      rintro e w6 ⟨u6, rfl, ho6, hb6, hk6⟩
      have hN6 := hk6 _ _ hN
      have h6 : Below w.heap.size w w6 := h1.trans (hb6.mono hwB)
      have hz6 : B ≤ w6.heap.size := Nat.le_trans hz1 hb6.size
      have d1 := hN6.cell (i := 1) rfl
      rw [← E1.out] at ho6
      clear hN h1 hz1 ho1 hb6 hk6 hZ c0 c1 c2 c3 c4
      go_wp2_with fail
      refine (num20_any _ _ nr 2 B _ (.inl ho6) (by decide) (by omega) (by decide) (by omega) hz6).mono ?_
      rintro e w7 ⟨u7, rfl, ho7, hb7, hk7⟩
      have hN7 := hk7 _ _ hN6
      have h7 : Below w.heap.size w w7 := h6.trans (hb7.mono hwB)
      have hz7 : B ≤ w7.heap.size := Nat.le_trans hz6 hb7.size
      have d2 := hN7.cell (i := 2) rfl
      rw [← E2.out] at ho7
      clear hN6 h6 hz6 ho6 hb7 hk7 d1
      go_wp2_with fail
      refine (num20_any _ _ nf 8 B _ (.inl ho7) (by decide) (by omega) (by decide) (by omega) hz7).mono ?_
      rintro e w8 ⟨u8, rfl, ho8, hb8, hk8⟩
      have hN8 := hk8 _ _ hN7
      have h8 : Below w.heap.size w w8 := h7.trans (hb8.mono hwB)
      have hz8 : B ≤ w8.heap.size := Nat.le_trans hz7 hb8.size
      have d3 := hN8.cell (i := 3) rfl
      rw [← E3.out] at ho8
      clear hN7 h7 hz7 ho7 hb8 hk8 d2
      go_wp2_with fail
      refine (num20_any _ _ nn 4 B _ (.inl ho8) (by decide) (by omega) (by decide) (by omega) hz8).mono ?_
      rintro e w9 ⟨u9, rfl, ho9, hb9, hk9⟩
      have hN9 := hk9 _ _ hN8
      have h9 : Below w.heap.size w w9 := h8.trans (hb9.mono hwB)
      have hz9 : B ≤ w9.heap.size := Nat.le_trans hz8 hb9.size
      have d4 := hN9.cell (i := 4) rfl
      rw [← E4.out] at ho9
      clear hN8 h8 hz8 ho8 hb9 hk9 d3
      go_wp2_with fail
      refine (num20u_any _ _ ny 4 B _ (.inl ho9) (by decide) (by omega) (by decide) (by omega) hz9).mono ?_
      rintro e w10 ⟨u10, rfl, ho10, hb10, -⟩
      have h10 : Below w.heap.size w w10 := h9.trans (hb10.mono hwB)
      have hz10 : B ≤ w10.heap.size := Nat.le_trans hz9 hb10.size
      rw [← E5.out] at ho10
      clear hN9 h9 hz9 ho9 hb10 d4
      go_wp2_with fail
      have hg := HG.out
      go_roundg (l.length - (k + 1))
      case measure => omega
      case rel => exact ⟨k + 1, by omega, rfl, by go_num, by rw [← HT2.out]; exact ho10, h10, hz10⟩
    · have t1 : decide ((k : Int) < (l.length : Int)) = false := decide_eq_false (by omega)
      have hke : k = l.length := by omega
      subst hke
      rw [List.take_of_length_le (Nat.le_refl _)] at ho
      have hcv : (convert 47 9 u6).run Tryz.prog wr = .ok (.string (mkS (s3 ++ entsB l))) wr := lQ ho.rd
      have hcv2 : (convert 47 9 u6).run Tryz.prog wr.drew = .ok (.string (mkS (s3 ++ entsB l))) wr.drew := lQ (w := wr.drew) (OwB.rd (w := wr.drew) ho)
      go_wp2_with fail
      go_ret2
      exact ⟨by rw [HS.out]; rfl, hbel⟩
set_option maxRecDepth 100000 in
set_option maxHeartbeats 3200000 in
theorem save20_bad (a : ByteArray) (v : Value) (l : List Ent) (w : World) (hr : RdR w v (l.map LF)) (hl : l.length ≤ 1000) (hR : ¬ aU1 l) :
    Calls Tryz.prog 10 #[.string a, v] w fun e w' => e = .returned (.tuple #[.string ⟨#[]⟩, .int .i64 1]) ∧ Below w.heap.size w w' := by
  have hri := aX7 v l w hr (by omega)
  rw [decide_eq_false hR] at hri
  go_enter Tryz.func10, Tryz.ntmps10
  go_wp2_with fail
  refine hri.mono ?_
  rintro e w1 ⟨rfl, h1⟩
  go_wp2_with fail
  go_ret2
  exact ⟨rfl, h1⟩

end Go.Proofs.YtmcogmmncfihhaaGreatDoor
