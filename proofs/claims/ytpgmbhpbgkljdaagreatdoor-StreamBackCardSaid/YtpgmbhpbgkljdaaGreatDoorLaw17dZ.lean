/-
  The walk of the statement StreamBack.
-/
import Derived.Test.YtpgmbhpbgkljdaaGreatDoorLaw17kZ
set_option linter.unusedVariables false
set_option linter.unusedSimpArgs false
namespace Go.Proofs.YtpgmbhpbgkljdaaGreatDoor
open Go.RowKit Go Go.Shelf

theorem arcP_two (m n : Nat) (x y : List ByteArray) : arcP 0 ([(m, x)] ++ [(n, y)]) = posW (40 * (m : Int)) 32 x ++ (posW (40 * (n : Int)) 32 y).map (Prt.up (arcW [(m, x)]).length) := by
  rw [arcP_append, arcP_one, arcP_up, arcP_one]
theorem arcBackGet {m n : Nat} {x y : List ByteArray} (oy : okA [(n, y)]) (hy5 : y.length ≤ 5) {k : Nat} {t : ByteArray} (ht : y[k]? = some t) :
    ∃ Y a z : Nat, Y < 4294967296 ∧ a ≤ 400000 ∧ z ≤ 400000 ∧ (arcP 0 [(n, y)])[k]? = some ⟨t, (Y : Int), (a : Int), (z : Int), 40 * (n : Int)⟩ ∧
      (arcP 0 ([(m, x)] ++ [(n, y)]))[x.length + k]? = some ⟨t, (Y : Int), ((a + 8 * (arcS [(m, x)]).size : Nat) : Int), ((z + 8 * (arcS [(m, x)]).size : Nat) : Int), 40 * (n : Int)⟩ := by
  obtain ⟨o1, o2, o3⟩ := oy _ (List.mem_singleton.2 rfl)
  have hb := fun j => bodyW_len (r := 40 * (n : Int)) (by omega) (y.take j) (fun u hu => o3 u (List.mem_of_mem_take hu))
  have hl := fun j => (show (y.take j).length ≤ 5 by rw [List.length_take]; omega)
  have g := posW_get (40 * (n : Int)) y 32 k t ht
  have e8 : (arcW [(m, x)]).length = 8 * (arcS [(m, x)]).size := by unfold arcS; rw [cP, packL_len8]
  refine ⟨(fG t.data.toList).toNat, 32 + (bodyW (y.take k)).length, 32 + (bodyW (y.take (k + 1))).length, (fG t.data.toList).isLt, ?_, ?_, ?_, ?_⟩
  · have := hb k; have := hl k; omega
  · have := hb (k + 1); have := hl (k + 1); omega
  · rw [arcP_one]; exact g
  · rw [arcP_two, List.getElem?_append_right (by rw [posW_length]; omega), posW_length, show x.length + k - x.length = k by omega, List.getElem?_map, g, ← e8]
    unfold Prt.up
    simp
theorem arcBackOne (n : Nat) (y : List ByteArray) : (arcP 0 [(n, y)]).length = y.length := by rw [arcP_one, posW_length]
theorem arcBackTwo (m n : Nat) (x y : List ByteArray) : (arcP 0 ([(m, x)] ++ [(n, y)])).length = x.length + y.length := by rw [arcP_two, List.length_append, List.length_map, posW_length, posW_length]

set_option maxRecDepth 100000 in
set_option maxHeartbeats 3200000 in
theorem streamBack_any (s : ByteArray) (v : Value) (raw : List (Int × Int)) (t : ByteArray) (v2 : Value) (more : List (Int × Int)) (level other : Int) (w : World) (hE : iF w) (_hs : s.size ≤ maxLen) (hr : RdP w v raw) (hwf : WfP raw) (_ht : t.size ≤ maxLen) (hr2 : RdP w v2 more) (hwf2 : WfP more) (hl1 : -9223372036854775808 ≤ level) (hl2 : level ≤ 9223372036854775807) (ho1 : -9223372036854775808 ≤ other) (ho2 : other ≤ 9223372036854775807) :
    Calls Tryz.prog 3 #[.string s, v, .string t, v2, .int .i64 level, .int .i64 other] w fun e w' => e = .returned (.bool true) ∧ Below w.heap.size w w' := by
  obtain ⟨qa, Ra, ra1, ra2, ma, ma', pka⟩ := lev_any level hl1 hl2
  obtain ⟨qb, Rb, rb1, rb2, mb, mb', pkb⟩ := lev_any other ho1 ho2
  go_enter Tryz.func3, Tryz.ntmps3
  go_wp2_with fail
  refine (awake17_any _ hE).mono ?_
  rintro e w1 ⟨rfl, h1⟩
  have hE1 := hE.below h1
  have hr1 := hr.below h1
  have hr21 := hr2.below h1
  clear hr hr2 hE
  go_wp2_with fail
  refine (texts_any s v raw _ hr1 hwf).mono ?_
  rintro e w2 ⟨u, x, rfl, hx, hx5, hxf, h2⟩
  have hE2 := hE1.below h2
  have hr22 := hr21.below h2
  have h02 := bV h1 h2
  clear h1 h2 hE1 hr1 hr21 hwf
  go_wp2_with fail
  refine (texts_any t v2 more _ hr22 hwf2).mono ?_
  rintro e w3 ⟨u', y, rfl, hy, hy5, hyf, h3⟩
  have hE3 := hE2.below h3
  have hx3 := hx.below h3
  have h03 := bV h02 h3
  clear h02 h3 hE2 hx hr22 hwf2
  go_wp2_with fail
  refine (pka _).mono ?_
  rintro e w' ⟨rfl, rfl⟩
  go_wp2_with fail
  refine (write_fine Ra u x _ hx3 hx5 hxf ra1 ra2).mono ?_
  rintro e w4 ⟨rfl, oa, h4⟩
  have hE4 := hE3.below h4
  have hx4 := hx3.below h4
  have hy4 := hy.below h4
  have h04 := bV h03 h4
  have hsa := arcS_size oa
  obtain ⟨A, hA⟩ : ∃ A, A = arcS [(Ra, x)] := ⟨_, rfl⟩
  rw [← hA] at hsa ⊢
  have HA := hid hA
  clear hA
  clear h03 h4 hE3 hx3 hy
  go_wp2_with fail
  refine (pkb _).mono ?_
  rintro e w' ⟨rfl, rfl⟩
  go_wp2_with fail
  refine (write_fine Rb u' y _ hy4 hy5 hyf rb1 rb2).mono ?_
  rintro e w5 ⟨rfl, ob, h5⟩
  have hE5 := hE4.below h5
  have hx5' := hx4.below h5
  have hy5' := hy4.below h5
  have h05 := bV h04 h5
  have hsb := arcS_size ob
  obtain ⟨Bb, hB⟩ : ∃ Bb, Bb = arcS [(Rb, y)] := ⟨_, rfl⟩
  rw [← hB] at hsb ⊢
  have HB := hid hB
  clear hB
  clear h04 h5 hE4 hx4 hy4
  have ea : (allT [(Ra, x)]).length = x.length := by unfold allT; simp
  have eb : (allT [(Rb, y)]).length = y.length := by unfold allT; simp
  rw [ea, List.length_singleton] at hsa
  rw [eb, List.length_singleton] at hsb
  have hcx := catT_size hxf
  have hcy := catT_size hyf
  clear ea eb
  obtain ⟨C, hC⟩ : ∃ C, C = A ++ Bb := ⟨_, rfl⟩
  have s1 : C.size = A.size + Bb.size := by rw [hC, ByteArray.size_append]
  have b1 : C.size ≤ 40000 := by omega
  have bA : A.size ≤ 20000 := by omega
  have x1 : ¬ 9223372036854775807 < A.size + Bb.size := by omega
  have hrA : ∀ W, iF W → Calls Tryz.prog 19 #[.string A] W fun e w' => e = .returned (.tuple #[.string (catT x), .int .i64 0]) ∧ Below W.heap.size W w' := fun W h => by
    have k := read_arc (l := [(Ra, x)]) (by simp) oa (by rw [← HA.out]; omega) W h
    rw [← HA.out] at k
    have et : allT [(Ra, x)] = x := by unfold allT; simp
    rw [et] at k
    exact k
  have hCe : C = arcS ([(Ra, x)] ++ [(Rb, y)]) := by rw [← arcS_join, ← HA.out, ← HB.out, ← hC]
  have hrC : ∀ W, iF W → Calls Tryz.prog 19 #[.string C] W fun e w' => e = .returned (.tuple #[.string (catT (x ++ y)), .int .i64 0]) ∧ Below W.heap.size W w' := fun W h => by
    have k := read_arc (l := [(Ra, x)] ++ [(Rb, y)]) (by simp) (okA_append oa ob) (by rw [← hCe]; omega) W h
    rw [← hCe] at k
    have et : allT ([(Ra, x)] ++ [(Rb, y)]) = x ++ y := by unfold allT; simp
    rw [et] at k
    exact k
  obtain ⟨PB, hPB⟩ : ∃ PB, PB = arcP 0 [(Rb, y)] := ⟨_, rfl⟩
  obtain ⟨PC, hPC⟩ : ∃ PC, PC = arcP 0 ([(Ra, x)] ++ [(Rb, y)]) := ⟨_, rfl⟩
  have hbB : ∀ W, iF W → Calls Tryz.prog 20 #[.string Bb] W fun e w' => ∃ v, e = .returned (.tuple #[v, .int .i64 0]) ∧ RdR w' v (PB.map blkC) ∧ Below W.heap.size W w' := fun W h => by
    have k := blocks_arc (l := [(Rb, y)]) (by simp) ob (by rw [← HB.out]; omega) W h
    rw [← HB.out, ← hPB] at k
    exact k
  have hbC : ∀ W, iF W → Calls Tryz.prog 20 #[.string C] W fun e w' => ∃ v, e = .returned (.tuple #[v, .int .i64 0]) ∧ RdR w' v (PC.map blkC) ∧ Below W.heap.size W w' := fun W h => by
    have k := blocks_arc (l := [(Ra, x)] ++ [(Rb, y)]) (by simp) (okA_append oa ob) (by rw [← hCe]; omega) W h
    rw [← hCe, ← hPC] at k
    exact k
  have HBK := hid (show ∀ k tt, y[k]? = some tt → ∃ Y a z : Nat, Y < 4294967296 ∧ a ≤ 400000 ∧ z ≤ 400000 ∧ PB[k]? = some ⟨tt, (Y : Int), (a : Int), (z : Int), 40 * (Rb : Int)⟩ ∧ PC[x.length + k]? = some ⟨tt, (Y : Int), ((a + 8 * A.size : Nat) : Int), ((z + 8 * A.size : Nat) : Int), 40 * (Rb : Int)⟩ from fun k tt h => by
    have q := arcBackGet (m := Ra) (x := x) ob hy5 h
    rw [← hPB, ← hPC, ← HA.out] at q
    exact q)
  have lB : PB.length = y.length := by rw [hPB, arcBackOne]
  obtain ⟨L, hL⟩ : ∃ L, L = PC.length := ⟨_, rfl⟩
  have lC : L = x.length + y.length := by rw [hL, hPC, arcBackTwo]
  have c1 := hC.symm
  obtain ⟨J, hJ⟩ : ∃ J, J = catT (x ++ y) := ⟨_, rfl⟩
  rw [← hJ] at hrC
  have hJe : catT x ++ catT y = J := by rw [hJ, catT_join]
  have hjx := fun W h => joined17_any u x W h (by omega)
  have hjy := fun W h => joined17_any u' y W h (by omega)
  obtain ⟨jx, hjx'⟩ : ∃ jx, jx = catT x := ⟨_, rfl⟩
  obtain ⟨jy, hjy'⟩ : ∃ jy, jy = catT y := ⟨_, rfl⟩
  rw [← hjx'] at hjx hJe hcx hrA
  rw [← hjy'] at hjy hJe hcy
  have x7 : ¬ 9223372036854775807 < jx.size + jy.size := by omega
  have hJJ : (J.toList == J.toList) = true := by simp
  have hjj : (jx.toList == jx.toList) = true := by simp
  clear hC s1 hJ hjx' hjy' oa ob hsa hsb hCe hPB hPC HA HB hcx hcy
  go_wp2_with fail
  refine (hrA _ hE5).mono ?_
  rintro e w6 ⟨rfl, h6⟩
  have hE6 := hE5.below h6
  have hx6 := hx5'.below h6
  have hy6 := hy5'.below h6
  have h06 := bV h05 h6
  clear h05 h6 hE5 hx5' hy5' hrA
  go_wp2_with fail
  refine (hrC _ hE6).mono ?_
  rintro e w7 ⟨rfl, h7⟩
  have hE7 := hE6.below h7
  have hx7 := hx6.below h7
  have hy7 := hy6.below h7
  have h07 := bV h06 h7
  clear h06 h7 hE6 hx6 hy6 hrC
  go_wp2_with fail
  refine (hbB _ hE7).mono ?_
  rintro e w8 ⟨vp, rfl, hp8, h8⟩
  have hE8 := hE7.below h8
  have hx8 := hx7.below h8
  have hy8 := hy7.below h8
  have h08 := bV h07 h8
  clear h07 h8 hE7 hx7 hy7 hbB
  go_wp2_with fail
  refine (hbC _ hE8).mono ?_
  rintro e w9 ⟨vq, rfl, hq9, h9⟩
  have hp9 := hp8.below h9
  have hx9 := hx8.below h9
  have hy9 := hy8.below h9
  have h09 := bV h08 h9
  clear h08 h9 hE8 hx8 hy8 hbC hp8
  obtain ⟨xa, xc, rfl, hxc1, hxc2, -⟩ := hx9.open
  obtain ⟨ya, yc, rfl, hyc1, hyc2, hyA⟩ := hy9.open
  obtain ⟨pa, pc, rfl, hpc1, hpc2, hpA⟩ := blk_cells hp9
  obtain ⟨qa', qc, rfl, hqc1, hqc2, hqA⟩ := blk_cells hq9
  rw [lB] at hpc1 hpA ⊢
  rw [← hL] at hqc1 hqA ⊢
  unfold maxLen at hxc2 hyc2 hpc2 hqc2
  have m1 : IntKind.i64.wrap ((x.length : Int) + (y.length : Int)) = (L : Int) := by rw [show (x.length : Int) + (y.length : Int) = (L : Int) by omega]; exact nat_wI L (by omega)
  have m1' : (x.length : Int) + (y.length : Int) = (L : Int) := by omega
  have hyl : ((y.length : Int) != (y.length : Int)) = false := by simp
  have hLL : ((L : Int) != (L : Int)) = false := by simp
  have HL := hid lC
  clear lC lB hL hp9 hq9
  go_wp2_with fail
  clear m1 m1' hyl hLL c1
  obtain ⟨E8, hE8⟩ : ∃ E8 : Nat, E8 = 8 * A.size := ⟨_, rfl⟩
  have hE8b : E8 ≤ 160000 := by omega
  have m2 : IntKind.i64.wrap (8 * (A.size : Int)) = (E8 : Int) := by rw [show 8 * (A.size : Int) = (E8 : Int) by omega]; exact nat_wI E8 (by omega)
  have m2' : 8 * (A.size : Int) = (E8 : Int) := by omega
  rw [← hE8] at HBK
  clear hE8
  go_loopg [28, 29] y.length (fun g i _z wr => ∃ k : Nat, k ≤ y.length ∧ g = y.length - k ∧ i = .int .i64 k ∧ Below w9.heap.size w9 wr)
  case atStart => exact ⟨0, Nat.zero_le _, rfl, rfl, Below.refl _ _⟩
  case round =>
    obtain ⟨k, hk, hg, rfl, hbel⟩ := hrel
    have HG := hid hg
    clear hg
    by_cases hlt : k < y.length
    · have t1 : decide ((k : Int) < (y.length : Int)) = true := decide_eq_true (by omega)
      obtain ⟨tt, htt⟩ : ∃ tt, y[k]? = some tt := ⟨_, List.getElem?_eq_getElem hlt⟩
      obtain ⟨Y, a, z, hY, ha, hz, e1, e2⟩ := HBK.out k tt htt
      obtain ⟨a2, ha2⟩ : ∃ a2, a2 = a + E8 := ⟨_, rfl⟩
      obtain ⟨z2, hz2⟩ : ∃ z2, z2 = z + E8 := ⟨_, rfl⟩
      rw [← ha2, ← hz2] at e2
      obtain ⟨K, hK⟩ : ∃ K, K = x.length + k := ⟨_, rfl⟩
      rw [← hK] at e2
      have lC := HL.out
      have hKL : K < L := by omega
      obtain ⟨bp, op, rfl, hbp, hcp⟩ := hpA (by omega)
      obtain ⟨bq, oq, rfl, hbq, hcq⟩ := hqA (by omega)
      obtain ⟨bt, ot, rfl, hbt, hct⟩ := hyA (by omega)
      obtain ⟨p0, p1, p2, p3⟩ := hcp k _ e1
      obtain ⟨q0, q1, q2, q3⟩ := hcq K _ e2
      have g0 := hct k _ htt
      have c0 := (hbel.cell (p := ⟨bp, op + k * 4, none⟩) hbp).trans p0
      have c1 := (hbel.cell (p := ⟨bp, op + k * 4 + 1, none⟩) hbp).trans p1
      have c2 := (hbel.cell (p := ⟨bp, op + k * 4 + 2, none⟩) hbp).trans p2
      have c3 := (hbel.cell (p := ⟨bp, op + k * 4 + 3, none⟩) hbp).trans p3
      have d0 := (hbel.cell (p := ⟨bq, oq + K * 4, none⟩) hbq).trans q0
      have d1 := (hbel.cell (p := ⟨bq, oq + K * 4 + 1, none⟩) hbq).trans q1
      have d2 := (hbel.cell (p := ⟨bq, oq + K * 4 + 2, none⟩) hbq).trans q2
      have d3 := (hbel.cell (p := ⟨bq, oq + K * 4 + 3, none⟩) hbq).trans q3
      have f0 := (hbel.cell (p := ⟨bt, ot + k, none⟩) hbt).trans g0
      have mk : IntKind.i64.wrap ((x.length : Int) + (k : Int)) = (K : Int) := by rw [show (x.length : Int) + (k : Int) = (K : Int) by omega]; exact nat_wI K (by omega)
      have mk' : (x.length : Int) + (k : Int) = (K : Int) := by omega
      have m3 : IntKind.i64.wrap ((a : Int) + (E8 : Int)) = (a2 : Int) := by rw [show (a : Int) + (E8 : Int) = (a2 : Int) by omega]; exact nat_wI a2 (by omega)
      have m3' : (a : Int) + (E8 : Int) = (a2 : Int) := by omega
      have m4 : IntKind.i64.wrap ((z : Int) + (E8 : Int)) = (z2 : Int) := by rw [show (z : Int) + (E8 : Int) = (z2 : Int) by omega]; exact nat_wI z2 (by omega)
      have m4' : (z : Int) + (E8 : Int) = (z2 : Int) := by omega
      have hsz := hbel.size
      clear p0 p1 p2 p3 q0 q1 q2 q3 g0 hcp hcq hct hpA hqA hyA e1 e2 ha2 hz2 hK lC htt
      have hbel9 := hbel.alloc hsz (.cells #[.string tt, .int .u32 (Y : Int), .int .i64 (a2 : Int), .int .i64 (z2 : Int)] 36)
      obtain ⟨zb, hzb⟩ : ∃ zb, zb = wr.heap.size := ⟨_, rfl⟩
      have hz9 := Arr.new wr 36 [.string tt, .int .u32 (Y : Int), .int .i64 (a2 : Int), .int .i64 (z2 : Int)]
      have kk : ∀ {p : Addr} {v : Value}, wr.cell? p = some v → (wr.alloc (.cells #[.string tt, .int .u32 (Y : Int), .int .i64 (a2 : Int), .int .i64 (z2 : Int)] 36)).cell? p = some v := fun {p} {v} h => ((bD (Below.refl _ wr) (.cells #[.string tt, .int .u32 (Y : Int), .int .i64 (a2 : Int), .int .i64 (z2 : Int)] 36)).cell (World.block_lt_of_cell? wr _ h)).trans h
      have i0 := kk c0
      have i1 := kk d0
      have i2 := kk d1
      have i3 := kk d2
      have i4 := kk d3
      have i5 := kk f0
      change Arr (wr.alloc (.cells #[.string tt, .int .u32 (Y : Int), .int .i64 (a2 : Int), .int .i64 (z2 : Int)] 36)) _ _ _ at hz9
      rw [← hzb] at hz9
      go_wp2_with fail
      rw [← hzb] at ⊢
      clear hzb kk c0 c1 c2 c3 d0 d1 d2 d3 f0 m3 m3' m4 m4' hbel
      generalize wr.alloc (.cells #[.string tt, .int .u32 (Y : Int), .int .i64 (a2 : Int), .int .i64 (z2 : Int)] 36) = W9 at *
      have z0 := hz9.cell (i := 0) rfl
      have z1 := hz9.cell (i := 1) rfl
      have z2' := hz9.cell (i := 2) rfl
      have z3 := hz9.cell (i := 3) rfl
      clear hz9
      go_quiet (fail)
      go_wp2_with fail
      have hg := HG.out
      go_roundg (y.length - (k + 1))
      case measure => omega
      case rel => exact ⟨k + 1, by omega, rfl, by go_num, below_drewN hbel9 _⟩
    · have t1 : decide ((k : Int) < (y.length : Int)) = false := decide_eq_false (by omega)
      have hxr := hx9.below hbel
      have hyr := hy9.below hbel
      go_wp2_with fail
      refine (hjx _ hxr).mono ?_
      rintro e w' ⟨rfl, rfl⟩
      go_wp2_with fail
      refine (hjx _ hxr).mono ?_
      rintro e w' ⟨rfl, rfl⟩
      go_wp2_with fail
      refine (hjy _ hyr).mono ?_
      rintro e w' ⟨rfl, rfl⟩
      go_wp2_with fail
      go_ret
      exact ⟨rfl, bV h09 hbel⟩

end Go.Proofs.YtpgmbhpbgkljdaaGreatDoor
