/-
  The walk of the statement StreamStands.
-/
import Derived.Test.YtpgmbhpbgkljdaaGreatDoorLaw17kZ
import Derived.Test.YtpgmbhpbgkljdaaGreatDoorZ19
set_option linter.unusedVariables false
set_option linter.unusedSimpArgs false
namespace Go.Proofs.YtpgmbhpbgkljdaaGreatDoor
open Go.RowKit Go Go.Shelf

/-- What fH in an archive of one stream. -/
theorem strS_stands (n : Nat) (x : List ByteArray) : fH (arcS [(n, x)]).data.toList 0 (padW (strW n x)) := by
  have h := zP (padW (strW n x))
  rw [packL_padW, arc_one] at h
  unfold arcS
  rw [fW]
  exact h
theorem stand_one {n : Nat} {x : List ByteArray} {k : Nat} {t : ByteArray} (ht : x[k]? = some t) :
    32 + (bodyW (x.take k)).length + 48 ≤ 8 * (arcS [(n, x)]).size ∧ aE (arcS [(n, x)]).data.toList ((32 + (bodyW (x.take k)).length : Nat) : Int) 48 = 0x314159265359 := by
  have hb := body_stands (strW_parts (strS_stands n x)) ht
  obtain ⟨R, hR⟩ := blkT_head t
  rw [hR] at hb
  have h1 := (jN hb).1
  rw [Nat.zero_add] at h1
  have g := uX h1 (by decide)
  have le := h1.1
  rw [cY] at le
  have hl : (arcS [(n, x)]).data.toList.length = (arcS [(n, x)]).size := by simp
  rw [hl] at le
  exact ⟨le, g.2⟩
theorem stand_end (n : Nat) (x : List ByteArray) : ∃ E P : Nat, E = 32 + (bodyW x).length ∧ P < 8 ∧ E + 80 + P = 8 * (arcS [(n, x)]).size ∧
    aE (arcS [(n, x)]).data.toList (E : Int) 48 = 0x177245385090 ∧
    aO (arcS [(n, x)]).size ((E : Int) + 48) 32 = 0 ∧ aE (arcS [(n, x)]).data.toList ((E : Int) + 48) 32 = (sumW x).toNat ∧
    aO (arcS [(n, x)]).size ((E : Int) + 80) P = 0 ∧ aE (arcS [(n, x)]).data.toList ((E : Int) + 80) P = 0 := by
  have h := (jN (strW_parts (strS_stands n x))).2
  rw [Nat.zero_add] at h
  obtain ⟨h1, h2⟩ := jN h
  rw [cY] at h2
  obtain ⟨h3, h4⟩ := jN h2
  rw [cY, ← numL_zero] at h4
  have g1 := uX h1 (by decide)
  have g2 := uX h3 (sumW x).isLt
  have g3 := uX h4 (Nat.pow_pos (by decide))
  have hl : (arcS [(n, x)]).data.toList.length = (arcS [(n, x)]).size := by simp
  rw [hl] at g1 g2 g3
  have e1 : ((32 + (bodyW x).length + 48 : Nat) : Int) = ((32 + (bodyW x).length : Nat) : Int) + 48 := by push_cast; rfl
  have e2 : ((32 + (bodyW x).length + 48 + 32 : Nat) : Int) = ((32 + (bodyW x).length : Nat) : Int) + 80 := by push_cast; omega
  rw [e1] at g2
  rw [e2] at g3
  have e8 : 8 * (arcS [(n, x)]).size = (padW (strW n x)).length := by unfold arcS; rw [cP, packL_len8, arcW_one]
  refine ⟨_, padN (strW n x).length, rfl, padN_lt _, ?_, g1.2, g2.1, g2.2, g3.1, g3.2⟩
  rw [e8, padW_length, strW_length]
theorem tri3 {w1 w2 : World} {p1 p2 p3 : Addr} {v1 v2 v3 : Value} {B : Nat} {w0 : World}
    (h : w1.cell? p1 = some v1 ∧ w1.cell? p2 = some v2 ∧ w1.cell? p3 = some v3 ∧ Below B w0 w1 ∧ B ≤ w1.heap.size) (hb : Below w1.heap.size w1 w2) :
    w2.cell? p1 = some v1 ∧ w2.cell? p2 = some v2 ∧ w2.cell? p3 = some v3 ∧ Below B w0 w2 ∧ B ≤ w2.heap.size := by
  obtain ⟨h1, h2, h3, h6, h7⟩ := h
  have k : ∀ {p : Addr} {v : Value}, w1.cell? p = some v → w2.cell? p = some v := fun {p} {v} hp => (hb.cell (World.block_lt_of_cell? w1 p hp)).trans hp
  exact ⟨k h1, k h2, k h3, h6.trans (hb.mono h7), Nat.le_trans h7 hb.size⟩
theorem tri3B {P1 P2 P3 P4 P5 : Prop} (h : P1 ∧ P2 ∧ P3 ∧ P4 ∧ P5) : P4 := h.2.2.2.1

set_option maxRecDepth 100000 in
set_option maxHeartbeats 3200000 in
theorem streamStands_any (s : ByteArray) (v : Value) (raw : List (Int × Int)) (level : Int) (w : World) (hE : iF w) (_hs : s.size ≤ maxLen) (hr : RdP w v raw) (hwf : WfP raw) (hl1 : -9223372036854775808 ≤ level) (hl2 : level ≤ 9223372036854775807) :
    Calls Tryz.prog 6 #[.string s, v, .int .i64 level] w fun e w' => e = .returned (.bool true) ∧ Below w.heap.size w w' := by
  obtain ⟨qa, Ra, ra1, ra2, ma, ma', pka⟩ := lev_any level hl1 hl2
  go_enter Tryz.func6, Tryz.ntmps6
  go_wp2_with fail
  refine (awake17_any _ hE).mono ?_
  rintro e w1 ⟨rfl, h1⟩
  have hE1 := hE.below h1
  have hr1 := hr.below h1
  clear hr hE
  go_wp2_with fail
  refine (texts_any s v raw _ hr1 hwf).mono ?_
  rintro e w2 ⟨u, x, rfl, hx, hx5, hxf, h2⟩
  have hE2 := hE1.below h2
  have h02 := bV h1 h2
  clear h1 h2 hE1 hr1 hwf
  go_wp2_with fail
  refine (pka _).mono ?_
  rintro e w' ⟨rfl, rfl⟩
  go_wp2_with fail
  refine (write_fine Ra u x _ hx hx5 hxf ra1 ra2).mono ?_
  rintro e w4 ⟨rfl, oa, h4⟩
  have hE4 := hE2.below h4
  have hx4 := hx.below h4
  have h04 := bV h02 h4
  have hsa := arcS_size oa
  have ea : (allT [(Ra, x)]).length = x.length := by unfold allT; simp
  rw [ea, List.length_singleton] at hsa
  have hlen := fun k => bodyW_len (r := 40 * (Ra : Int)) (by omega) (x.take k) (fun u hu => (oa _ (List.mem_singleton.2 rfl)).2.2 u (List.mem_of_mem_take hu))
  have hstand := fun k t (h : x[k]? = some t) => stand_one (n := Ra) h
  obtain ⟨F, P, hF, hP8, hFP, hend, he1, he2, he3, he4⟩ := stand_end Ra x
  obtain ⟨A, hA⟩ : ∃ A, A = arcS [(Ra, x)] := ⟨_, rfl⟩
  obtain ⟨PA, hPA⟩ : ∃ PA, PA = arcP 0 [(Ra, x)] := ⟨_, rfl⟩
  have lA : PA.length = x.length := by rw [hPA, arcP_one, posW_length]
  rw [← hA] at hsa hstand hFP hend he1 he2 he3 he4 ⊢
  have bA : A.size ≤ 20000 := by omega
  have hbA : ∀ W, iF W → Calls Tryz.prog 20 #[.string A] W fun e w' => ∃ v, e = .returned (.tuple #[v, .int .i64 0]) ∧ RdR w' v (PA.map blkC) ∧ Below W.heap.size W w' := fun W h => by
    have k := blocks_arc (l := [(Ra, x)]) (by simp) oa (by rw [← hA]; omega) W h
    rw [← hA, ← hPA] at k
    exact k
  have HBK := hid (show ∀ k t, x[k]? = some t → ∃ a z : Nat, a = 32 + (bodyW (x.take k)).length ∧ z = 32 + (bodyW (x.take (k + 1))).length ∧ a ≤ 400000 ∧ PA[k]? = some ⟨t, ((fG t.data.toList).toNat : Int), (a : Int), (z : Int), 40 * (Ra : Int)⟩ ∧ a + 48 ≤ 8 * A.size ∧ aE A.data.toList (a : Int) 48 = 0x314159265359 from fun k t h => by
    have g := posW_get (40 * (Ra : Int)) x 32 k t h
    have h5 := hstand k t h
    have hl := hlen k
    rw [List.length_take] at hl
    refine ⟨_, _, rfl, rfl, by omega, ?_, h5.1, h5.2⟩
    rw [hPA, arcP_one]
    exact g)
  have HF := hid hF
  have hFb : F ≤ 200000 := by omega
  have hP64 : P ≤ 64 := by omega
  clear h02 h4 hE2 hx ea hlen hstand hA hPA hF oa hsa
  go_wp2_with fail
  refine (hbA _ hE4).mono ?_
  rintro e w5 ⟨vp, rfl, hp5, h5⟩
  have hx5' := hx4.below h5
  have h05 := bV h04 h5
  clear h04 h5 hE4 hx4 hbA
  obtain ⟨xa, xc, rfl, hxc1, hxc2, hxA⟩ := hx5'.open
  obtain ⟨pa, pc, rfl, hpc1, hpc2, hpA⟩ := blk_cells hp5
  rw [lA] at hpc1 hpA ⊢
  unfold maxLen at hxc2 hpc2
  have hxl : ((x.length : Int) != (x.length : Int)) = false := by simp
  clear lA hp5 hx5'
  go_wp2_with fail
  clear hxl
  go_loopg [13, 14, 15] x.length (fun g s13 s14 s15 wr => ∃ k p : Nat, k ≤ x.length ∧ g = x.length - k ∧ s15 = .int .i64 (k : Int) ∧ s13 = .int .i64 (p : Int) ∧ Hid (p = 32 + (bodyW (x.take k)).length) ∧ OwS wr w5.heap.size s14 ((x.take k).map (fun t => fG t.data.toList)) ∧ Below w5.heap.size w5 wr)
  case atStart => exact ⟨0, 32, Nat.zero_le _, rfl, rfl, rfl, hid rfl, Ow.nil _ _ _, Below.refl _ _⟩
  case round =>
    obtain ⟨k, p, hk, hg, rfl, rfl, HP, hos, hbel⟩ := hrel
    have HG := hid hg
    clear hg
    by_cases hlt : k < x.length
    · have t1 : decide ((k : Int) < (x.length : Int)) = true := decide_eq_true (by omega)
      obtain ⟨t, ht⟩ : ∃ t, x[k]? = some t := ⟨_, List.getElem?_eq_getElem hlt⟩
      obtain ⟨a, z, ha, hz, hab, e1, hle, hgv⟩ := HBK.out k t ht
      obtain rfl : p = a := by rw [HP.out, ha]
      obtain ⟨bp, op, rfl, hbp, hcp⟩ := hpA (by omega)
      obtain ⟨bt, ot, rfl, hbt, hct⟩ := hxA (by omega)
      obtain ⟨p0, p1, p2, p3⟩ := hcp k _ e1
      have g0 := hct k _ ht
      have htm := (hxf t (List.mem_of_getElem? ht)).2.2
      have hsum := fun W => FA t W (by omega)
      have hmt := fun W => aSt A p 48 54156738319193 W (by omega) (by omega) (by decide) (by decide) (by decide)
      rw [decide_eq_true (show p + 48 ≤ 8 * A.size ∧ aE A.data.toList (p : Int) 48 = 54156738319193 from ⟨hle, hgv⟩)] at hmt
      have HS := hid (show (x.take (k + 1)).map (fun t => fG t.data.toList) = (x.take k).map (fun t => fG t.data.toList) ++ [fG t.data.toList] by
        rw [List.take_add_one, ht, List.map_append]; rfl)
      obtain ⟨S, hSS⟩ : ∃ S, S = fG t.data.toList := ⟨_, rfl⟩
      rw [← hSS] at hsum HS p1
      have hls : ((x.take k).map (fun t => fG t.data.toList)).length ≤ 100000 := by rw [List.length_map, List.length_take]; omega
      have c1 := (hbel.cell (p := ⟨bp, op + k * 4 + 1, none⟩) hbp).trans p1
      have c2 := (hbel.cell (p := ⟨bp, op + k * 4 + 2, none⟩) hbp).trans p2
      have c3 := (hbel.cell (p := ⟨bp, op + k * 4 + 3, none⟩) hbp).trans p3
      have f0 := (hbel.cell (p := ⟨bt, ot + k, none⟩) hbt).trans g0
      have HZ := hid hz
      have hsz := hbel.size
      have hpp : ((p : Int) != (p : Int)) = false := by simp
      have hyy : ((S.toNat : Int) != (S.toNat : Int)) = false := by simp
      clear p0 p1 p2 p3 g0 hcp hct hpA hxA e1 ha hz hSS hgv ht HBK HP HF hle hend he1 he2 he3 he4 hFP hxf
      go_wp2_with fail
      have hS0 := tri3 (B := wr.heap.size) (w0 := wr) ⟨c1, c2, f0, Below.refl _ _, Nat.le_refl _⟩ (Below.refl wr.heap.size wr).drew
      go_cut [82] (fun c82 wx => c82 = .bool false ∧ Below wr.heap.size wr wx)
      case first =>
        clear hos hbel c1 c2 c3 f0
        go_region_held3 (fun wx => wx.cell? ⟨bp, op + k * 4 + 1, none⟩ = some (.int .u32 (S.toNat : Int)) ∧ wx.cell? ⟨bp, op + k * 4 + 2, none⟩ = some (.int .i64 (p : Int)) ∧ wx.cell? ⟨bt, ot + k, none⟩ = some (.string t) ∧ Below wr.heap.size wr wx ∧ wr.heap.size ≤ wx.heap.size)
          (first
            | with_reducible assumption
            | with_reducible exact tri3 (by assumption) (by assumption))
          (first
            | (go_at_call 23; refine (hmt _).mono ?_; rintro e w8 ⟨rfl, hb8⟩)
            | (go_at_call 24; refine (hsum _).mono ?_; rintro e w9 ⟨rfl, hb9⟩))
        all_goals
          go_wp2_with fail
          go_meet
          exact ⟨rfl, tri3B (by assumption)⟩
      case rest =>
      obtain ⟨rfl, hbx⟩ := hcut
      have hos4 : OwS wc w5.heap.size u14 ((x.take k).map (fun t => fG t.data.toList)) := Ow.below hos hbx (Nat.le_refl _)
      have hbel4 := hbel.trans (hbx.mono hsz)
      have hsz4 := hbel4.size
      have d1 := (hbx.cell (World.block_lt_of_cell? wr _ c1)).trans c1
      have d3 := (hbx.cell (World.block_lt_of_cell? wr _ c3)).trans c3
      have hN2 := bS wc (.int .u32 (S.toNat : Int)) 34
      have hos5 : OwS (wc.alloc (.cells #[.int .u32 (S.toNat : Int)] 34)) w5.heap.size u14 ((x.take k).map (fun t => fG t.data.toList)) := Ow.alloc hos4 _
      have hbel5 : Below w5.heap.size w5 (wc.alloc (.cells #[.int .u32 (S.toNat : Int)] 34)) := hbel4.alloc hsz4 _
      clear hS0 hos hbel c1 c2 c3 f0 hmt hsum hos4 hbel4 hbx
      go_wp2_with (at_builtin; refine appS rfl _ _ rfl w5.heap.size _ _ rfl hos5 _ S rfl hN2 ?_ ?_ ?_; (omega); (simp; omega); intro v5 w6 r1 r2 r3)
      have hg := HG.out
      go_roundg (x.length - (k + 1))
      case measure => omega
      case rel => exact ⟨k + 1, z, by omega, rfl, by go_num, rfl, HZ, by rw [HS.out]; exact r1, hbel5.trans r2⟩
    · have t1 : decide ((k : Int) < (x.length : Int)) = false := decide_eq_false (by omega)
      obtain rfl : k = x.length := by omega
      rw [List.take_length] at hos HP
      obtain rfl : p = F := by rw [HP.out, HF.out]
      have hall := fun W h => all_any u14 (x.map (fun t => fG t.data.toList)) W h
      obtain ⟨SW, hSW⟩ : ∃ SW, SW = (sumW x).toNat := ⟨_, rfl⟩
      have hSWb : SW < 4294967296 := by rw [hSW]; exact (sumW x).isLt
      rw [show (allB (x.map (fun t => fG t.data.toList))).toNat = SW from hSW.symm] at hall
      rw [← hSW] at he2
      obtain ⟨p48, hp48⟩ : ∃ p48, p48 = p + 48 := ⟨_, rfl⟩
      obtain ⟨p80, hp80⟩ : ∃ p80, p80 = p + 80 := ⟨_, rfl⟩
      have e48 : (p : Int) + 48 = (p48 : Int) := by omega
      have e80 : (p : Int) + 80 = (p80 : Int) := by omega
      rw [e48] at he1 he2
      rw [e80] at he3 he4
      have hg1 : ∀ W, Calls Tryz.prog 25 #[.string A, .int .i64 (p48 : Int), .int .i64 32] W fun e w' => e = .returned (.tuple #[.int .u64 (SW : Int), .int .i64 0]) ∧ w' = W := fun W => by
        have h := sT A (p48 : Int) 32 W (by omega) (by decide) (by omega) (by omega)
        rw [he1, he2] at h
        exact h
      have hg2 : ∀ W, Calls Tryz.prog 25 #[.string A, .int .i64 (p80 : Int), .int .i64 (P : Int)] W fun e w' => e = .returned (.tuple #[.int .u64 0, .int .i64 0]) ∧ w' = W := fun W => by
        have h := sT A (p80 : Int) P W (by omega) hP64 (by omega) (by omega)
        rw [he3, he4] at h
        exact h
      have hme := fun W => aSt A p 48 25779555029136 W (by omega) (by omega) (by decide) (by decide) (by decide)
      rw [decide_eq_true (show p + 48 ≤ 8 * A.size ∧ aE A.data.toList (p : Int) 48 = 25779555029136 from ⟨by omega, hend⟩)] at hme
      obtain ⟨A8, hA8⟩ : ∃ A8, A8 = 8 * A.size := ⟨_, rfl⟩
      obtain ⟨Q, hQ⟩ : ∃ Q, Q = 80 + P := ⟨_, rfl⟩
      have m1 : IntKind.i64.wrap ((p : Int) + 48) = (p48 : Int) := by rw [e48]; exact nat_wI p48 (by omega)
      have m2 : IntKind.i64.wrap ((p : Int) + 80) = (p80 : Int) := by rw [e80]; exact nat_wI p80 (by omega)
      have m3 : IntKind.i64.wrap (8 * (A.size : Int)) = (A8 : Int) := by rw [show 8 * (A.size : Int) = (A8 : Int) by omega]; exact nat_wI A8 (by omega)
      have m3' : 8 * (A.size : Int) = (A8 : Int) := by omega
      have m4 : IntKind.i64.wrap ((A8 : Int) - (p : Int)) = (Q : Int) := by rw [show (A8 : Int) - (p : Int) = (Q : Int) by omega]; exact nat_wI Q (by omega)
      have m4' : (A8 : Int) - (p : Int) = (Q : Int) := by omega
      have m5 : IntKind.i64.wrap ((Q : Int) - 80) = (P : Int) := by rw [show (Q : Int) - 80 = (P : Int) by omega]; exact nat_wI P (by omega)
      have m5' : (Q : Int) - 80 = (P : Int) := by omega
      have x1 : max (P : Int) 0 = (P : Int) := by omega
      have x2 : (if (P : Int) ≤ 0 then 0 else (P : Int)) = (P : Int) := by split <;> omega
      have m6 := u32_nat SW hSWb
      have m6' : IntKind.u32.wrap (SW : Int) = (SW : Int) := by rw [IntKind.wrap_u32]; omega
      have m6'' : (SW : Int) % 4294967296 = (SW : Int) := by omega
      have y1 : decide ((P : Int) ≥ 0) = true := decide_eq_true (by omega)
      have y2 : decide (0 ≤ (P : Int)) = true := decide_eq_true (by omega)
      have y3 : decide ((P : Int) < 8) = true := decide_eq_true (by omega)
      have hsz := hbel.size
      clear he1 he2 he3 he4 hend hFP hA8 hQ hp48 hp80 hSW HBK HP HF hxf hpA hxA
      go_wp2_with fail
      refine (hg1 _).mono ?_
      rintro e w' ⟨rfl, rfl⟩
      go_wp2_with fail
      refine (hg2 _).mono ?_
      rintro e w' ⟨rfl, rfl⟩
      go_wp2_with fail
      refine (hme _).mono ?_
      rintro e w8 ⟨rfl, h8⟩
      have hos8 : OwS w8 w5.heap.size u14 (x.map (fun t => fG t.data.toList)) := Ow.below hos h8 (Nat.le_refl _)
      go_wp2_with fail
      refine (hall _ hos8.rd).mono ?_
      rintro e w' ⟨rfl, rfl⟩
      go_wp2_with fail
      go_ret
      exact ⟨rfl, h05.trans ((hbel.trans (h8.mono hsz)).mono h05.size)⟩

end Go.Proofs.YtpgmbhpbgkljdaaGreatDoor
