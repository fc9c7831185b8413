/-
  The walk of the statement SqueezeKeeps.
-/
import Derived.Test.YthjmpiekjfnoiaaGreatDoorLaw15k
import Derived.Test.YthjmpiekjfnoiaaGreatDoorM15c
namespace Go.Proofs.YthjmpiekjfnoiaaGreatDoor
open Go.RowKit Go.Shelf

/-- The row of two squeezed texts that the statement goes through. -/
def SqRow2 (w wx : World) (s : Value) : Prop := ∃ (b : Nat) (a0 a1 : ByteArray) (o0 o1 : Int) (v0 v1 : Value) (l0 l1 : List Int), s = .slice (some ⟨b, 0, none⟩) 2 2 ∧
  Arr wx b 25 [.string a0, .int .i64 o0, v0, .string a1, .int .i64 o1, v1] ∧ SqIn wx a0 o0 v0 l0 ∧ SqIn wx a1 o1 v1 l1 ∧ Below w.heap.size w wx

/-- What the region reads that looks at the end's symbol. -/
abbrev EndR (W : World) (bx b k : Nat) (q : ByteArray) (p : Int) (u y : Value) (w' : World) : Prop :=
  w'.cell? ⟨bx, 0, none⟩ = some (.string q) ∧ w'.cell? ⟨bx, 1, none⟩ = some (.int .i64 p) ∧ w'.cell? ⟨bx, 2, none⟩ = some u ∧ w'.cell? ⟨b, k, none⟩ = some y ∧ Below W.heap.size W w'
theorem EndR.of {W w' : World} {bx b k : Nat} {q : ByteArray} {p : Int} {u y : Value} (h : Arr W bx 25 [.string q, .int .i64 p, u]) (hb : b < W.heap.size) (hc : W.cell? ⟨b, k, none⟩ = some y) (hB : Below W.heap.size W w') : EndR W bx b k q p u y w' :=
  ⟨(h.below hB h.lt).cell (i := 0) rfl, (h.below hB h.lt).cell (i := 1) rfl, (h.below hB h.lt).cell (i := 2) rfl, by rw [hB.cell (p := ⟨b, k, none⟩) hb]; exact hc, hB⟩

set_option maxRecDepth 100000 in
set_option maxHeartbeats 3200000 in
theorem squeezeKeeps_any (s : ByteArray) (A : ByteArray) (O : Int) (V : Value) (l : List Int) (which x : Int) (w : World) (hE : ErrVar w) (_hs : s.size ≤ maxLen)
    (hA : A.size ≤ 140737488355328) (hO1 : -9223372036854775808 ≤ O) (hO2 : O ≤ 9223372036854775807) (hV : RdI w V l) (hlw : WfI l)
    (hw1 : -9223372036854775808 ≤ which) (hw2 : which ≤ 9223372036854775807) (hx1 : -9223372036854775808 ≤ x) (hx2 : x ≤ 9223372036854775807) :
    Calls Tryz.prog 5 #[.string s, .agg #[.string A, .int .i64 O, V], .int .i64 which, .int .i64 x] w fun e w' => e = .returned (.bool true) ∧ Below w.heap.size w w' := by
  unfold maxLen at _hs
  obtain ⟨aV, cV, rfl, hlV, hcV, hVV⟩ := hV.open
  unfold maxLen at hcV
  go_enter Tryz.func5, Tryz.ntmps5
  go_wp2_with fail
  have hb0 : Below w.heap.size w (w.alloc (.cells #[.string A, .int .i64 O, .slice aV l.length cV] 25)) := belA (Below.refl _ _) _
  have hQ0 := Arr.new w 25 [.string A, .int .i64 O, .slice aV l.length cV]
  change Arr (w.alloc (.cells #[.string A, .int .i64 O, .slice aV l.length cV] 25)) _ _ _ at hQ0
  generalize w.alloc (.cells #[.string A, .int .i64 O, .slice aV l.length cV] 25) = w0 at *
  refine (awake15_any _ (hE.below hb0)).mono ?_
  rintro e w1 ⟨rfl, h1⟩
  have hQ1 := hQ0.below h1 hQ0.lt
  have hB1 := belT hb0 h1
  have q0 := hQ1.cell (i := 0) rfl
  have q1 := hQ1.cell (i := 1) rfl
  have q2 := hQ1.cell (i := 2) rfl
  clear hQ0 hb0 h1
  go_upto_block 0 with fail
  have hB2 := belA hB1 (.cells #[.string A, .int .i64 O, .slice none 0 0] 25)
  have hO2' := Arr.new w1 25 [.string A, .int .i64 O, .slice none 0 0]
  have hQ2 := hQ1.alloc (.cells #[.string A, .int .i64 O, .slice none 0 0] 25)
  change Arr (w1.alloc (.cells #[.string A, .int .i64 O, .slice none 0 0] 25)) _ _ _ at hO2'
  generalize w1.alloc (.cells #[.string A, .int .i64 O, .slice none 0 0] 25) = w2 at *
  have hql := hQ2.lt
  have hol := hO2'.lt
  have hqw : w.heap.size < w1.heap.size := hQ1.lt
  clear q0 q1 q2 hQ1 hB1
  have HVV := hid hVV
  clear hVV
  go_cut [11] (fun _s15 wx => ∃ v' l', Arr wx w1.heap.size 25 [.string A, .int .i64 O, v'] ∧ RdI wx v' l' ∧ l'.length ≤ 40 ∧ Below w.heap.size w wx)
  case first =>
    go_wp2_with fail
    go_loopg [11] 40 (fun g i wr => ∃ (k : Nat) (v' : Value), k ≤ 40 ∧ k ≤ l.length ∧ g = 40 - k ∧ i = .int .i64 k ∧ Arr wr w1.heap.size 25 [.string A, .int .i64 O, v'] ∧ OwI wr (w1.heap.size + 1) v' (mins (l.take k)) ∧ Below w.heap.size w wr ∧ Below w1.heap.size w2 wr)
    case atStart => exact ⟨0, _, by omega, by omega, rfl, rfl, hO2', OwI.nil _ _, hB2, Below.refl _ _⟩
    case round =>
      obtain ⟨k, v', hk, hkl, hg, rfl, hArr, hown, hbel, hb2⟩ := hrel
      have HG := hid hg
      clear hg
      have hQr := hQ2.below hb2 hqw
      have q0 := hQr.cell (i := 0) rfl
      have q1 := hQr.cell (i := 1) rfl
      have q2 := hQr.cell (i := 2) rfl
      have hlk : (mins (l.take k)).length = k := by rw [mins_length, List.length_take]; omega
      have hfin := hid (show ∃ v' l', Arr wr w1.heap.size 25 [.string A, .int .i64 O, v'] ∧ RdI wr v' l' ∧ l'.length ≤ 40 ∧ Below w.heap.size w wr from ⟨v', _, hArr, hown.rd, by omega, hbel⟩)
      by_cases hlt : k < l.length
      · by_cases hl4 : k < 40
        · have t1 : decide ((k : Int) < 40) = true := decide_eq_true (by omega)
          have t2 : decide ((k : Int) < (l.length : Int)) = true := decide_eq_true (by omega)
          obtain ⟨b1, o1, rfl, hb1, hc1⟩ := HVV.out (by omega)
          obtain ⟨y, hy⟩ := getI hlt
          have cy : wr.cell? ⟨b1, o1 + k, none⟩ = some (.int .i64 y) := by rw [hbel.cell (p := ⟨b1, o1 + k, none⟩) hb1]; exact hc1 k y hy
          obtain ⟨a', c', rfl, _, _, _⟩ := hown.rd.open
          have g2 := hArr.cell (i := 2) rfl
          have hyb := hlw.get hy
          have HS := hid (mins_succ hy)
          obtain ⟨z, hz⟩ : ∃ z, z = min y 1099511627776 := ⟨_, rfl⟩
          have z1 : (if (1099511627776 : Int) < y then (1099511627776 : Int) else y) = z := by rw [hz, Int.min_def]; split <;> split <;> omega
          have z2 : min y 1099511627776 = z := hz.symm
          rw [← hz] at HS
          have HL := hid hlk
          have hownK := hown
          rw [hlk] at g2 hownK
          have u1 : (k : Int) < (l.length : Int) := by omega
          have u2 : (0 : Int) ≤ (k : Int) := by omega
          clear hz hc1 hy hfin hlk
          have hsr := hb2.size
          have hbA : Below w.heap.size w (wr.alloc (.cells #[.int .i64 z] 3)).drew := (belA hbel _).drew
          have hb2A : Below w1.heap.size w2 (wr.alloc (.cells #[.int .i64 z] 3)).drew := (hb2.alloc (by omega) _).drew
          have hoA : OwI (wr.alloc (.cells #[.int .i64 z] 3)).drew (w1.heap.size + 1) (.slice a' k c') (mins (l.take k)) := hownK.alloc _
          have arA : Arr (wr.alloc (.cells #[.int .i64 z] 3)).drew w1.heap.size 25 [.string A, .int .i64 O, .slice a' k c'] := by have := hArr.alloc (.cells #[.int .i64 z] 3); rw [HL.out] at this; exact this
          have g2A := arA.cell (i := 2) rfl
          have srA : SrcI (wr.alloc (.cells #[.int .i64 z] 3)).drew (.slice (some ⟨wr.heap.size, 0, none⟩) 1 1) [z] := src_new wr _ _
          have szA : w1.heap.size + 1 ≤ (wr.alloc (.cells #[.int .i64 z] 3)).drew.heap.size := by show w1.heap.size + 1 ≤ (wr.alloc _).heap.size; simp; omega
          have qA : (wr.alloc (.cells #[.int .i64 z] 3)).drew.cell? ⟨w.heap.size, 2, none⟩ = some (.slice (some ⟨b1, o1, none⟩) l.length cV) ∧ (wr.alloc (.cells #[.int .i64 z] 3)).drew.cell? ⟨b1, o1 + k, none⟩ = some (.int .i64 y) ∧ w1.heap.size < (wr.alloc (.cells #[.int .i64 z] 3)).drew.heap.size :=
            ⟨(World.cell?_alloc_lt _ _ ⟨w.heap.size, 2, none⟩ (by show w.heap.size < wr.heap.size; omega)).trans q2, (World.cell?_alloc_lt _ _ ⟨b1, o1 + k, none⟩ (by show b1 < wr.heap.size; have := hbel.size; omega)).trans cy, szA⟩
          have s0 : OddS w1.heap.size w.heap.size b1 (o1 + k) (.slice (some ⟨b1, o1, none⟩) l.length cV) y wr.drew := ⟨q2, cy, Nat.lt_of_lt_of_le hol hb2.size⟩
          go_upto_region 7 with fail
          refine wp_region_held_drew (S := (fun w' => w'.cell? ⟨w.heap.size, 2, none⟩ = some (.slice (some ⟨b1, o1, none⟩) l.length cV) ∧ w'.cell? ⟨b1, o1 + k, none⟩ = some (.int .i64 y) ∧ w1.heap.size < w'.heap.size)) (by kernel_rfl) s0 (fun hHeld => ?_)
          refine wpAnyH_take (i := 0) (oi := ?oia0) (v := ?va0) ?hia0 (by kernel_rfl) (by kernel_rfl) (by kernel_rfl) ?hqa0 ?hya0 (by assumption) ?_
          case hia0 => (simp only [List.getElem?_toArray, List.getElem?_cons_zero]; rfl)
          case hqa0 => exact fun _ _ _ h => h
          case hya0 => (refine Or.inl ⟨by rfl, ?_⟩; intro w' hSw; (try dsimp only at hSw); (try go_simp); try with_reducible rfl)
          try simp only [Act.put, List.setIfInBounds_toArray, List.set_cons_zero, List.set_cons_succ]
          refine wpAnyH_take (i := 2) (oi := ?oia2) (v := ?va2) ?hia2 (by kernel_rfl) (by kernel_rfl) (by kernel_rfl) ?hqa2 ?hya2 (by assumption) ?_
          case hia2 => (simp only [List.getElem?_toArray, List.getElem?_cons_succ, List.getElem?_cons_zero]; rfl)
          case hqa2 => exact fun _ _ _ h => h
          case hya2 => (refine Or.inl ⟨by rfl, ?_⟩; intro w' hSw; (try dsimp only at hSw); (try go_simp); try with_reducible rfl)
          try simp only [Act.put, List.setIfInBounds_toArray, List.set_cons_zero, List.set_cons_succ]
          refine wpAnyH_take (i := 3) (oi := ?oia3) (v := ?va3) ?hia3 (by kernel_rfl) (by kernel_rfl) (by kernel_rfl) ?hqa3 ?hya3 (by assumption) ?_
          case hia3 => (simp only [List.getElem?_toArray, List.getElem?_cons_succ, List.getElem?_cons_zero]; rfl)
          case hqa3 => exact fun _ _ _ h => h
          case hya3 => (refine Or.inl ⟨by rfl, ?_⟩; intro w' hSw; (try dsimp only at hSw); (try go_simp); try with_reducible rfl)
          try simp only [Act.put, List.setIfInBounds_toArray, List.set_cons_zero, List.set_cons_succ]
          refine wpAnyH_take (i := 4) (oi := ?oia4) (v := ?va4) ?hia4 (by kernel_rfl) (by kernel_rfl) (by kernel_rfl) ?hqa4 ?hya4 (by assumption) ?_
          case hia4 => (simp only [List.getElem?_toArray, List.getElem?_cons_succ, List.getElem?_cons_zero]; rfl)
          case hqa4 => exact fun _ _ _ h => h
          case hya4 => (refine Or.inl ⟨by rfl, ?_⟩; intro w' hSw; (try dsimp only at hSw); (try go_simp); try with_reducible rfl)
          try simp only [Act.put, List.setIfInBounds_toArray, List.set_cons_zero, List.set_cons_succ]
          refine wpAnyH_take (i := 5) (oi := ?oia5) (v := ?va5) ?hia5 (by kernel_rfl) (by kernel_rfl) (by kernel_rfl) ?hqa5 ?hya5 (by assumption) ?_
          case hia5 => (simp only [List.getElem?_toArray, List.getElem?_cons_succ, List.getElem?_cons_zero]; rfl)
          case hqa5 => exact fun _ _ _ h => h
          case hya5 => (refine Or.inl ⟨by rfl, ?_⟩; intro w' hSw; (try dsimp only at hSw); (try go_simp); try with_reducible rfl)
          try simp only [Act.put, List.setIfInBounds_toArray, List.set_cons_zero, List.set_cons_succ]
          refine wpAnyH_take (i := 6) (oi := ?oia6) (v := ?va6) ?hia6 (by kernel_rfl) (by kernel_rfl) (by kernel_rfl) ?hqa6 ?hya6 (by assumption) ?_
          case hia6 => (simp only [List.getElem?_toArray, List.getElem?_cons_succ, List.getElem?_cons_zero]; rfl)
          case hqa6 => exact fun _ _ _ h => h
          case hya6 => (refine Or.inl ⟨by rfl, ?_⟩; intro w' hSw; (try dsimp only at hSw); (try go_simp); try with_reducible rfl)
          try simp only [Act.put, List.setIfInBounds_toArray, List.set_cons_zero, List.set_cons_succ]
          refine wpAnyH_take (i := 7) (oi := ?oia7) (v := ?va7) ?hia7 (by kernel_rfl) (by kernel_rfl) (by kernel_rfl) ?hqa7 ?hya7 (by assumption) ?_
          case hia7 => (simp only [List.getElem?_toArray, List.getElem?_cons_succ, List.getElem?_cons_zero]; rfl)
          case hqa7 => exact fun _ _ _ h => h
          case hya7 => (refine Or.inl ⟨by rfl, ?_⟩; intro w' hSw; (try dsimp only at hSw); (try go_simp); try with_reducible rfl)
          try simp only [Act.put, List.setIfInBounds_toArray, List.set_cons_zero, List.set_cons_succ]
          refine wpAnyH_ready (rs := [1, 8]) (by kernel_rfl) (by simp) ?_
          refine AllReadyH.cons rfl (fun K hK => ?_) (AllReadyH.cons rfl (fun K hK => ?_) AllReadyH.nil)
          · go_simp
            refine hK.out _ _ s0 (fun hHeld => ?_)
            clear hK K
            try simp only [Act.put, List.setIfInBounds_toArray, List.set_cons_zero, List.set_cons_succ]
            refine wpAnyH_ready (rs := [8]) (by kernel_rfl) (by simp) ?_
            refine AllReadyH.cons rfl (fun K hK => ?_) ?_
            rotate_left
            · exact AllReadyH.nil
            go_simp
            refine hK.out _ _ qA (fun hHeld => ?_)
            clear hK K
            try simp only [Act.put, List.setIfInBounds_toArray, List.set_cons_zero, List.set_cons_succ]
            refine wpAnyH_ready (rs := [9]) (by kernel_rfl) (by simp) ?_
            refine AllReadyH.cons rfl (fun K hK => ?_) ?_
            rotate_left
            · exact AllReadyH.nil
            refine stepAppL rfl _ _ rfl (w1.heap.size + 1) (.slice a' k c') (mins (l.take k)) rfl hoA _ [z] rfl srA (by rw [HL.out]; simp; omega) szA (fun v5 w5 hown5 hB5 hg5 => ?_)
            rw [← HS.out] at hown5
            have hl5 : (mins (l.take (k + 1))).length = k + 1 := by rw [mins_length, List.length_take]; omega
            obtain ⟨a5, c5, e5, _, _, _⟩ := hown5.rd.open
            rw [hl5] at e5
            subst e5
            have sz5 : w1.heap.size < w5.heap.size := Nat.lt_of_lt_of_le szA hB5.size
            have hA5 := arA.below hB5 (Nat.lt_succ_self _)
            have f2 := hA5.cell (i := 2) rfl
            have ff := hA5.free
            have r1 : w5.cell? ⟨w.heap.size, 2, none⟩ = some (.slice (some ⟨b1, o1, none⟩) l.length cV) := (hB5.cell (p := ⟨w.heap.size, 2, none⟩) (by show w.heap.size < w1.heap.size + 1; omega)).trans qA.1
            have bw5 := hbA.trans (hB5.mono (by omega))
            have b25 := hb2A.trans (hB5.mono (Nat.le_succ _))
            have r2 : w5.cell? ⟨b1, o1 + k, none⟩ = some (.int .i64 y) := (bw5.cell (p := ⟨b1, o1 + k, none⟩) hb1).trans ((hbel.cell (p := ⟨b1, o1 + k, none⟩) hb1).symm.trans cy)
            refine hK.out _ _ ⟨r1, r2, sz5⟩ (fun hHeld => ?_)
            clear hK K
            try simp only [Act.put, List.setIfInBounds_toArray]
            refine wpAnyH_take (i := 10) (oi := ?oib10) (v := ?vb10) ?hib10 (by kernel_rfl) (by kernel_rfl) (by kernel_rfl) ?hqb10 ?hyb10 (by assumption) ?_
            case hib10 => (simp only [List.getElem?_toArray, List.getElem?_cons_succ, List.getElem?_cons_zero]; rfl)
            case hqb10 => exact fun _ _ _ h => h
            case hyb10 => (refine Or.inl ⟨by rfl, ?_⟩; intro w' hSw; (try dsimp only at hSw); (try go_simp); try with_reducible rfl)
            try simp only [Act.put]
            refine wpAnyH_ready (rs := [11]) (by kernel_rfl) (by simp) ?_
            refine AllReadyH.cons rfl (fun K hK => ?_) ?_
            rotate_left
            · exact AllReadyH.nil
            go_simp
            have bw6 := bw5.setCell (p := ⟨w1.heap.size, 2, none⟩) (Nat.le_of_lt hqw) (.slice a5 (k + 1) c5)
            have b26 := b25.setCell (p := ⟨w1.heap.size, 2, none⟩) (Nat.le_refl _) (.slice a5 (k + 1) c5)
            refine hK.out _ _ ⟨(World.cell?_setCell_other _ _ _ _ (by simp)).trans r1, (bw6.cell (p := ⟨b1, o1 + k, none⟩) hb1).trans ((hbel.cell (p := ⟨b1, o1 + k, none⟩) hb1).symm.trans cy), by simpa using sz5⟩ (fun hHeld => ?_)
            clear hK K
            refine wpAnyH_done (by kernel_rfl) ?_ _
            go_wp2_with fail
            have hg := HG.out
            go_roundg (40 - (k + 1))
            case measure => omega
            case rel => exact ⟨k + 1, .slice a5 (k + 1) c5, by omega, by omega, rfl, by go_num, hA5.set 2 _, hown5.setLow (p := ⟨w1.heap.size, 2, none⟩) (Nat.lt_succ_self _) _, bw6, b26⟩
          · go_simp
            refine hK.out _ _ qA (fun hHeld => ?_)
            clear hK K
            try simp only [Act.put, List.setIfInBounds_toArray, List.set_cons_zero, List.set_cons_succ]
            refine wpAnyH_ready (rs := [1]) (by kernel_rfl) (by simp) ?_
            refine AllReadyH.cons rfl (fun K hK => ?_) ?_
            rotate_left
            · exact AllReadyH.nil
            go_simp
            refine hK.out _ _ qA (fun hHeld => ?_)
            clear hK K
            try simp only [Act.put, List.setIfInBounds_toArray, List.set_cons_zero, List.set_cons_succ]
            refine wpAnyH_ready (rs := [9]) (by kernel_rfl) (by simp) ?_
            refine AllReadyH.cons rfl (fun K hK => ?_) ?_
            rotate_left
            · exact AllReadyH.nil
            refine stepAppL rfl _ _ rfl (w1.heap.size + 1) (.slice a' k c') (mins (l.take k)) rfl hoA _ [z] rfl srA (by rw [HL.out]; simp; omega) szA (fun v5 w5 hown5 hB5 hg5 => ?_)
            rw [← HS.out] at hown5
            have hl5 : (mins (l.take (k + 1))).length = k + 1 := by rw [mins_length, List.length_take]; omega
            obtain ⟨a5, c5, e5, _, _, _⟩ := hown5.rd.open
            rw [hl5] at e5
            subst e5
            have sz5 : w1.heap.size < w5.heap.size := Nat.lt_of_lt_of_le szA hB5.size
            have hA5 := arA.below hB5 (Nat.lt_succ_self _)
            have f2 := hA5.cell (i := 2) rfl
            have ff := hA5.free
            have r1 : w5.cell? ⟨w.heap.size, 2, none⟩ = some (.slice (some ⟨b1, o1, none⟩) l.length cV) := (hB5.cell (p := ⟨w.heap.size, 2, none⟩) (by show w.heap.size < w1.heap.size + 1; omega)).trans qA.1
            have bw5 := hbA.trans (hB5.mono (by omega))
            have b25 := hb2A.trans (hB5.mono (Nat.le_succ _))
            have r2 : w5.cell? ⟨b1, o1 + k, none⟩ = some (.int .i64 y) := (bw5.cell (p := ⟨b1, o1 + k, none⟩) hb1).trans ((hbel.cell (p := ⟨b1, o1 + k, none⟩) hb1).symm.trans cy)
            refine hK.out _ _ ⟨r1, r2, sz5⟩ (fun hHeld => ?_)
            clear hK K
            try simp only [Act.put, List.setIfInBounds_toArray]
            refine wpAnyH_take (i := 10) (oi := ?oid10) (v := ?vd10) ?hid10 (by kernel_rfl) (by kernel_rfl) (by kernel_rfl) ?hqd10 ?hyd10 (by assumption) ?_
            case hid10 => (simp only [List.getElem?_toArray, List.getElem?_cons_succ, List.getElem?_cons_zero]; rfl)
            case hqd10 => exact fun _ _ _ h => h
            case hyd10 => (refine Or.inl ⟨by rfl, ?_⟩; intro w' hSw; (try dsimp only at hSw); (try go_simp); try with_reducible rfl)
            try simp only [Act.put]
            refine wpAnyH_ready (rs := [11]) (by kernel_rfl) (by simp) ?_
            refine AllReadyH.cons rfl (fun K hK => ?_) ?_
            rotate_left
            · exact AllReadyH.nil
            go_simp
            have bw6 := bw5.setCell (p := ⟨w1.heap.size, 2, none⟩) (Nat.le_of_lt hqw) (.slice a5 (k + 1) c5)
            have b26 := b25.setCell (p := ⟨w1.heap.size, 2, none⟩) (Nat.le_refl _) (.slice a5 (k + 1) c5)
            refine hK.out _ _ ⟨(World.cell?_setCell_other _ _ _ _ (by simp)).trans r1, (bw6.cell (p := ⟨b1, o1 + k, none⟩) hb1).trans ((hbel.cell (p := ⟨b1, o1 + k, none⟩) hb1).symm.trans cy), by simpa using sz5⟩ (fun hHeld => ?_)
            clear hK K
            refine wpAnyH_done (by kernel_rfl) ?_ _
            go_wp2_with fail
            have hg := HG.out
            go_roundg (40 - (k + 1))
            case measure => omega
            case rel => exact ⟨k + 1, .slice a5 (k + 1) c5, by omega, by omega, rfl, by go_num, hA5.set 2 _, hown5.setLow (p := ⟨w1.heap.size, 2, none⟩) (Nat.lt_succ_self _) _, bw6, b26⟩
        · have t1 : decide ((k : Int) < 40) = false := decide_eq_false (by omega)
          go_wp2_with fail
          go_meet
          exact hfin.out
      · have t2 : decide ((k : Int) < (l.length : Int)) = false := decide_eq_false (by omega)
        go_wp2_with fail
        go_meet
        exact hfin.out
  case rest =>
    obtain ⟨v5, l5, hA5, hr5, hl5, hB5⟩ := hcut
    have hE5 := hE.below hB5
    have hol5 := hA5.lt
    obtain ⟨wd, rfl⟩ : ∃ wd : World, wd = wc := ⟨_, rfl⟩
    obtain ⟨m, hmi, hm3, hm4⟩ := minOf s.size 40 (by decide)
    have hmi2 : min (s.size : Int) 40 = (m : Int) := by rw [← hmi, Int.min_def]; split <;> split <;> omega
    have hszz : ¬ 9223372036854775807 < (s.size : Int) := by omega
    go_wp2_with fail
    obtain ⟨t, ht⟩ : ∃ t, t = s.extract 0 m := ⟨_, rfl⟩
    have htz : t.size ≤ 40 := by rw [ht]; simp; omega
    rw [← ht]
    clear ht
    refine (refSq_own t _ (by omega)).mono ?_
    rintro e w6 ⟨v6, rfl, ho6, h6, hO⟩
    obtain ⟨a6, c6, rfl, _, _, _⟩ := ho6.rd.open
    have h7n : Below w6.heap.size w6 (w6.alloc (.cells #[.string (sqA t), .int .i64 (sqO t), .slice a6 (sqS t).length c6] 25)) := belA (Below.refl _ _) _
    have hb8 := Arr.new w6 25 [.string (sqA t), .int .i64 (sqO t), .slice a6 (sqS t).length c6]
    change Arr (w6.alloc (.cells #[.string (sqA t), .int .i64 (sqO t), .slice a6 (sqS t).length c6] 25)) _ _ _ at hb8
    have hs8 := ho6.src.below h7n
    have hd8 := ho6.rd.below h7n
    have hB7 : Below wd.heap.size wd _ := belT h6 h7n
    have hA8 := hA5.below hB7 hol5
    have hr8 := hr5.below hB7
    have hE8 := hE5.below hB7
    have hB8 := belT hB5 hB7
    clear hA5 hr5 hE5 hB5 hB7 h6 h7n ho6
    go_upto_region 9 with fail
    generalize w6.alloc (.cells #[.string (sqA t), .int .i64 (sqO t), .slice a6 (sqS t).length c6] 25) = w8 at *
    obtain ⟨ad5, cc5, e5, _, _, _⟩ := hr8.open
    subst e5
    obtain ⟨wf, rfl⟩ : ∃ wf : World, wf = w8 := ⟨_, rfl⟩
    have hLs := (sqS_len t).1
    have hOs : -9223372036854775808 ≤ sqO t ∧ sqO t ≤ 9223372036854775807 := by
      rcases Nat.eq_zero_or_pos t.size with h | h
      · have : sqO t = 0 := if_pos h
        omega
      · have := orig_lt h (hO h); rw [sqO_pos h]; omega
    go_cut [64, 65, 66] (fun s64 s65 s66 wx => SqRow2 wf wx s64 ∧ s65 = .int .i64 2 ∧ s66 = .int .i64 0)
    case first =>
      refine wp_region_held_drew (S := (fun w' => w'.cell? ⟨w1.heap.size, 0, none⟩ = some (.string A) ∧ w'.cell? ⟨w1.heap.size, 1, none⟩ = some (.int .i64 O) ∧ w'.cell? ⟨w1.heap.size, 2, none⟩ = some (.slice ad5 l5.length cc5) ∧ w'.cell? ⟨w6.heap.size, 0, none⟩ = some (.string (sqA t)) ∧ w'.cell? ⟨w6.heap.size, 1, none⟩ = some (.int .i64 (sqO t)) ∧ w'.cell? ⟨w6.heap.size, 2, none⟩ = some (.slice a6 (sqS t).length c6) ∧ Below wf.heap.size wf w')) (by kernel_rfl) (RowS.of hA8 hb8 (Below.refl _ _).drew) (fun hHeld => ?_)
      refine wpAnyH_take (i := 0) (oi := ?oie0) (v := ?ve0) ?hie0 (by kernel_rfl) (by kernel_rfl) (by kernel_rfl) ?hqe0 ?hye0 (by assumption) ?_
      case hie0 => (simp only [List.getElem?_toArray, List.getElem?_cons_zero]; rfl)
      case hqe0 => exact fun _ _ _ h => h
      case hye0 => (refine Or.inl ⟨by rfl, ?_⟩; intro w' hSw; (try dsimp only at hSw); (try go_simp); try with_reducible rfl)
      try simp only [Act.put, List.setIfInBounds_toArray, List.set_cons_zero, List.set_cons_succ]
      refine wpAnyH_take (i := 1) (oi := ?oie1) (v := ?ve1) ?hie1 (by kernel_rfl) (by kernel_rfl) (by kernel_rfl) ?hqe1 ?hye1 (by assumption) ?_
      case hie1 => (simp only [List.getElem?_toArray, List.getElem?_cons_succ, List.getElem?_cons_zero]; rfl)
      case hqe1 => exact fun _ _ _ h => h
      case hye1 => (refine Or.inl ⟨by rfl, ?_⟩; intro w' hSw; (try dsimp only at hSw); (try go_simp); try with_reducible rfl)
      try simp only [Act.put, List.setIfInBounds_toArray, List.set_cons_zero, List.set_cons_succ]
      refine wpAnyH_take (i := 2) (oi := ?oie2) (v := ?ve2) ?hie2 (by kernel_rfl) (by kernel_rfl) (by kernel_rfl) ?hqe2 ?hye2 (by assumption) ?_
      case hie2 => (simp only [List.getElem?_toArray, List.getElem?_cons_succ, List.getElem?_cons_zero]; rfl)
      case hqe2 => exact fun _ _ _ h => h
      case hye2 => (refine Or.inl ⟨by rfl, ?_⟩; intro w' hSw; (try dsimp only at hSw); (try go_simp); try with_reducible rfl)
      try simp only [Act.put, List.setIfInBounds_toArray, List.set_cons_zero, List.set_cons_succ]
      refine wpAnyH_take (i := 3) (oi := ?oie3) (v := ?ve3) ?hie3 (by kernel_rfl) (by kernel_rfl) (by kernel_rfl) ?hqe3 ?hye3 (by assumption) ?_
      case hie3 => (simp only [List.getElem?_toArray, List.getElem?_cons_succ, List.getElem?_cons_zero]; rfl)
      case hqe3 => exact fun _ _ _ h => h
      case hye3 => (refine Or.inl ⟨by rfl, ?_⟩; intro w' hSw; (try dsimp only at hSw); (try go_simp); try with_reducible rfl)
      try simp only [Act.put, List.setIfInBounds_toArray, List.set_cons_zero, List.set_cons_succ]
      refine wpAnyH_take (i := 7) (oi := ?oie7) (v := ?ve7) ?hie7 (by kernel_rfl) (by kernel_rfl) (by kernel_rfl) ?hqe7 ?hye7 (by assumption) ?_
      case hie7 => (simp only [List.getElem?_toArray, List.getElem?_cons_succ, List.getElem?_cons_zero]; rfl)
      case hqe7 => exact fun _ _ _ h => h
      case hye7 => (refine Or.inl ⟨by rfl, ?_⟩; intro w' hSw; (try dsimp only at hSw); (try go_simp); try with_reducible rfl)
      try simp only [Act.put, List.setIfInBounds_toArray, List.set_cons_zero, List.set_cons_succ]
      refine wpAnyH_ready (rs := [4]) (by kernel_rfl) (by simp) ?_
      refine AllReadyH.cons rfl (fun K hK => ?_) ?_
      rotate_left
      · exact AllReadyH.nil
      go_simp
      go_at_call 14
      refine (turned_any _ _ _ (sqS t) which x _ (sqA_le t) hOs.1 hOs.2 (hs8.below (Below.refl _ _).drew) (by omega) hw1 hw2 hx1 hx2).mono ?_
      rintro e w9 ⟨a9, o9, v9, l9, rfl, ha9, ho9, hl9, hr9, h9⟩
      obtain ⟨ad9, cc9, e9, _, _, _⟩ := hr9.open
      subst e9
      have hB9 : Below wf.heap.size wf w9 := (Below.refl _ _).drew.trans h9
      (try go_wp2_with fail)
      refine hK.out _ _ (RowS.of hA8 hb8 hB9) (fun hHeld2 => ?_)
      clear hK K
      try simp only [Act.put, List.setIfInBounds_toArray, List.set_cons_zero, List.set_cons_succ]
      refine wpAnyH_ready (rs := [5]) (by kernel_rfl) (by simp) ?_
      refine AllReadyH.cons rfl (fun K hK => ?_) ?_
      rotate_left
      · exact AllReadyH.nil
      go_simp
      have hBa := belA hB9 (.cells #[.string A, .int .i64 O, .slice ad5 l5.length cc5, .string a9, .int .i64 o9, .slice ad9 l9.length cc9] 25)
      refine hK.out _ _ (RowS.of hA8 hb8 hBa) (fun hHeld3 => ?_)
      clear hK K
      try simp only [Act.put, List.setIfInBounds_toArray, List.set_cons_zero, List.set_cons_succ]
      refine wpAnyH_take (i := 6) (oi := ?oie6) (v := ?ve6) ?hie6 (by kernel_rfl) (by kernel_rfl) (by kernel_rfl) ?hqe6 ?hye6 (by assumption) ?_
      case hie6 => (simp only [List.getElem?_toArray, List.getElem?_cons_succ, List.getElem?_cons_zero]; rfl)
      case hqe6 => exact fun _ _ _ h => h
      case hye6 => (refine Or.inl ⟨by rfl, ?_⟩; intro w' hSw; (try dsimp only at hSw); (try go_simp); try with_reducible rfl)
      try simp only [Act.put, List.setIfInBounds_toArray, List.set_cons_zero, List.set_cons_succ]
      refine wpAnyH_done (by kernel_rfl) ?_ _
      go_wp2_with fail
      go_meet
      have hb9n := belA (Below.refl w9.heap.size w9) (.cells #[.string A, .int .i64 O, .slice ad5 l5.length cc5, .string a9, .int .i64 o9, .slice ad9 l9.length cc9] 25)
      exact ⟨⟨w9.heap.size, A, a9, O, o9, _, _, l5, l9, rfl, Arr.new w9 25 [.string A, .int .i64 O, .slice ad5 l5.length cc5, .string a9, .int .i64 o9, .slice ad9 l9.length cc9],
        ⟨hr8.below hBa, hA, by omega, hO1, hO2⟩, ⟨hr9.below hb9n, by omega, by omega, ho9.1, ho9.2⟩, hBa⟩, rfl, rfl⟩
    case rest =>
      obtain ⟨⟨rb, a0, a1, o0, o1, v0, v1, l0, l1, rfl, hrow, i0, i1, hbw⟩, rfl, rfl⟩ := hcut
      obtain ⟨wg, rfl⟩ : ∃ wg : World, wg = wc := ⟨_, rfl⟩
      have hBg := belT hB8 hbw
      have hEg := hE8.below hbw
      have hrl := hrow.lt
      go_wp2_with fail
      go_loopg [66] 2 (fun g i wr => ∃ j : Nat, j ≤ 2 ∧ g = 2 - j ∧ i = .int .i64 j ∧ Below wg.heap.size wg wr)
      case atStart => exact ⟨0, by omega, rfl, rfl, Below.refl _ _⟩
      case round =>
        obtain ⟨j, hj, hg, rfl, hbj⟩ := hrel
        have HG := hid hg
        clear hg
        by_cases hjl : j < 2
        · obtain ⟨q, p, u, m, hin, g0, g1, g2⟩ : ∃ (q : ByteArray) (p : Int) (u : Value) (m : List Int), SqIn wr q p u m ∧ wr.cell? ⟨rb, j * 3, none⟩ = some (.string q) ∧ wr.cell? ⟨rb, j * 3 + 1, none⟩ = some (.int .i64 p) ∧ wr.cell? ⟨rb, j * 3 + 2, none⟩ = some u := by
            have har := hrow.below hbj hrl
            rcases (show j = 0 ∨ j = 1 by omega) with rfl | rfl
            · exact ⟨_, _, _, _, i0.below hbj, har.cell (i := 0) rfl, har.cell (i := 1) rfl, har.cell (i := 2) rfl⟩
            · exact ⟨_, _, _, _, i1.below hbj, har.cell (i := 3) rfl, har.cell (i := 4) rfl, har.cell (i := 5) rfl⟩
          have hd3 : decide ((j : Int) < 2) = true := by simp; omega
          obtain ⟨ad, cd, e, hcd1, hcd2, hcd3⟩ := hin.rd.open
          subst e
          go_wp2_with fail
          have hbx := Arr.new wr 25 [.string q, .int .i64 p, .slice ad m.length cd]
          have hbn : Below wr.heap.size wr (wr.alloc (.cells #[.string q, .int .i64 p, .slice ad m.length cd] 25)) := belA (Below.refl _ _) _
          change Arr (wr.alloc (.cells #[.string q, .int .i64 p, .slice ad m.length cd] 25)) _ _ _ at hbx
          have hin2 := hin.below hbn
          have hBj := belT hbj hbn
          clear g0 g1 g2
          generalize wr.alloc (.cells #[.string q, .int .i64 p, .slice ad m.length cd] 25) = wh at *
          refine (restore_any q p _ m 2000 _ (hEg.below hBj) hin2.sa hin2.rd hin2.sl hin2.o1 hin2.o2 (by decide) (by decide)).mono ?_
          rintro e wo ⟨rfl, hO4⟩
          have hbo := hbx.below hO4 hbx.lt
          have hino := hin2.below hO4
          have hBo := belT hBj hO4
          have hwo : Below wr.heap.size wr wo := belT hbn hO4
          have d0 := hbo.cell (i := 0) rfl
          have d1 := hbo.cell (i := 1) rfl
          have d2 := hbo.cell (i := 2) rfl
          clear hbx hin2 hBj hO4
          rcases rest_keep q p m 2000 with ⟨er, her, her0⟩ | ⟨t2, het, HK⟩
          · rw [her]
            have y1 : (er != 0) = true := by simpa using her0
            have y2 : emptyS.toList = [] := by rw [Lib.toList_data]; rfl
            have y3 : emptyS.toList.isEmpty = true := str_nil rfl
            go_wp2_with fail
            have hg := HG.out
            go_roundg (2 - (j + 1))
            case measure => omega
            case rel => exact ⟨j + 1, by omega, rfl, by go_num, hBo⟩
          · rw [het]
            have hq256 := HK.asz
            have hsl := hino.sl
            have hm2 := HK.two
            obtain ⟨k1, hk1⟩ : ∃ k1, m.length = k1 + 1 := ⟨m.length - 1, by omega⟩
            obtain ⟨b1, o1, rfl, hb1, hc1⟩ := hcd3 (by omega)
            have hlast := HK.last
            rw [hk1, Nat.add_sub_cancel] at hlast
            have cy : wo.cell? ⟨b1, o1 + k1, none⟩ = some (.int .i64 ((q.size : Int) + 1)) := by rw [hwo.cell (p := ⟨b1, o1 + k1, none⟩) hb1]; exact hc1 k1 _ hlast
            have hto : RdI wo (.slice (some ⟨b1, o1, none⟩) k1 cd) (m.take k1) := (takeS hb1 hc1 k1 (by omega) hcd1 hcd2).below hwo
            have z1 : IntKind.i64.wrap ((m.length : Int) - 1) = (k1 : Int) := by rw [IntKind.wrap_i64]; omega
            have z2 : IntKind.i64.wrap ((q.size : Int) + 1) = (q.size : Int) + 1 := by rw [IntKind.wrap_i64]; omega
            have z3 : IntKind.i64.wrap ((q.size : Int) + 2) = (q.size : Int) + 2 := by rw [IntKind.wrap_i64]; omega
            have z4 : decide ((m.length : Int) < 2) = false := decide_eq_false (by omega)
            have z5 : (0 : Int) ≤ (k1 : Int) := by omega
            have z6 : (k1 : Int) < (m.length : Int) := by omega
            have z7 : k1 < m.length := by omega
            have z8 : k1 ≤ cd := by omega
            have z9 : (k1 : Int) ≤ (cd : Int) := by omega
            have HK1 := hid hk1
            clear hk1
            have hb1o : b1 < wo.heap.size := Nat.lt_of_lt_of_le hb1 hwo.size
            go_upto_region 17 with fail
            refine wp_region_held_drew (S := (fun w' => w'.cell? ⟨wr.heap.size, 0, none⟩ = some (.string q) ∧ w'.cell? ⟨wr.heap.size, 1, none⟩ = some (.int .i64 p) ∧ w'.cell? ⟨wr.heap.size, 2, none⟩ = some (.slice (some ⟨b1, o1, none⟩) m.length cd) ∧ w'.cell? ⟨b1, o1 + k1, none⟩ = some (.int .i64 ((q.size : Int) + 1)) ∧ Below wo.heap.size wo w')) (by kernel_rfl) (EndR.of hbo hb1o cy (Below.refl _ _).drew) (fun hHeld => ?_)
            refine wpAnyH_take (i := 0) (oi := ?oim0) (v := ?vm0) ?him0 (by kernel_rfl) (by kernel_rfl) (by kernel_rfl) ?hqm0 ?hym0 (by assumption) ?_
            case him0 => (simp only [List.getElem?_toArray, List.getElem?_cons_zero]; rfl)
            case hqm0 => exact fun _ _ _ h => h
            case hym0 => (refine Or.inl ⟨by rfl, ?_⟩; intro w' hSw; (try dsimp only at hSw); (try go_simp); try with_reducible rfl)
            try simp only [Act.put, List.setIfInBounds_toArray, List.set_cons_zero, List.set_cons_succ]
            refine wpAnyH_take (i := 1) (oi := ?oim1) (v := ?vm1) ?him1 (by kernel_rfl) (by kernel_rfl) (by kernel_rfl) ?hqm1 ?hym1 (by assumption) ?_
            case him1 => (simp only [List.getElem?_toArray, List.getElem?_cons_succ, List.getElem?_cons_zero]; rfl)
            case hqm1 => exact fun _ _ _ h => h
            case hym1 => (refine Or.inl ⟨by rfl, ?_⟩; intro w' hSw; (try dsimp only at hSw); (try go_simp); try with_reducible rfl)
            try simp only [Act.put, List.setIfInBounds_toArray, List.set_cons_zero, List.set_cons_succ]
            refine wpAnyH_take (i := 2) (oi := ?oim2) (v := ?vm2) ?him2 (by kernel_rfl) (by kernel_rfl) (by kernel_rfl) ?hqm2 ?hym2 (by assumption) ?_
            case him2 => (simp only [List.getElem?_toArray, List.getElem?_cons_succ, List.getElem?_cons_zero]; rfl)
            case hqm2 => exact fun _ _ _ h => h
            case hym2 => (refine Or.inl ⟨by rfl, ?_⟩; intro w' hSw; (try dsimp only at hSw); (try go_simp); try with_reducible rfl)
            try simp only [Act.put, List.setIfInBounds_toArray, List.set_cons_zero, List.set_cons_succ]
            refine wpAnyH_take (i := 3) (oi := ?oim3) (v := ?vm3) ?him3 (by kernel_rfl) (by kernel_rfl) (by kernel_rfl) ?hqm3 ?hym3 (by assumption) ?_
            case him3 => (simp only [List.getElem?_toArray, List.getElem?_cons_succ, List.getElem?_cons_zero]; rfl)
            case hqm3 => exact fun _ _ _ h => h
            case hym3 => (refine Or.inl ⟨by rfl, ?_⟩; intro w' hSw; (try dsimp only at hSw); (try go_simp); try with_reducible rfl)
            try simp only [Act.put, List.setIfInBounds_toArray, List.set_cons_zero, List.set_cons_succ]
            refine wpAnyH_take (i := 4) (oi := ?oim4) (v := ?vm4) ?him4 (by kernel_rfl) (by kernel_rfl) (by kernel_rfl) ?hqm4 ?hym4 (by assumption) ?_
            case him4 => (simp only [List.getElem?_toArray, List.getElem?_cons_succ, List.getElem?_cons_zero]; rfl)
            case hqm4 => exact fun _ _ _ h => h
            case hym4 => (refine Or.inl ⟨by rfl, ?_⟩; intro w' hSw; (try dsimp only at hSw); (try go_simp); try with_reducible rfl)
            try simp only [Act.put, List.setIfInBounds_toArray, List.set_cons_zero, List.set_cons_succ]
            refine wpAnyH_take (i := 5) (oi := ?oim5) (v := ?vm5) ?him5 (by kernel_rfl) (by kernel_rfl) (by kernel_rfl) ?hqm5 ?hym5 (by assumption) ?_
            case him5 => (simp only [List.getElem?_toArray, List.getElem?_cons_succ, List.getElem?_cons_zero]; rfl)
            case hqm5 => exact fun _ _ _ h => h
            case hym5 => (refine Or.inl ⟨by rfl, ?_⟩; intro w' hSw; (try dsimp only at hSw); (try go_simp); try with_reducible rfl)
            try simp only [Act.put, List.setIfInBounds_toArray, List.set_cons_zero, List.set_cons_succ]
            refine wpAnyH_take (i := 6) (oi := ?oim6) (v := ?vm6) ?him6 (by kernel_rfl) (by kernel_rfl) (by kernel_rfl) ?hqm6 ?hym6 (by assumption) ?_
            case him6 => (simp only [List.getElem?_toArray, List.getElem?_cons_succ, List.getElem?_cons_zero]; rfl)
            case hqm6 => exact fun _ _ _ h => h
            case hym6 => (refine Or.inl ⟨by rfl, ?_⟩; intro w' hSw; (try dsimp only at hSw); (try go_simp); try with_reducible rfl)
            try simp only [Act.put, List.setIfInBounds_toArray, List.set_cons_zero, List.set_cons_succ]
            refine wpAnyH_take (i := 7) (oi := ?oim7) (v := ?vm7) ?him7 (by kernel_rfl) (by kernel_rfl) (by kernel_rfl) ?hqm7 ?hym7 (by assumption) ?_
            case him7 => (simp only [List.getElem?_toArray, List.getElem?_cons_succ, List.getElem?_cons_zero]; rfl)
            case hqm7 => exact fun _ _ _ h => h
            case hym7 => (refine Or.inl ⟨by rfl, ?_⟩; intro w' hSw; (try dsimp only at hSw); (try go_simp); try with_reducible rfl)
            try simp only [Act.put, List.setIfInBounds_toArray, List.set_cons_zero, List.set_cons_succ]
            refine wpAnyH_take (i := 8) (oi := ?oim8) (v := ?vm8) ?him8 (by kernel_rfl) (by kernel_rfl) (by kernel_rfl) ?hqm8 ?hym8 (by assumption) ?_
            case him8 => (simp only [List.getElem?_toArray, List.getElem?_cons_succ, List.getElem?_cons_zero]; rfl)
            case hqm8 => exact fun _ _ _ h => h
            case hym8 => (refine Or.inl ⟨by rfl, ?_⟩; intro w' hSw; (try dsimp only at hSw); (try go_simp); try with_reducible rfl)
            try simp only [Act.put, List.setIfInBounds_toArray, List.set_cons_zero, List.set_cons_succ]
            refine wpAnyH_take (i := 9) (oi := ?oim9) (v := ?vm9) ?him9 (by kernel_rfl) (by kernel_rfl) (by kernel_rfl) ?hqm9 ?hym9 (by assumption) ?_
            case him9 => (simp only [List.getElem?_toArray, List.getElem?_cons_succ, List.getElem?_cons_zero]; rfl)
            case hqm9 => exact fun _ _ _ h => h
            case hym9 => (refine Or.inl ⟨by rfl, ?_⟩; intro w' hSw; (try dsimp only at hSw); (try go_simp); try with_reducible rfl)
            try simp only [Act.put, List.setIfInBounds_toArray, List.set_cons_zero, List.set_cons_succ]
            refine wpAnyH_take (i := 10) (oi := ?oim10) (v := ?vm10) ?him10 (by kernel_rfl) (by kernel_rfl) (by kernel_rfl) ?hqm10 ?hym10 (by assumption) ?_
            case him10 => (simp only [List.getElem?_toArray, List.getElem?_cons_succ, List.getElem?_cons_zero]; rfl)
            case hqm10 => exact fun _ _ _ h => h
            case hym10 => (refine Or.inl ⟨by rfl, ?_⟩; intro w' hSw; (try dsimp only at hSw); (try go_simp); try with_reducible rfl)
            try simp only [Act.put, List.setIfInBounds_toArray, List.set_cons_zero, List.set_cons_succ]
            refine wpAnyH_take (i := 11) (oi := ?oim11) (v := ?vm11) ?him11 (by kernel_rfl) (by kernel_rfl) (by kernel_rfl) ?hqm11 ?hym11 (by assumption) ?_
            case him11 => (simp only [List.getElem?_toArray, List.getElem?_cons_succ, List.getElem?_cons_zero]; rfl)
            case hqm11 => exact fun _ _ _ h => h
            case hym11 => (refine Or.inl ⟨by rfl, ?_⟩; intro w' hSw; (try dsimp only at hSw); (try go_simp); try with_reducible rfl)
            try simp only [Act.put, List.setIfInBounds_toArray, List.set_cons_zero, List.set_cons_succ]
            refine wpAnyH_take (i := 12) (oi := ?oim12) (v := ?vm12) ?him12 (by kernel_rfl) (by kernel_rfl) (by kernel_rfl) ?hqm12 ?hym12 (by assumption) ?_
            case him12 => (simp only [List.getElem?_toArray, List.getElem?_cons_succ, List.getElem?_cons_zero]; rfl)
            case hqm12 => exact fun _ _ _ h => h
            case hym12 => (refine Or.inl ⟨by rfl, ?_⟩; intro w' hSw; (try dsimp only at hSw); (try go_simp); try with_reducible rfl)
            try simp only [Act.put, List.setIfInBounds_toArray, List.set_cons_zero, List.set_cons_succ]
            refine wpAnyH_take (i := 13) (oi := ?oim13) (v := ?vm13) ?him13 (by kernel_rfl) (by kernel_rfl) (by kernel_rfl) ?hqm13 ?hym13 (by assumption) ?_
            case him13 => (simp only [List.getElem?_toArray, List.getElem?_cons_succ, List.getElem?_cons_zero]; rfl)
            case hqm13 => exact fun _ _ _ h => h
            case hym13 => (refine Or.inl ⟨by rfl, ?_⟩; intro w' hSw; (try dsimp only at hSw); (try go_simp); try with_reducible rfl)
            try simp only [Act.put, List.setIfInBounds_toArray, List.set_cons_zero, List.set_cons_succ]
            refine wpAnyH_take (i := 14) (oi := ?oim14) (v := ?vm14) ?him14 (by kernel_rfl) (by kernel_rfl) (by kernel_rfl) ?hqm14 ?hym14 (by assumption) ?_
            case him14 => (simp only [List.getElem?_toArray, List.getElem?_cons_succ, List.getElem?_cons_zero]; rfl)
            case hqm14 => exact fun _ _ _ h => h
            case hym14 => (refine Or.inl ⟨by rfl, ?_⟩; intro w' hSw; (try dsimp only at hSw); (try go_simp); try with_reducible rfl)
            try simp only [Act.put, List.setIfInBounds_toArray, List.set_cons_zero, List.set_cons_succ]
            refine wpAnyH_take (i := 15) (oi := ?oim15) (v := ?vm15) ?him15 (by kernel_rfl) (by kernel_rfl) (by kernel_rfl) ?hqm15 ?hym15 (by assumption) ?_
            case him15 => (simp only [List.getElem?_toArray, List.getElem?_cons_succ, List.getElem?_cons_zero]; rfl)
            case hqm15 => exact fun _ _ _ h => h
            case hym15 => (refine Or.inl ⟨by rfl, ?_⟩; intro w' hSw; (try dsimp only at hSw); (try go_simp); try with_reducible rfl)
            try simp only [Act.put, List.setIfInBounds_toArray, List.set_cons_zero, List.set_cons_succ]
            refine wpAnyH_take (i := 16) (oi := ?oim16) (v := ?vm16) ?him16 (by kernel_rfl) (by kernel_rfl) (by kernel_rfl) ?hqm16 ?hym16 (by assumption) ?_
            case him16 => (simp only [List.getElem?_toArray, List.getElem?_cons_succ, List.getElem?_cons_zero]; rfl)
            case hqm16 => exact fun _ _ _ h => h
            case hym16 => (refine Or.inl ⟨by rfl, ?_⟩; intro w' hSw; (try dsimp only at hSw); (try go_simp); try with_reducible rfl)
            try simp only [Act.put, List.setIfInBounds_toArray, List.set_cons_zero, List.set_cons_succ]
            refine wpAnyH_take (i := 18) (oi := ?oim18) (v := ?vm18) ?him18 (by kernel_rfl) (by kernel_rfl) (by kernel_rfl) ?hqm18 ?hym18 (by assumption) ?_
            case him18 => (simp only [List.getElem?_toArray, List.getElem?_cons_succ, List.getElem?_cons_zero]; rfl)
            case hqm18 => exact fun _ _ _ h => h
            case hym18 => (refine Or.inl ⟨by rfl, ?_⟩; intro w' hSw; (try dsimp only at hSw); (try go_simp); try with_reducible rfl)
            try simp only [Act.put, List.setIfInBounds_toArray, List.set_cons_zero, List.set_cons_succ]
            refine wpAnyH_take (i := 19) (oi := ?oim19) (v := ?vm19) ?him19 (by kernel_rfl) (by kernel_rfl) (by kernel_rfl) ?hqm19 ?hym19 (by assumption) ?_
            case him19 => (simp only [List.getElem?_toArray, List.getElem?_cons_succ, List.getElem?_cons_zero]; rfl)
            case hqm19 => exact fun _ _ _ h => h
            case hym19 => (refine Or.inl ⟨by rfl, ?_⟩; intro w' hSw; (try dsimp only at hSw); (try go_simp); try with_reducible rfl)
            try simp only [Act.put, List.setIfInBounds_toArray, List.set_cons_zero, List.set_cons_succ]
            refine wpAnyH_take (i := 20) (oi := ?oim20) (v := ?vm20) ?him20 (by kernel_rfl) (by kernel_rfl) (by kernel_rfl) ?hqm20 ?hym20 (by assumption) ?_
            case him20 => (simp only [List.getElem?_toArray, List.getElem?_cons_succ, List.getElem?_cons_zero]; rfl)
            case hqm20 => exact fun _ _ _ h => h
            case hym20 => (refine Or.inl ⟨by rfl, ?_⟩; intro w' hSw; (try dsimp only at hSw); (try go_simp); try with_reducible rfl)
            try simp only [Act.put, List.setIfInBounds_toArray, List.set_cons_zero, List.set_cons_succ]
            refine wpAnyH_take (i := 21) (oi := ?oim21) (v := ?vm21) ?him21 (by kernel_rfl) (by kernel_rfl) (by kernel_rfl) ?hqm21 ?hym21 (by assumption) ?_
            case him21 => (simp only [List.getElem?_toArray, List.getElem?_cons_succ, List.getElem?_cons_zero]; rfl)
            case hqm21 => exact fun _ _ _ h => h
            case hym21 => (refine Or.inl ⟨by rfl, ?_⟩; intro w' hSw; (try dsimp only at hSw); (try go_simp); try with_reducible rfl)
            try simp only [Act.put, List.setIfInBounds_toArray, List.set_cons_zero, List.set_cons_succ]
            refine wpAnyH_ready (rs := [17]) (by kernel_rfl) (by simp) ?_
            refine AllReadyH.cons rfl (fun K hK => ?_) ?_
            rotate_left
            · exact AllReadyH.nil
            go_simp
            go_at_call 15
            refine (codes_any q p _ rfl _ hino.sa).mono ?_
            rintro e wi ⟨rfl, hi⟩
            have hBi : Below wo.heap.size wo wi := (Below.refl _ _).drew.trans hi
            (try go_wp2_with fail)
            refine hK.out _ _ (EndR.of hbo hb1o cy hBi) (fun hHeld2 => ?_)
            clear hK K
            try simp only [Act.put, List.setIfInBounds_toArray, List.set_cons_zero, List.set_cons_succ]
            refine wpAnyH_take (i := 22) (oi := ?oim22) (v := ?vm22) ?him22 (by kernel_rfl) (by kernel_rfl) (by kernel_rfl) ?hqm22 ?hym22 (by assumption) ?_
            case him22 => (simp only [List.getElem?_toArray, List.getElem?_cons_succ, List.getElem?_cons_zero]; rfl)
            case hqm22 => exact fun _ _ _ h => h
            case hym22 => (refine Or.inl ⟨by rfl, ?_⟩; intro w' hSw; (try dsimp only at hSw); (try go_simp); try with_reducible rfl)
            try simp only [Act.put, List.setIfInBounds_toArray, List.set_cons_zero, List.set_cons_succ]
            refine wpAnyH_take (i := 23) (oi := ?oim23) (v := ?vm23) ?him23 (by kernel_rfl) (by kernel_rfl) (by kernel_rfl) ?hqm23 ?hym23 (by assumption) ?_
            case him23 => (simp only [List.getElem?_toArray, List.getElem?_cons_succ, List.getElem?_cons_zero]; rfl)
            case hqm23 => exact fun _ _ _ h => h
            case hym23 => (refine Or.inl ⟨by rfl, ?_⟩; intro w' hSw; (try dsimp only at hSw); (try go_simp); try with_reducible rfl)
            try simp only [Act.put, List.setIfInBounds_toArray, List.set_cons_zero, List.set_cons_succ]
            refine wpAnyH_done (by kernel_rfl) ?_ _
            clear hHeld hHeld2 hi d0 d1 d2
            have hbi := hbo.below hBi hbo.lt
            have hBi2 := belT hBo hBi
            have hti := hto.below hBi
            have d0 := hbi.cell (i := 0) rfl
            have d1 := hbi.cell (i := 1) rfl
            have d2 := hbi.cell (i := 2) rfl
            have hdec := HK.dec
            have hsym := HK.sym
            rw [HK1.out, Nat.add_sub_cancel] at hdec hsym
            have htm := HK.tm
            have hpos := HK.pos
            clear hbo hBo hto hino
            go_wp2_with fail
            refine (decode_all _ (m.take k1) 2000 _ hti (by rw [List.length_take]; omega) (fun x hx => by have := hsym x hx; omega) (by decide) (by decide)).mono ?_
            rintro e wj ⟨vj, rfl, hoj, hj2⟩
            obtain ⟨aj, cj, rfl, _, _, _⟩ := hoj.rd.open
            rw [hdec.1, hdec.2]
            have hbj2 := hbi.below hj2 hbi.lt
            have hBj2 := belT hBi2 hj2
            clear hti hoj hbi hBi2 hj2 d0 d1 d2
            go_wp2_with fail
            refine (sq_any t2 _ (by omega)).mono ?_
            rintro e wk ⟨vk, rfl, hrk, hk2, hOk⟩
            obtain ⟨HE1, HE2⟩ := HK.own (hOk hpos)
            rw [HE1]
            obtain ⟨ak, ck, rfl, _, _, _⟩ := hrk.open
            have hbk := hbj2.below hk2 hbj2.lt
            have hBk := belT hBj2 hk2
            have hnk : Below wk.heap.size wk (wk.alloc (.cells #[.string (sqA t2), .int .i64 (sqO t2), .slice ak (sqS t2).length ck] 25)) := belA (Below.refl _ _) _
            have hck := Arr.new wk 25 [.string (sqA t2), .int .i64 (sqO t2), .slice ak (sqS t2).length ck]
            change Arr (wk.alloc (.cells #[.string (sqA t2), .int .i64 (sqO t2), .slice ak (sqS t2).length ck] 25)) _ _ _ at hck
            have hrk2 := hrk.below hnk
            have hbl := hbk.below hnk hbk.lt
            have hBl := belT hBk hnk
            clear hbj2 hBj2 hk2 hbk hBk hrk
            go_wp2_with fail
            generalize wk.alloc (.cells #[.string (sqA t2), .int .i64 (sqO t2), .slice ak (sqS t2).length ck] 25) = wl at *
            have hLk := (sqS_len t2).1
            have hAk := sqA_le t2
            have hOk2 : -9223372036854775808 ≤ sqO t2 ∧ sqO t2 ≤ 9223372036854775807 := by
              have := orig_lt hpos (hOk hpos); rw [sqO_pos hpos]; omega
            refine (restore_any (sqA t2) (sqO t2) _ (sqS t2) (t2.size : Int) _ (hEg.below hBl) (by omega) hrk2 (by omega) hOk2.1 hOk2.2 (by omega) (by omega)).mono ?_
            rintro e wm ⟨rfl, hm⟩
            rw [HE2]
            have hbm := hbl.below hm hbl.lt
            have hBm := belT hBl hm
            clear hbl hBl hm hck hrk2 hnk
            have n1 : ¬ 9223372036854775807 < q.size + t2.size := by omega
            have n2 : ¬ 9223372036854775807 < (q.size : Int) + (t2.size : Int) := by omega
            have HA := hid HK.alph
            go_upto_region 22 with fail
            refine wp_region_held_drew (S := (fun w' => w'.cell? ⟨wr.heap.size, 0, none⟩ = some (.string q) ∧ Below wm.heap.size wm w')) (by kernel_rfl) ⟨(hbm.below (Below.refl _ _).drew hbm.lt).cell (i := 0) rfl, (Below.refl _ _).drew⟩ (fun hHeld => ?_)
            refine wpAnyH_take (i := 0) (oi := ?oin0) (v := ?vn0) ?hin0 (by kernel_rfl) (by kernel_rfl) (by kernel_rfl) ?hqn0 ?hyn0 (by assumption) ?_
            case hin0 => (simp only [List.getElem?_toArray, List.getElem?_cons_zero]; rfl)
            case hqn0 => exact fun _ _ _ h => h
            case hyn0 => (refine Or.inl ⟨by rfl, ?_⟩; intro w' hSw; (try dsimp only at hSw); (try go_simp); try with_reducible rfl)
            try simp only [Act.put, List.setIfInBounds_toArray, List.set_cons_zero, List.set_cons_succ]
            refine wpAnyH_take (i := 1) (oi := ?oin1) (v := ?vn1) ?hin1 (by kernel_rfl) (by kernel_rfl) (by kernel_rfl) ?hqn1 ?hyn1 (by assumption) ?_
            case hin1 => (simp only [List.getElem?_toArray, List.getElem?_cons_succ, List.getElem?_cons_zero]; rfl)
            case hqn1 => exact fun _ _ _ h => h
            case hyn1 => (refine Or.inl ⟨by rfl, ?_⟩; intro w' hSw; (try dsimp only at hSw); (try go_simp); try with_reducible rfl)
            try simp only [Act.put, List.setIfInBounds_toArray, List.set_cons_zero, List.set_cons_succ]
            refine wpAnyH_take (i := 2) (oi := ?oin2) (v := ?vn2) ?hin2 (by kernel_rfl) (by kernel_rfl) (by kernel_rfl) ?hqn2 ?hyn2 (by assumption) ?_
            case hin2 => (simp only [List.getElem?_toArray, List.getElem?_cons_succ, List.getElem?_cons_zero]; rfl)
            case hqn2 => exact fun _ _ _ h => h
            case hyn2 => (refine Or.inl ⟨by rfl, ?_⟩; intro w' hSw; (try dsimp only at hSw); (try go_simp); try with_reducible rfl)
            try simp only [Act.put, List.setIfInBounds_toArray, List.set_cons_zero, List.set_cons_succ]
            refine wpAnyH_take (i := 3) (oi := ?oin3) (v := ?vn3) ?hin3 (by kernel_rfl) (by kernel_rfl) (by kernel_rfl) ?hqn3 ?hyn3 (by assumption) ?_
            case hin3 => (simp only [List.getElem?_toArray, List.getElem?_cons_succ, List.getElem?_cons_zero]; rfl)
            case hqn3 => exact fun _ _ _ h => h
            case hyn3 => (refine Or.inl ⟨by rfl, ?_⟩; intro w' hSw; (try dsimp only at hSw); (try go_simp); try with_reducible rfl)
            try simp only [Act.put, List.setIfInBounds_toArray, List.set_cons_zero, List.set_cons_succ]
            refine wpAnyH_take (i := 4) (oi := ?oin4) (v := ?vn4) ?hin4 (by kernel_rfl) (by kernel_rfl) (by kernel_rfl) ?hqn4 ?hyn4 (by assumption) ?_
            case hin4 => (simp only [List.getElem?_toArray, List.getElem?_cons_succ, List.getElem?_cons_zero]; rfl)
            case hqn4 => exact fun _ _ _ h => h
            case hyn4 => (refine Or.inl ⟨by rfl, ?_⟩; intro w' hSw; (try dsimp only at hSw); (try go_simp); try with_reducible rfl)
            try simp only [Act.put, List.setIfInBounds_toArray, List.set_cons_zero, List.set_cons_succ]
            refine wpAnyH_take (i := 5) (oi := ?oin5) (v := ?vn5) ?hin5 (by kernel_rfl) (by kernel_rfl) (by kernel_rfl) ?hqn5 ?hyn5 (by assumption) ?_
            case hin5 => (simp only [List.getElem?_toArray, List.getElem?_cons_succ, List.getElem?_cons_zero]; rfl)
            case hqn5 => exact fun _ _ _ h => h
            case hyn5 => (refine Or.inl ⟨by rfl, ?_⟩; intro w' hSw; (try dsimp only at hSw); (try go_simp); try with_reducible rfl)
            try simp only [Act.put, List.setIfInBounds_toArray, List.set_cons_zero, List.set_cons_succ]
            refine wpAnyH_take (i := 6) (oi := ?oin6) (v := ?vn6) ?hin6 (by kernel_rfl) (by kernel_rfl) (by kernel_rfl) ?hqn6 ?hyn6 (by assumption) ?_
            case hin6 => (simp only [List.getElem?_toArray, List.getElem?_cons_succ, List.getElem?_cons_zero]; rfl)
            case hqn6 => exact fun _ _ _ h => h
            case hyn6 => (refine Or.inl ⟨by rfl, ?_⟩; intro w' hSw; (try dsimp only at hSw); (try go_simp); try with_reducible rfl)
            try simp only [Act.put, List.setIfInBounds_toArray, List.set_cons_zero, List.set_cons_succ]
            refine wpAnyH_take (i := 7) (oi := ?oin7) (v := ?vn7) ?hin7 (by kernel_rfl) (by kernel_rfl) (by kernel_rfl) ?hqn7 ?hyn7 (by assumption) ?_
            case hin7 => (simp only [List.getElem?_toArray, List.getElem?_cons_succ, List.getElem?_cons_zero]; rfl)
            case hqn7 => exact fun _ _ _ h => h
            case hyn7 => (refine Or.inl ⟨by rfl, ?_⟩; intro w' hSw; (try dsimp only at hSw); (try go_simp); try with_reducible rfl)
            try simp only [Act.put, List.setIfInBounds_toArray, List.set_cons_zero, List.set_cons_succ]
            refine wpAnyH_take (i := 8) (oi := ?oin8) (v := ?vn8) ?hin8 (by kernel_rfl) (by kernel_rfl) (by kernel_rfl) ?hqn8 ?hyn8 (by assumption) ?_
            case hin8 => (simp only [List.getElem?_toArray, List.getElem?_cons_succ, List.getElem?_cons_zero]; rfl)
            case hqn8 => exact fun _ _ _ h => h
            case hyn8 => (refine Or.inl ⟨by rfl, ?_⟩; intro w' hSw; (try dsimp only at hSw); (try go_simp); try with_reducible rfl)
            try simp only [Act.put, List.setIfInBounds_toArray, List.set_cons_zero, List.set_cons_succ]
            refine wpAnyH_take (i := 9) (oi := ?oin9) (v := ?vn9) ?hin9 (by kernel_rfl) (by kernel_rfl) (by kernel_rfl) ?hqn9 ?hyn9 (by assumption) ?_
            case hin9 => (simp only [List.getElem?_toArray, List.getElem?_cons_succ, List.getElem?_cons_zero]; rfl)
            case hqn9 => exact fun _ _ _ h => h
            case hyn9 => (refine Or.inl ⟨by rfl, ?_⟩; intro w' hSw; (try dsimp only at hSw); (try go_simp); try with_reducible rfl)
            try simp only [Act.put, List.setIfInBounds_toArray, List.set_cons_zero, List.set_cons_succ]
            refine wpAnyH_take (i := 10) (oi := ?oin10) (v := ?vn10) ?hin10 (by kernel_rfl) (by kernel_rfl) (by kernel_rfl) ?hqn10 ?hyn10 (by assumption) ?_
            case hin10 => (simp only [List.getElem?_toArray, List.getElem?_cons_succ, List.getElem?_cons_zero]; rfl)
            case hqn10 => exact fun _ _ _ h => h
            case hyn10 => (refine Or.inl ⟨by rfl, ?_⟩; intro w' hSw; (try dsimp only at hSw); (try go_simp); try with_reducible rfl)
            try simp only [Act.put, List.setIfInBounds_toArray, List.set_cons_zero, List.set_cons_succ]
            refine wpAnyH_take (i := 11) (oi := ?oin11) (v := ?vn11) ?hin11 (by kernel_rfl) (by kernel_rfl) (by kernel_rfl) ?hqn11 ?hyn11 (by assumption) ?_
            case hin11 => (simp only [List.getElem?_toArray, List.getElem?_cons_succ, List.getElem?_cons_zero]; rfl)
            case hqn11 => exact fun _ _ _ h => h
            case hyn11 => (refine Or.inl ⟨by rfl, ?_⟩; intro w' hSw; (try dsimp only at hSw); (try go_simp); try with_reducible rfl)
            try simp only [Act.put, List.setIfInBounds_toArray, List.set_cons_zero, List.set_cons_succ]
            refine wpAnyH_take (i := 12) (oi := ?oin12) (v := ?vn12) ?hin12 (by kernel_rfl) (by kernel_rfl) (by kernel_rfl) ?hqn12 ?hyn12 (by assumption) ?_
            case hin12 => (simp only [List.getElem?_toArray, List.getElem?_cons_succ, List.getElem?_cons_zero]; rfl)
            case hqn12 => exact fun _ _ _ h => h
            case hyn12 => (refine Or.inl ⟨by rfl, ?_⟩; intro w' hSw; (try dsimp only at hSw); (try go_simp); try with_reducible rfl)
            try simp only [Act.put, List.setIfInBounds_toArray, List.set_cons_zero, List.set_cons_succ]
            refine wpAnyH_take (i := 13) (oi := ?oin13) (v := ?vn13) ?hin13 (by kernel_rfl) (by kernel_rfl) (by kernel_rfl) ?hqn13 ?hyn13 (by assumption) ?_
            case hin13 => (simp only [List.getElem?_toArray, List.getElem?_cons_succ, List.getElem?_cons_zero]; rfl)
            case hqn13 => exact fun _ _ _ h => h
            case hyn13 => (refine Or.inl ⟨by rfl, ?_⟩; intro w' hSw; (try dsimp only at hSw); (try go_simp); try with_reducible rfl)
            try simp only [Act.put, List.setIfInBounds_toArray, List.set_cons_zero, List.set_cons_succ]
            refine wpAnyH_take (i := 15) (oi := ?oin15) (v := ?vn15) ?hin15 (by kernel_rfl) (by kernel_rfl) (by kernel_rfl) ?hqn15 ?hyn15 (by assumption) ?_
            case hin15 => (simp only [List.getElem?_toArray, List.getElem?_cons_succ, List.getElem?_cons_zero]; rfl)
            case hqn15 => exact fun _ _ _ h => h
            case hyn15 => (refine Or.inl ⟨by rfl, ?_⟩; intro w' hSw; (try dsimp only at hSw); (try go_simp); try with_reducible rfl)
            try simp only [Act.put, List.setIfInBounds_toArray, List.set_cons_zero, List.set_cons_succ]
            refine wpAnyH_take (i := 16) (oi := ?oin16) (v := ?vn16) ?hin16 (by kernel_rfl) (by kernel_rfl) (by kernel_rfl) ?hqn16 ?hyn16 (by assumption) ?_
            case hin16 => (simp only [List.getElem?_toArray, List.getElem?_cons_succ, List.getElem?_cons_zero]; rfl)
            case hqn16 => exact fun _ _ _ h => h
            case hyn16 => (refine Or.inl ⟨by rfl, ?_⟩; intro w' hSw; (try dsimp only at hSw); (try go_simp); try with_reducible rfl)
            try simp only [Act.put, List.setIfInBounds_toArray, List.set_cons_zero, List.set_cons_succ]
            refine wpAnyH_ready (rs := [14]) (by kernel_rfl) (by simp) ?_
            refine AllReadyH.cons rfl (fun K hK => ?_) ?_
            rotate_left
            · exact AllReadyH.nil
            go_simp
            go_at_call 21
            refine (alphabet_any (q ++ t2) _ (by simp; omega)).mono ?_
            rintro e wn ⟨rfl, hn⟩
            rw [HA.out]
            have hBn : Below wm.heap.size wm wn := (Below.refl _ _).drew.trans hn
            (try go_wp2_with fail)
            refine hK.out _ _ ⟨(hbm.below hBn hbm.lt).cell (i := 0) rfl, hBn⟩ (fun hHeld2 => ?_)
            clear hK K
            try simp only [Act.put, List.setIfInBounds_toArray, List.set_cons_zero, List.set_cons_succ]
            refine wpAnyH_take (i := 17) (oi := ?oin17) (v := ?vn17) ?hin17 (by kernel_rfl) (by kernel_rfl) (by kernel_rfl) ?hqn17 ?hyn17 (by assumption) ?_
            case hin17 => (simp only [List.getElem?_toArray, List.getElem?_cons_succ, List.getElem?_cons_zero]; rfl)
            case hqn17 => exact fun _ _ _ h => h
            case hyn17 => (refine Or.inl ⟨by rfl, ?_⟩; intro w' hSw; (try dsimp only at hSw); (try go_simp); try with_reducible rfl)
            try simp only [Act.put, List.setIfInBounds_toArray, List.set_cons_zero, List.set_cons_succ]
            refine wpAnyH_take (i := 18) (oi := ?oin18) (v := ?vn18) ?hin18 (by kernel_rfl) (by kernel_rfl) (by kernel_rfl) ?hqn18 ?hyn18 (by assumption) ?_
            case hin18 => (simp only [List.getElem?_toArray, List.getElem?_cons_succ, List.getElem?_cons_zero]; rfl)
            case hqn18 => exact fun _ _ _ h => h
            case hyn18 => (refine Or.inl ⟨by rfl, ?_⟩; intro w' hSw; (try dsimp only at hSw); (try go_simp); try with_reducible rfl)
            try simp only [Act.put, List.setIfInBounds_toArray, List.set_cons_zero, List.set_cons_succ]
            refine wpAnyH_take (i := 19) (oi := ?oin19) (v := ?vn19) ?hin19 (by kernel_rfl) (by kernel_rfl) (by kernel_rfl) ?hqn19 ?hyn19 (by assumption) ?_
            case hin19 => (simp only [List.getElem?_toArray, List.getElem?_cons_succ, List.getElem?_cons_zero]; rfl)
            case hqn19 => exact fun _ _ _ h => h
            case hyn19 => (refine Or.inl ⟨by rfl, ?_⟩; intro w' hSw; (try dsimp only at hSw); (try go_simp); try with_reducible rfl)
            try simp only [Act.put, List.setIfInBounds_toArray, List.set_cons_zero, List.set_cons_succ]
            refine wpAnyH_take (i := 20) (oi := ?oin20) (v := ?vn20) ?hin20 (by kernel_rfl) (by kernel_rfl) (by kernel_rfl) ?hqn20 ?hyn20 (by assumption) ?_
            case hin20 => (simp only [List.getElem?_toArray, List.getElem?_cons_succ, List.getElem?_cons_zero]; rfl)
            case hqn20 => exact fun _ _ _ h => h
            case hyn20 => (refine Or.inl ⟨by rfl, ?_⟩; intro w' hSw; (try dsimp only at hSw); (try go_simp); try with_reducible rfl)
            try simp only [Act.put, List.setIfInBounds_toArray, List.set_cons_zero, List.set_cons_succ]
            refine wpAnyH_take (i := 21) (oi := ?oin21) (v := ?vn21) ?hin21 (by kernel_rfl) (by kernel_rfl) (by kernel_rfl) ?hqn21 ?hyn21 (by assumption) ?_
            case hin21 => (simp only [List.getElem?_toArray, List.getElem?_cons_succ, List.getElem?_cons_zero]; rfl)
            case hqn21 => exact fun _ _ _ h => h
            case hyn21 => (refine Or.inl ⟨by rfl, ?_⟩; intro w' hSw; (try dsimp only at hSw); (try go_simp); try with_reducible rfl)
            try simp only [Act.put, List.setIfInBounds_toArray, List.set_cons_zero, List.set_cons_succ]
            refine wpAnyH_take (i := 22) (oi := ?oin22) (v := ?vn22) ?hin22 (by kernel_rfl) (by kernel_rfl) (by kernel_rfl) ?hqn22 ?hyn22 (by assumption) ?_
            case hin22 => (simp only [List.getElem?_toArray, List.getElem?_cons_succ, List.getElem?_cons_zero]; rfl)
            case hqn22 => exact fun _ _ _ h => h
            case hyn22 => (refine Or.inl ⟨by rfl, ?_⟩; intro w' hSw; (try dsimp only at hSw); (try go_simp); try with_reducible rfl)
            try simp only [Act.put, List.setIfInBounds_toArray, List.set_cons_zero, List.set_cons_succ]
            refine wpAnyH_take (i := 23) (oi := ?oin23) (v := ?vn23) ?hin23 (by kernel_rfl) (by kernel_rfl) (by kernel_rfl) ?hqn23 ?hyn23 (by assumption) ?_
            case hin23 => (simp only [List.getElem?_toArray, List.getElem?_cons_succ, List.getElem?_cons_zero]; rfl)
            case hqn23 => exact fun _ _ _ h => h
            case hyn23 => (refine Or.inl ⟨by rfl, ?_⟩; intro w' hSw; (try dsimp only at hSw); (try go_simp); try with_reducible rfl)
            try simp only [Act.put, List.setIfInBounds_toArray, List.set_cons_zero, List.set_cons_succ]
            refine wpAnyH_take (i := 24) (oi := ?oin24) (v := ?vn24) ?hin24 (by kernel_rfl) (by kernel_rfl) (by kernel_rfl) ?hqn24 ?hyn24 (by assumption) ?_
            case hin24 => (simp only [List.getElem?_toArray, List.getElem?_cons_succ, List.getElem?_cons_zero]; rfl)
            case hqn24 => exact fun _ _ _ h => h
            case hyn24 => (refine Or.inl ⟨by rfl, ?_⟩; intro w' hSw; (try dsimp only at hSw); (try go_simp); try with_reducible rfl)
            try simp only [Act.put, List.setIfInBounds_toArray, List.set_cons_zero, List.set_cons_succ]
            refine wpAnyH_take (i := 25) (oi := ?oin25) (v := ?vn25) ?hin25 (by kernel_rfl) (by kernel_rfl) (by kernel_rfl) ?hqn25 ?hyn25 (by assumption) ?_
            case hin25 => (simp only [List.getElem?_toArray, List.getElem?_cons_succ, List.getElem?_cons_zero]; rfl)
            case hqn25 => exact fun _ _ _ h => h
            case hyn25 => (refine Or.inl ⟨by rfl, ?_⟩; intro w' hSw; (try dsimp only at hSw); (try go_simp); try with_reducible rfl)
            try simp only [Act.put, List.setIfInBounds_toArray, List.set_cons_zero, List.set_cons_succ]
            refine wpAnyH_take (i := 26) (oi := ?oin26) (v := ?vn26) ?hin26 (by kernel_rfl) (by kernel_rfl) (by kernel_rfl) ?hqn26 ?hyn26 (by assumption) ?_
            case hin26 => (simp only [List.getElem?_toArray, List.getElem?_cons_succ, List.getElem?_cons_zero]; rfl)
            case hqn26 => exact fun _ _ _ h => h
            case hyn26 => (refine Or.inl ⟨by rfl, ?_⟩; intro w' hSw; (try dsimp only at hSw); (try go_simp); try with_reducible rfl)
            try simp only [Act.put, List.setIfInBounds_toArray, List.set_cons_zero, List.set_cons_succ]
            refine wpAnyH_take (i := 27) (oi := ?oin27) (v := ?vn27) ?hin27 (by kernel_rfl) (by kernel_rfl) (by kernel_rfl) ?hqn27 ?hyn27 (by assumption) ?_
            case hin27 => (simp only [List.getElem?_toArray, List.getElem?_cons_succ, List.getElem?_cons_zero]; rfl)
            case hqn27 => exact fun _ _ _ h => h
            case hyn27 => (refine Or.inl ⟨by rfl, ?_⟩; intro w' hSw; (try dsimp only at hSw); (try go_simp); try with_reducible rfl)
            try simp only [Act.put, List.setIfInBounds_toArray, List.set_cons_zero, List.set_cons_succ]
            refine wpAnyH_take (i := 28) (oi := ?oin28) (v := ?vn28) ?hin28 (by kernel_rfl) (by kernel_rfl) (by kernel_rfl) ?hqn28 ?hyn28 (by assumption) ?_
            case hin28 => (simp only [List.getElem?_toArray, List.getElem?_cons_succ, List.getElem?_cons_zero]; rfl)
            case hqn28 => exact fun _ _ _ h => h
            case hyn28 => (refine Or.inl ⟨by rfl, ?_⟩; intro w' hSw; (try dsimp only at hSw); (try go_simp); try with_reducible rfl)
            try simp only [Act.put, List.setIfInBounds_toArray, List.set_cons_zero, List.set_cons_succ]
            refine wpAnyH_take (i := 29) (oi := ?oin29) (v := ?vn29) ?hin29 (by kernel_rfl) (by kernel_rfl) (by kernel_rfl) ?hqn29 ?hyn29 (by assumption) ?_
            case hin29 => (simp only [List.getElem?_toArray, List.getElem?_cons_succ, List.getElem?_cons_zero]; rfl)
            case hqn29 => exact fun _ _ _ h => h
            case hyn29 => (refine Or.inl ⟨by rfl, ?_⟩; intro w' hSw; (try dsimp only at hSw); (try go_simp); try with_reducible rfl)
            try simp only [Act.put, List.setIfInBounds_toArray, List.set_cons_zero, List.set_cons_succ]
            refine wpAnyH_take (i := 30) (oi := ?oin30) (v := ?vn30) ?hin30 (by kernel_rfl) (by kernel_rfl) (by kernel_rfl) ?hqn30 ?hyn30 (by assumption) ?_
            case hin30 => (simp only [List.getElem?_toArray, List.getElem?_cons_succ, List.getElem?_cons_zero]; rfl)
            case hqn30 => exact fun _ _ _ h => h
            case hyn30 => (refine Or.inl ⟨by rfl, ?_⟩; intro w' hSw; (try dsimp only at hSw); (try go_simp); try with_reducible rfl)
            try simp only [Act.put, List.setIfInBounds_toArray, List.set_cons_zero, List.set_cons_succ]
            refine wpAnyH_take (i := 31) (oi := ?oin31) (v := ?vn31) ?hin31 (by kernel_rfl) (by kernel_rfl) (by kernel_rfl) ?hqn31 ?hyn31 (by assumption) ?_
            case hin31 => (simp only [List.getElem?_toArray, List.getElem?_cons_succ, List.getElem?_cons_zero]; rfl)
            case hqn31 => exact fun _ _ _ h => h
            case hyn31 => (refine Or.inl ⟨by rfl, ?_⟩; intro w' hSw; (try dsimp only at hSw); (try go_simp); try with_reducible rfl)
            try simp only [Act.put, List.setIfInBounds_toArray, List.set_cons_zero, List.set_cons_succ]
            refine wpAnyH_done (by kernel_rfl) ?_ _
            go_wp2_with fail
            have hg := HG.out
            go_roundg (2 - (j + 1))
            case measure => omega
            case rel => exact ⟨j + 1, by omega, rfl, by go_num, belT hBm hBn⟩
        · have hd3 : decide ((j : Int) < 2) = false := by simp; omega
          go_wp2_with fail
          go_ret
          exact ⟨rfl, hBg.trans (hbj.mono hBg.size)⟩

end Go.Proofs.YthjmpiekjfnoiaaGreatDoor
