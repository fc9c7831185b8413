/-
  The walk of the statement SqueezeTells.
-/
import Derived.Test.YthjmpiekjfnoiaaGreatDoorZ8
import Derived.Deep.CutBlock
namespace Go.Proofs.YthjmpiekjfnoiaaGreatDoor
open Go.RowKit Go.Shelf

def mins (l : List Int) : List Int := l.map (fun x => min x 1099511627776)
theorem mins_succ {l : List Int} {k : Nat} {x : Int} (h : l[k]? = some x) : mins (l.take (k + 1)) = mins (l.take k) ++ [min x 1099511627776] := by
  unfold mins
  rw [List.take_add_one, h, List.map_append]; rfl
theorem mins_length (l : List Int) : (mins l).length = l.length := List.length_map _

/-- One squeezed text among those that a statement goes through. -/
structure SqIn (w : World) (a : ByteArray) (o : Int) (v : Value) (l : List Int) : Prop where
  rd : RdI w v l
  sa : a.size ≤ 140737488355328
  sl : l.length ≤ 100000
  o1 : -9223372036854775808 ≤ o
  o2 : o ≤ 9223372036854775807
theorem SqIn.below {w w' : World} {a : ByteArray} {o : Int} {v : Value} {l : List Int} (h : SqIn w a o v l) (hb : Below w.heap.size w w') : SqIn w' a o v l := ⟨h.rd.below hb, h.sa, h.sl, h.o1, h.o2⟩
/-- The row of three squeezed texts that the statement goes through. -/
def SqRow (w wx : World) (s : Value) : Prop := ∃ (b : Nat) (a0 a1 a2 : ByteArray) (o0 o1 o2 : Int) (v0 v1 v2 : Value) (l0 l1 l2 : List Int), s = .slice (some ⟨b, 0, none⟩) 3 3 ∧
  Arr wx b 25 [.string a0, .int .i64 o0, v0, .string a1, .int .i64 o1, v1, .string a2, .int .i64 o2, v2] ∧ SqIn wx a0 o0 v0 l0 ∧ SqIn wx a1 o1 v1 l1 ∧ SqIn wx a2 o2 v2 l2 ∧ Below w.heap.size w wx

/-- What the region that appends reads. -/
abbrev OddS (B qb b q : Nat) (V : Value) (x : Int) (w' : World) : Prop :=
  w'.cell? ⟨qb, 2, none⟩ = some V ∧ w'.cell? ⟨b, q, none⟩ = some (.int .i64 x) ∧ B < w'.heap.size

/-- What the region reads that lays the row. -/
abbrev RowS (W : World) (b1 b2 : Nat) (A1 A2 : ByteArray) (o1 o2 : Int) (v1 v2 : Value) (w' : World) : Prop :=
  w'.cell? ⟨b1, 0, none⟩ = some (.string A1) ∧ w'.cell? ⟨b1, 1, none⟩ = some (.int .i64 o1) ∧ w'.cell? ⟨b1, 2, none⟩ = some v1 ∧ w'.cell? ⟨b2, 0, none⟩ = some (.string A2) ∧ w'.cell? ⟨b2, 1, none⟩ = some (.int .i64 o2) ∧ w'.cell? ⟨b2, 2, none⟩ = some v2 ∧ Below W.heap.size W w'
theorem RowS.of {W w' : World} {b1 b2 : Nat} {A1 A2 : ByteArray} {o1 o2 : Int} {v1 v2 : Value} (h1 : Arr W b1 25 [.string A1, .int .i64 o1, v1]) (h2 : Arr W b2 25 [.string A2, .int .i64 o2, v2]) (hb : Below W.heap.size W w') : RowS W b1 b2 A1 A2 o1 o2 v1 v2 w' :=
  ⟨(h1.below hb h1.lt).cell (i := 0) rfl, (h1.below hb h1.lt).cell (i := 1) rfl, (h1.below hb h1.lt).cell (i := 2) rfl, (h2.below hb h2.lt).cell (i := 0) rfl, (h2.below hb h2.lt).cell (i := 1) rfl, (h2.below hb h2.lt).cell (i := 2) rfl, hb⟩

set_option maxRecDepth 100000 in
set_option maxHeartbeats 3200000 in
theorem squeezeTells_any (s : ByteArray) (v : Value) (raw : List (Int × Int)) (A : ByteArray) (O : Int) (V : Value) (l : List Int) (which x most : Int) (w : World) (hE : ErrVar w) (_hs : s.size ≤ maxLen) (hr : RdP w v raw) (hwf : WfP raw)
    (hA : A.size ≤ 140737488355328) (hO1 : -9223372036854775808 ≤ O) (hO2 : O ≤ 9223372036854775807) (hV : RdI w V l) (hlw : WfI l)
    (hw1 : -9223372036854775808 ≤ which) (hw2 : which ≤ 9223372036854775807) (hx1 : -9223372036854775808 ≤ x) (hx2 : x ≤ 9223372036854775807) (hm1 : -9223372036854775808 ≤ most) (hm2 : most ≤ 9223372036854775807) :
    Calls Tryz.prog 3 #[.string s, v, .agg #[.string A, .int .i64 O, V], .int .i64 which, .int .i64 x, .int .i64 most] w fun e w' => e = .returned (.bool true) ∧ Below w.heap.size w w' := by
  unfold maxLen at _hs
  obtain ⟨aV, cV, rfl, hlV, hcV, hVV⟩ := hV.open
  unfold maxLen at hcV
  go_enter Tryz.func3, Tryz.ntmps3
  go_wp2_with fail
  have hb0 : Below w.heap.size w (w.alloc (.cells #[.string A, .int .i64 O, .slice aV l.length cV] 25)) := belA (Below.refl _ _) _
  have hQ0 := Arr.new w 25 [.string A, .int .i64 O, .slice aV l.length cV]
  change Arr (w.alloc (.cells #[.string A, .int .i64 O, .slice aV l.length cV] 25)) _ _ _ at hQ0
  generalize w.alloc (.cells #[.string A, .int .i64 O, .slice aV l.length cV] 25) = w0 at *
  refine (awake15_any _ (hE.below hb0)).mono ?_
  rintro e w1 ⟨rfl, h1⟩
  have hQ1 := hQ0.below h1 hQ0.lt
  have hB1 := belT hb0 h1
  have q0 := hQ1.cell (i := 0) rfl
  have q1 := hQ1.cell (i := 1) rfl
  have q2 := hQ1.cell (i := 2) rfl
  clear hQ0 hb0 h1
  go_upto_block 0 with fail
  have hB2 := belA hB1 (.cells #[.string A, .int .i64 O, .slice none 0 0] 25)
  have hO2' := Arr.new w1 25 [.string A, .int .i64 O, .slice none 0 0]
  have hQ2 := hQ1.alloc (.cells #[.string A, .int .i64 O, .slice none 0 0] 25)
  change Arr (w1.alloc (.cells #[.string A, .int .i64 O, .slice none 0 0] 25)) _ _ _ at hO2'
  generalize w1.alloc (.cells #[.string A, .int .i64 O, .slice none 0 0] 25) = w2 at *
  have hql := hQ2.lt
  have hol := hO2'.lt
  have hqw : w.heap.size < w1.heap.size := hQ1.lt
  clear q0 q1 q2 hQ1 hB1
  have HVV := hid hVV
  clear hVV
  go_cut [15] (fun _s15 wx => ∃ v' l', Arr wx w1.heap.size 25 [.string A, .int .i64 O, v'] ∧ RdI wx v' l' ∧ l'.length ≤ 40 ∧ Below w.heap.size w wx)
  case first =>
    go_wp2_with fail
    go_loopg [15] 40 (fun g i wr => ∃ (k : Nat) (v' : Value), k ≤ 40 ∧ k ≤ l.length ∧ g = 40 - k ∧ i = .int .i64 k ∧ Arr wr w1.heap.size 25 [.string A, .int .i64 O, v'] ∧ OwI wr (w1.heap.size + 1) v' (mins (l.take k)) ∧ Below w.heap.size w wr ∧ Below w1.heap.size w2 wr)
    case atStart => exact ⟨0, _, by omega, by omega, rfl, rfl, hO2', OwI.nil _ _, hB2, Below.refl _ _⟩
    case round =>
      obtain ⟨k, v', hk, hkl, hg, rfl, hArr, hown, hbel, hb2⟩ := hrel
      have HG := hid hg
      clear hg
      have hQr := hQ2.below hb2 hqw
      have q0 := hQr.cell (i := 0) rfl
      have q1 := hQr.cell (i := 1) rfl
      have q2 := hQr.cell (i := 2) rfl
      have hlk : (mins (l.take k)).length = k := by rw [mins_length, List.length_take]; omega
      have hfin := hid (show ∃ v' l', Arr wr w1.heap.size 25 [.string A, .int .i64 O, v'] ∧ RdI wr v' l' ∧ l'.length ≤ 40 ∧ Below w.heap.size w wr from ⟨v', _, hArr, hown.rd, by omega, hbel⟩)
      by_cases hlt : k < l.length
      · by_cases hl4 : k < 40
        · have t1 : decide ((k : Int) < 40) = true := decide_eq_true (by omega)
          have t2 : decide ((k : Int) < (l.length : Int)) = true := decide_eq_true (by omega)
          obtain ⟨b1, o1, rfl, hb1, hc1⟩ := HVV.out (by omega)
          obtain ⟨y, hy⟩ := getI hlt
          have cy : wr.cell? ⟨b1, o1 + k, none⟩ = some (.int .i64 y) := by rw [hbel.cell (p := ⟨b1, o1 + k, none⟩) hb1]; exact hc1 k y hy
          obtain ⟨a', c', rfl, _, _, _⟩ := hown.rd.open
          have g2 := hArr.cell (i := 2) rfl
          have hyb := hlw.get hy
          have HS := hid (mins_succ hy)
          obtain ⟨z, hz⟩ : ∃ z, z = min y 1099511627776 := ⟨_, rfl⟩
          have z1 : (if (1099511627776 : Int) < y then (1099511627776 : Int) else y) = z := by rw [hz, Int.min_def]; split <;> split <;> omega
          have z2 : min y 1099511627776 = z := hz.symm
          rw [← hz] at HS
          have HL := hid hlk
          have hownK := hown
          rw [hlk] at g2 hownK
          have u1 : (k : Int) < (l.length : Int) := by omega
          have u2 : (0 : Int) ≤ (k : Int) := by omega
          clear hz hc1 hy hfin hlk
          have hsr := hb2.size
          have hbA : Below w.heap.size w (wr.alloc (.cells #[.int .i64 z] 3)).drew := (belA hbel _).drew
          have hb2A : Below w1.heap.size w2 (wr.alloc (.cells #[.int .i64 z] 3)).drew := (hb2.alloc (by omega) _).drew
          have hoA : OwI (wr.alloc (.cells #[.int .i64 z] 3)).drew (w1.heap.size + 1) (.slice a' k c') (mins (l.take k)) := hownK.alloc _
          have arA : Arr (wr.alloc (.cells #[.int .i64 z] 3)).drew w1.heap.size 25 [.string A, .int .i64 O, .slice a' k c'] := by have := hArr.alloc (.cells #[.int .i64 z] 3); rw [HL.out] at this; exact this
          have g2A := arA.cell (i := 2) rfl
          have srA : SrcI (wr.alloc (.cells #[.int .i64 z] 3)).drew (.slice (some ⟨wr.heap.size, 0, none⟩) 1 1) [z] := src_new wr _ _
          have szA : w1.heap.size + 1 ≤ (wr.alloc (.cells #[.int .i64 z] 3)).drew.heap.size := by show w1.heap.size + 1 ≤ (wr.alloc _).heap.size; simp; omega
          have qA : (wr.alloc (.cells #[.int .i64 z] 3)).drew.cell? ⟨w.heap.size, 2, none⟩ = some (.slice (some ⟨b1, o1, none⟩) l.length cV) ∧ (wr.alloc (.cells #[.int .i64 z] 3)).drew.cell? ⟨b1, o1 + k, none⟩ = some (.int .i64 y) ∧ w1.heap.size < (wr.alloc (.cells #[.int .i64 z] 3)).drew.heap.size :=
            ⟨(World.cell?_alloc_lt _ _ ⟨w.heap.size, 2, none⟩ (by show w.heap.size < wr.heap.size; omega)).trans q2, (World.cell?_alloc_lt _ _ ⟨b1, o1 + k, none⟩ (by show b1 < wr.heap.size; have := hbel.size; omega)).trans cy, szA⟩
          have s0 : OddS w1.heap.size w.heap.size b1 (o1 + k) (.slice (some ⟨b1, o1, none⟩) l.length cV) y wr.drew := ⟨q2, cy, Nat.lt_of_lt_of_le hol hb2.size⟩
          go_upto_region 7 with fail
          refine wp_region_held_drew (S := (fun w' => w'.cell? ⟨w.heap.size, 2, none⟩ = some (.slice (some ⟨b1, o1, none⟩) l.length cV) ∧ w'.cell? ⟨b1, o1 + k, none⟩ = some (.int .i64 y) ∧ w1.heap.size < w'.heap.size)) (by kernel_rfl) s0 (fun hHeld => ?_)
          refine wpAnyH_take (i := 0) (oi := ?oia0) (v := ?va0) ?hia0 (by kernel_rfl) (by kernel_rfl) (by kernel_rfl) ?hqa0 ?hya0 (by assumption) ?_
          case hia0 => (simp only [List.getElem?_toArray, List.getElem?_cons_zero]; rfl)
          case hqa0 => exact fun _ _ _ h => h
          case hya0 => (refine Or.inl ⟨by rfl, ?_⟩; intro w' hSw; (try dsimp only at hSw); (try go_simp); try with_reducible rfl)
          try simp only [Act.put, List.setIfInBounds_toArray, List.set_cons_zero, List.set_cons_succ]
          refine wpAnyH_take (i := 2) (oi := ?oia2) (v := ?va2) ?hia2 (by kernel_rfl) (by kernel_rfl) (by kernel_rfl) ?hqa2 ?hya2 (by assumption) ?_
          case hia2 => (simp only [List.getElem?_toArray, List.getElem?_cons_succ, List.getElem?_cons_zero]; rfl)
          case hqa2 => exact fun _ _ _ h => h
          case hya2 => (refine Or.inl ⟨by rfl, ?_⟩; intro w' hSw; (try dsimp only at hSw); (try go_simp); try with_reducible rfl)
          try simp only [Act.put, List.setIfInBounds_toArray, List.set_cons_zero, List.set_cons_succ]
          refine wpAnyH_take (i := 3) (oi := ?oia3) (v := ?va3) ?hia3 (by kernel_rfl) (by kernel_rfl) (by kernel_rfl) ?hqa3 ?hya3 (by assumption) ?_
          case hia3 => (simp only [List.getElem?_toArray, List.getElem?_cons_succ, List.getElem?_cons_zero]; rfl)
          case hqa3 => exact fun _ _ _ h => h
          case hya3 => (refine Or.inl ⟨by rfl, ?_⟩; intro w' hSw; (try dsimp only at hSw); (try go_simp); try with_reducible rfl)
          try simp only [Act.put, List.setIfInBounds_toArray, List.set_cons_zero, List.set_cons_succ]
          refine wpAnyH_take (i := 4) (oi := ?oia4) (v := ?va4) ?hia4 (by kernel_rfl) (by kernel_rfl) (by kernel_rfl) ?hqa4 ?hya4 (by assumption) ?_
          case hia4 => (simp only [List.getElem?_toArray, List.getElem?_cons_succ, List.getElem?_cons_zero]; rfl)
          case hqa4 => exact fun _ _ _ h => h
          case hya4 => (refine Or.inl ⟨by rfl, ?_⟩; intro w' hSw; (try dsimp only at hSw); (try go_simp); try with_reducible rfl)
          try simp only [Act.put, List.setIfInBounds_toArray, List.set_cons_zero, List.set_cons_succ]
          refine wpAnyH_take (i := 5) (oi := ?oia5) (v := ?va5) ?hia5 (by kernel_rfl) (by kernel_rfl) (by kernel_rfl) ?hqa5 ?hya5 (by assumption) ?_
          case hia5 => (simp only [List.getElem?_toArray, List.getElem?_cons_succ, List.getElem?_cons_zero]; rfl)
          case hqa5 => exact fun _ _ _ h => h
          case hya5 => (refine Or.inl ⟨by rfl, ?_⟩; intro w' hSw; (try dsimp only at hSw); (try go_simp); try with_reducible rfl)
          try simp only [Act.put, List.setIfInBounds_toArray, List.set_cons_zero, List.set_cons_succ]
          refine wpAnyH_take (i := 6) (oi := ?oia6) (v := ?va6) ?hia6 (by kernel_rfl) (by kernel_rfl) (by kernel_rfl) ?hqa6 ?hya6 (by assumption) ?_
          case hia6 => (simp only [List.getElem?_toArray, List.getElem?_cons_succ, List.getElem?_cons_zero]; rfl)
          case hqa6 => exact fun _ _ _ h => h
          case hya6 => (refine Or.inl ⟨by rfl, ?_⟩; intro w' hSw; (try dsimp only at hSw); (try go_simp); try with_reducible rfl)
          try simp only [Act.put, List.setIfInBounds_toArray, List.set_cons_zero, List.set_cons_succ]
          refine wpAnyH_take (i := 7) (oi := ?oia7) (v := ?va7) ?hia7 (by kernel_rfl) (by kernel_rfl) (by kernel_rfl) ?hqa7 ?hya7 (by assumption) ?_
          case hia7 => (simp only [List.getElem?_toArray, List.getElem?_cons_succ, List.getElem?_cons_zero]; rfl)
          case hqa7 => exact fun _ _ _ h => h
          case hya7 => (refine Or.inl ⟨by rfl, ?_⟩; intro w' hSw; (try dsimp only at hSw); (try go_simp); try with_reducible rfl)
          try simp only [Act.put, List.setIfInBounds_toArray, List.set_cons_zero, List.set_cons_succ]
          refine wpAnyH_ready (rs := [1, 8]) (by kernel_rfl) (by simp) ?_
          refine AllReadyH.cons rfl (fun K hK => ?_) (AllReadyH.cons rfl (fun K hK => ?_) AllReadyH.nil)
          · go_simp
            refine hK.out _ _ s0 (fun hHeld => ?_)
            clear hK K
            try simp only [Act.put, List.setIfInBounds_toArray, List.set_cons_zero, List.set_cons_succ]
            refine wpAnyH_ready (rs := [8]) (by kernel_rfl) (by simp) ?_
            refine AllReadyH.cons rfl (fun K hK => ?_) ?_
            rotate_left
            · exact AllReadyH.nil
            go_simp
            refine hK.out _ _ qA (fun hHeld => ?_)
            clear hK K
            try simp only [Act.put, List.setIfInBounds_toArray, List.set_cons_zero, List.set_cons_succ]
            refine wpAnyH_ready (rs := [9]) (by kernel_rfl) (by simp) ?_
            refine AllReadyH.cons rfl (fun K hK => ?_) ?_
            rotate_left
            · exact AllReadyH.nil
            refine stepAppL rfl _ _ rfl (w1.heap.size + 1) (.slice a' k c') (mins (l.take k)) rfl hoA _ [z] rfl srA (by rw [HL.out]; simp; omega) szA (fun v5 w5 hown5 hB5 hg5 => ?_)
            rw [← HS.out] at hown5
            have hl5 : (mins (l.take (k + 1))).length = k + 1 := by rw [mins_length, List.length_take]; omega
            obtain ⟨a5, c5, e5, _, _, _⟩ := hown5.rd.open
            rw [hl5] at e5
            subst e5
            have sz5 : w1.heap.size < w5.heap.size := Nat.lt_of_lt_of_le szA hB5.size
            have hA5 := arA.below hB5 (Nat.lt_succ_self _)
            have f2 := hA5.cell (i := 2) rfl
            have ff := hA5.free
            have r1 : w5.cell? ⟨w.heap.size, 2, none⟩ = some (.slice (some ⟨b1, o1, none⟩) l.length cV) := (hB5.cell (p := ⟨w.heap.size, 2, none⟩) (by show w.heap.size < w1.heap.size + 1; omega)).trans qA.1
            have bw5 := hbA.trans (hB5.mono (by omega))
            have b25 := hb2A.trans (hB5.mono (Nat.le_succ _))
            have r2 : w5.cell? ⟨b1, o1 + k, none⟩ = some (.int .i64 y) := (bw5.cell (p := ⟨b1, o1 + k, none⟩) hb1).trans ((hbel.cell (p := ⟨b1, o1 + k, none⟩) hb1).symm.trans cy)
            refine hK.out _ _ ⟨r1, r2, sz5⟩ (fun hHeld => ?_)
            clear hK K
            try simp only [Act.put, List.setIfInBounds_toArray]
            refine wpAnyH_take (i := 10) (oi := ?oib10) (v := ?vb10) ?hib10 (by kernel_rfl) (by kernel_rfl) (by kernel_rfl) ?hqb10 ?hyb10 (by assumption) ?_
            case hib10 => (simp only [List.getElem?_toArray, List.getElem?_cons_succ, List.getElem?_cons_zero]; rfl)
            case hqb10 => exact fun _ _ _ h => h
            case hyb10 => (refine Or.inl ⟨by rfl, ?_⟩; intro w' hSw; (try dsimp only at hSw); (try go_simp); try with_reducible rfl)
            try simp only [Act.put]
            refine wpAnyH_ready (rs := [11]) (by kernel_rfl) (by simp) ?_
            refine AllReadyH.cons rfl (fun K hK => ?_) ?_
            rotate_left
            · exact AllReadyH.nil
            go_simp
            have bw6 := bw5.setCell (p := ⟨w1.heap.size, 2, none⟩) (Nat.le_of_lt hqw) (.slice a5 (k + 1) c5)
            have b26 := b25.setCell (p := ⟨w1.heap.size, 2, none⟩) (Nat.le_refl _) (.slice a5 (k + 1) c5)
            refine hK.out _ _ ⟨(World.cell?_setCell_other _ _ _ _ (by simp)).trans r1, (bw6.cell (p := ⟨b1, o1 + k, none⟩) hb1).trans ((hbel.cell (p := ⟨b1, o1 + k, none⟩) hb1).symm.trans cy), by simpa using sz5⟩ (fun hHeld => ?_)
            clear hK K
            refine wpAnyH_done (by kernel_rfl) ?_ _
            go_wp2_with fail
            have hg := HG.out
            go_roundg (40 - (k + 1))
            case measure => omega
            case rel => exact ⟨k + 1, .slice a5 (k + 1) c5, by omega, by omega, rfl, by go_num, hA5.set 2 _, hown5.setLow (p := ⟨w1.heap.size, 2, none⟩) (Nat.lt_succ_self _) _, bw6, b26⟩
          · go_simp
            refine hK.out _ _ qA (fun hHeld => ?_)
            clear hK K
            try simp only [Act.put, List.setIfInBounds_toArray, List.set_cons_zero, List.set_cons_succ]
            refine wpAnyH_ready (rs := [1]) (by kernel_rfl) (by simp) ?_
            refine AllReadyH.cons rfl (fun K hK => ?_) ?_
            rotate_left
            · exact AllReadyH.nil
            go_simp
            refine hK.out _ _ qA (fun hHeld => ?_)
            clear hK K
            try simp only [Act.put, List.setIfInBounds_toArray, List.set_cons_zero, List.set_cons_succ]
            refine wpAnyH_ready (rs := [9]) (by kernel_rfl) (by simp) ?_
            refine AllReadyH.cons rfl (fun K hK => ?_) ?_
            rotate_left
            · exact AllReadyH.nil
            refine stepAppL rfl _ _ rfl (w1.heap.size + 1) (.slice a' k c') (mins (l.take k)) rfl hoA _ [z] rfl srA (by rw [HL.out]; simp; omega) szA (fun v5 w5 hown5 hB5 hg5 => ?_)
            rw [← HS.out] at hown5
            have hl5 : (mins (l.take (k + 1))).length = k + 1 := by rw [mins_length, List.length_take]; omega
            obtain ⟨a5, c5, e5, _, _, _⟩ := hown5.rd.open
            rw [hl5] at e5
            subst e5
            have sz5 : w1.heap.size < w5.heap.size := Nat.lt_of_lt_of_le szA hB5.size
            have hA5 := arA.below hB5 (Nat.lt_succ_self _)
            have f2 := hA5.cell (i := 2) rfl
            have ff := hA5.free
            have r1 : w5.cell? ⟨w.heap.size, 2, none⟩ = some (.slice (some ⟨b1, o1, none⟩) l.length cV) := (hB5.cell (p := ⟨w.heap.size, 2, none⟩) (by show w.heap.size < w1.heap.size + 1; omega)).trans qA.1
            have bw5 := hbA.trans (hB5.mono (by omega))
            have b25 := hb2A.trans (hB5.mono (Nat.le_succ _))
            have r2 : w5.cell? ⟨b1, o1 + k, none⟩ = some (.int .i64 y) := (bw5.cell (p := ⟨b1, o1 + k, none⟩) hb1).trans ((hbel.cell (p := ⟨b1, o1 + k, none⟩) hb1).symm.trans cy)
            refine hK.out _ _ ⟨r1, r2, sz5⟩ (fun hHeld => ?_)
            clear hK K
            try simp only [Act.put, List.setIfInBounds_toArray]
            refine wpAnyH_take (i := 10) (oi := ?oid10) (v := ?vd10) ?hid10 (by kernel_rfl) (by kernel_rfl) (by kernel_rfl) ?hqd10 ?hyd10 (by assumption) ?_
            case hid10 => (simp only [List.getElem?_toArray, List.getElem?_cons_succ, List.getElem?_cons_zero]; rfl)
            case hqd10 => exact fun _ _ _ h => h
            case hyd10 => (refine Or.inl ⟨by rfl, ?_⟩; intro w' hSw; (try dsimp only at hSw); (try go_simp); try with_reducible rfl)
            try simp only [Act.put]
            refine wpAnyH_ready (rs := [11]) (by kernel_rfl) (by simp) ?_
            refine AllReadyH.cons rfl (fun K hK => ?_) ?_
            rotate_left
            · exact AllReadyH.nil
            go_simp
            have bw6 := bw5.setCell (p := ⟨w1.heap.size, 2, none⟩) (Nat.le_of_lt hqw) (.slice a5 (k + 1) c5)
            have b26 := b25.setCell (p := ⟨w1.heap.size, 2, none⟩) (Nat.le_refl _) (.slice a5 (k + 1) c5)
            refine hK.out _ _ ⟨(World.cell?_setCell_other _ _ _ _ (by simp)).trans r1, (bw6.cell (p := ⟨b1, o1 + k, none⟩) hb1).trans ((hbel.cell (p := ⟨b1, o1 + k, none⟩) hb1).symm.trans cy), by simpa using sz5⟩ (fun hHeld => ?_)
            clear hK K
            refine wpAnyH_done (by kernel_rfl) ?_ _
            go_wp2_with fail
            have hg := HG.out
            go_roundg (40 - (k + 1))
            case measure => omega
            case rel => exact ⟨k + 1, .slice a5 (k + 1) c5, by omega, by omega, rfl, by go_num, hA5.set 2 _, hown5.setLow (p := ⟨w1.heap.size, 2, none⟩) (Nat.lt_succ_self _) _, bw6, b26⟩
        · have t1 : decide ((k : Int) < 40) = false := decide_eq_false (by omega)
          go_wp2_with fail
          go_meet
          exact hfin.out
      · have t2 : decide ((k : Int) < (l.length : Int)) = false := decide_eq_false (by omega)
        go_wp2_with fail
        go_meet
        exact hfin.out
  case rest =>
    obtain ⟨v5, l5, hA5, hr5, hl5, hB5⟩ := hcut
    have hrr := hr.below hB5
    have hE5 := hE.below hB5
    have hol5 := hA5.lt
    obtain ⟨wd, rfl⟩ : ∃ wd : World, wd = wc := ⟨_, rfl⟩
    go_upto_region 8 with fail
    go_cut [62, 63, 64] (fun s62 s63 s64 wx => Pair wd wx s62 40 60 ∧ s63 = .int .i64 2 ∧ s64 = .int .i64 0)
    case first =>
      obtain ⟨m, hmi, hm3, hm4⟩ := minOf s.size 40 (by decide)
      have hmi2 : min (s.size : Int) 40 = (m : Int) := by rw [← hmi, Int.min_def]; split <;> split <;> omega
      go_region_with (go_at_call 10; refine (runs_any _ raw _ _ ?_ hwf ?_ ?_).mono ?_; (first | exact hrr | exact hrr.below ((Below.refl _ _).drew)); decide; decide; rintro e w2 ⟨t, rfl, ht, h2⟩)
      all_goals go_wp2_with fail
      all_goals go_meet
      all_goals have h2' : Below wd.heap.size wd w2 := by first | exact h2 | exact (Below.refl _ _).drew.trans h2
      all_goals exact ⟨⟨w2.heap.size, s.extract 0 m, t, rfl, Arr.new w2 _ [.string _, .string _], by simp; omega, by omega, belA h2' _, h2'.size⟩, rfl, rfl⟩
    case rest =>
      obtain ⟨⟨pb, t0, t1, rfl, harr, hz0, hz1, hbel, hpb⟩, rfl, rfl⟩ := hcut
      have hA6 := hA5.below hbel hol5
      have hr6 := hr5.below hbel
      have hE6 := hE5.below hbel
      have hB6 := belT hB5 hbel
      have hol6 := hA6.lt
      clear hA5 hr5 hE5 hB5 hrr hol5 hpb hbel
      go_wp2
      go_loopg [64] 2 (fun g i wr => ∃ k : Nat, k ≤ 2 ∧ g = 2 - k ∧ i = .int .i64 k ∧ Below wc.heap.size wc wr)
      case atStart => exact ⟨0, by omega, rfl, rfl, Below.refl _ _⟩
      case round =>
        obtain ⟨k, hk, hg, rfl, hbr⟩ := hrel
        have HG := hid hg
        clear hg
        by_cases hlt : k < 2
        · obtain ⟨t, ht, hc⟩ : ∃ t : ByteArray, t.size ≤ 60 ∧ wr.cell? ⟨pb, k, none⟩ = some (.string t) := by
            have har := harr.below hbr harr.lt
            rcases (show k = 0 ∨ k = 1 by omega) with rfl | rfl
            · exact ⟨t0, by omega, har.cell (i := 0) rfl⟩
            · exact ⟨t1, by omega, har.cell (i := 1) rfl⟩
          have hd : decide ((k : Int) < 2) = true := by simp; omega
          go_wp2_with fail
          refine (sq_any t _ (by omega)).mono ?_
          rintro e w4 ⟨v4, rfl, hr4, h4, _⟩
          obtain ⟨a4, c4, rfl, _, _, _⟩ := hr4.open
          have ha4 := Arr.new w4 25 [.string (sqA t), .int .i64 (sqO t), .slice a4 (sqS t).length c4]
          have h4n : Below w4.heap.size w4 (w4.alloc (.cells #[.string (sqA t), .int .i64 (sqO t), .slice a4 (sqS t).length c4] 25)) := belA (Below.refl _ _) _
          have hr4n := hr4.below h4n
          have hB4 := belT (belT hbr h4) h4n
          change Arr (w4.alloc (.cells #[.string (sqA t), .int .i64 (sqO t), .slice a4 (sqS t).length c4] 25)) _ _ _ at ha4
          clear hc hr4 h4
          go_wp2_with fail
          generalize w4.alloc (.cells #[.string (sqA t), .int .i64 (sqO t), .slice a4 (sqS t).length c4] 25) = w5 at *
          refine (refSq_own t _ (by omega)).mono ?_
          rintro e w6 ⟨v6, rfl, ho6, h6, hO⟩
          obtain ⟨a6, c6, rfl, _, _, _⟩ := ho6.rd.open
          have ha6 := ha4.below h6 ha4.lt
          have hr6n := hr4n.below h6
          have h7n : Below w6.heap.size w6 (w6.alloc (.cells #[.string (sqA t), .int .i64 (sqO t), .slice a6 (sqS t).length c6] 25)) := belA (Below.refl _ _) _
          have hb7 := Arr.new w6 25 [.string (sqA t), .int .i64 (sqO t), .slice a6 (sqS t).length c6]
          change Arr (w6.alloc (.cells #[.string (sqA t), .int .i64 (sqO t), .slice a6 (sqS t).length c6] 25)) _ _ _ at hb7
          have hs7 := ho6.src.below h7n
          have hd7 := ho6.rd.below h7n
          have hr7 := hr6n.below h7n
          have hB7 := belT (belT hB4 h6) h7n
          have ha7 := ha6.below h7n ha6.lt
          have d0 := ha7.cell (i := 0) rfl
          have d1 := ha7.cell (i := 1) rfl
          have d2 := ha7.cell (i := 2) rfl
          have f0 : ((sqE t) != (sqE t)) = false := by simp
          clear ha4 hr4n hB4 h6 h4n ha6 ho6 hr6n
          go_wp2_with fail
          generalize w6.alloc (.cells #[.string (sqA t), .int .i64 (sqO t), .slice a6 (sqS t).length c6] 25) = w7 at *
          refine (same_any _ _ _ _ _ _ (sqS t) (sqS t) w7 hr7 hd7).mono ?_
          rintro e w8 ⟨rfl, h8⟩
          rw [show decide (sqS t = sqS t ∧ sqA t = sqA t ∧ sqO t = sqO t) = true by simp]
          have hb8 := hb7.below h8 hb7.lt
          have hs8 := hs7.below h8
          have hd8 := hd7.below h8
          have hB8 := belT hB7 h8
          have hA8 := hA6.below hB8 hol6
          clear hb7 hs7 hd7 hr7 ha7 d0 d1 d2 hB7 h8 h7n
          go_upto_region 15 with fail
          obtain ⟨ad5, cc5, e5, _, _, _⟩ := hr6.open
          subst e5
          obtain ⟨wf, rfl⟩ : ∃ wf : World, wf = w8 := ⟨_, rfl⟩
          have hLs := (sqS_len t).1
          have hOs : -9223372036854775808 ≤ sqO t ∧ sqO t ≤ 9223372036854775807 := by
            rcases Nat.eq_zero_or_pos t.size with h | h
            · have : sqO t = 0 := if_pos h
              omega
            · have := orig_lt h (hO h); rw [sqO_pos h]; omega
          go_cut [93, 94, 95] (fun s93 s94 s95 wx => SqRow wf wx s93 ∧ s94 = .int .i64 3 ∧ s95 = .int .i64 0)
          case first =>
            refine wp_region_held_drew (S := (fun w' => w'.cell? ⟨w1.heap.size, 0, none⟩ = some (.string A) ∧ w'.cell? ⟨w1.heap.size, 1, none⟩ = some (.int .i64 O) ∧ w'.cell? ⟨w1.heap.size, 2, none⟩ = some (.slice ad5 l5.length cc5) ∧ w'.cell? ⟨w6.heap.size, 0, none⟩ = some (.string (sqA t)) ∧ w'.cell? ⟨w6.heap.size, 1, none⟩ = some (.int .i64 (sqO t)) ∧ w'.cell? ⟨w6.heap.size, 2, none⟩ = some (.slice a6 (sqS t).length c6) ∧ Below wf.heap.size wf w')) (by kernel_rfl) (RowS.of hA8 hb8 (Below.refl _ _).drew) (fun hHeld => ?_)
            refine wpAnyH_take (i := 0) (oi := ?oie0) (v := ?ve0) ?hie0 (by kernel_rfl) (by kernel_rfl) (by kernel_rfl) ?hqe0 ?hye0 (by assumption) ?_
            case hie0 => (simp only [List.getElem?_toArray, List.getElem?_cons_zero]; rfl)
            case hqe0 => exact fun _ _ _ h => h
            case hye0 => (refine Or.inl ⟨by rfl, ?_⟩; intro w' hSw; (try dsimp only at hSw); (try go_simp); try with_reducible rfl)
            try simp only [Act.put, List.setIfInBounds_toArray, List.set_cons_zero, List.set_cons_succ]
            refine wpAnyH_take (i := 1) (oi := ?oie1) (v := ?ve1) ?hie1 (by kernel_rfl) (by kernel_rfl) (by kernel_rfl) ?hqe1 ?hye1 (by assumption) ?_
            case hie1 => (simp only [List.getElem?_toArray, List.getElem?_cons_succ, List.getElem?_cons_zero]; rfl)
            case hqe1 => exact fun _ _ _ h => h
            case hye1 => (refine Or.inl ⟨by rfl, ?_⟩; intro w' hSw; (try dsimp only at hSw); (try go_simp); try with_reducible rfl)
            try simp only [Act.put, List.setIfInBounds_toArray, List.set_cons_zero, List.set_cons_succ]
            refine wpAnyH_take (i := 2) (oi := ?oie2) (v := ?ve2) ?hie2 (by kernel_rfl) (by kernel_rfl) (by kernel_rfl) ?hqe2 ?hye2 (by assumption) ?_
            case hie2 => (simp only [List.getElem?_toArray, List.getElem?_cons_succ, List.getElem?_cons_zero]; rfl)
            case hqe2 => exact fun _ _ _ h => h
            case hye2 => (refine Or.inl ⟨by rfl, ?_⟩; intro w' hSw; (try dsimp only at hSw); (try go_simp); try with_reducible rfl)
            try simp only [Act.put, List.setIfInBounds_toArray, List.set_cons_zero, List.set_cons_succ]
            refine wpAnyH_take (i := 3) (oi := ?oie3) (v := ?ve3) ?hie3 (by kernel_rfl) (by kernel_rfl) (by kernel_rfl) ?hqe3 ?hye3 (by assumption) ?_
            case hie3 => (simp only [List.getElem?_toArray, List.getElem?_cons_succ, List.getElem?_cons_zero]; rfl)
            case hqe3 => exact fun _ _ _ h => h
            case hye3 => (refine Or.inl ⟨by rfl, ?_⟩; intro w' hSw; (try dsimp only at hSw); (try go_simp); try with_reducible rfl)
            try simp only [Act.put, List.setIfInBounds_toArray, List.set_cons_zero, List.set_cons_succ]
            refine wpAnyH_take (i := 4) (oi := ?oie4) (v := ?ve4) ?hie4 (by kernel_rfl) (by kernel_rfl) (by kernel_rfl) ?hqe4 ?hye4 (by assumption) ?_
            case hie4 => (simp only [List.getElem?_toArray, List.getElem?_cons_succ, List.getElem?_cons_zero]; rfl)
            case hqe4 => exact fun _ _ _ h => h
            case hye4 => (refine Or.inl ⟨by rfl, ?_⟩; intro w' hSw; (try dsimp only at hSw); (try go_simp); try with_reducible rfl)
            try simp only [Act.put, List.setIfInBounds_toArray, List.set_cons_zero, List.set_cons_succ]
            refine wpAnyH_take (i := 8) (oi := ?oie8) (v := ?ve8) ?hie8 (by kernel_rfl) (by kernel_rfl) (by kernel_rfl) ?hqe8 ?hye8 (by assumption) ?_
            case hie8 => (simp only [List.getElem?_toArray, List.getElem?_cons_succ, List.getElem?_cons_zero]; rfl)
            case hqe8 => exact fun _ _ _ h => h
            case hye8 => (refine Or.inl ⟨by rfl, ?_⟩; intro w' hSw; (try dsimp only at hSw); (try go_simp); try with_reducible rfl)
            try simp only [Act.put, List.setIfInBounds_toArray, List.set_cons_zero, List.set_cons_succ]
            refine wpAnyH_ready (rs := [5]) (by kernel_rfl) (by simp) ?_
            refine AllReadyH.cons rfl (fun K hK => ?_) ?_
            rotate_left
            · exact AllReadyH.nil
            go_simp
            go_at_call 14
            refine (turned_any _ _ _ (sqS t) which x _ (sqA_le t) hOs.1 hOs.2 (hs8.below (Below.refl _ _).drew) (by omega) hw1 hw2 hx1 hx2).mono ?_
            rintro e w9 ⟨a9, o9, v9, l9, rfl, ha9, ho9, hl9, hr9, h9⟩
            obtain ⟨ad9, cc9, e9, _, _, _⟩ := hr9.open
            subst e9
            have hB9 : Below wf.heap.size wf w9 := (Below.refl _ _).drew.trans h9
            (try go_wp2_with fail)
            refine hK.out _ _ (RowS.of hA8 hb8 hB9) (fun hHeld2 => ?_)
            clear hK K
            try simp only [Act.put, List.setIfInBounds_toArray, List.set_cons_zero, List.set_cons_succ]
            refine wpAnyH_ready (rs := [6]) (by kernel_rfl) (by simp) ?_
            refine AllReadyH.cons rfl (fun K hK => ?_) ?_
            rotate_left
            · exact AllReadyH.nil
            go_simp
            have hBa := belA hB9 (.cells #[.string A, .int .i64 O, .slice ad5 l5.length cc5, .string (sqA t), .int .i64 (sqO t), .slice a6 (sqS t).length c6, .string a9, .int .i64 o9, .slice ad9 l9.length cc9] 25)
            refine hK.out _ _ (RowS.of hA8 hb8 hBa) (fun hHeld3 => ?_)
            clear hK K
            try simp only [Act.put, List.setIfInBounds_toArray, List.set_cons_zero, List.set_cons_succ]
            refine wpAnyH_take (i := 7) (oi := ?oie7) (v := ?ve7) ?hie7 (by kernel_rfl) (by kernel_rfl) (by kernel_rfl) ?hqe7 ?hye7 (by assumption) ?_
            case hie7 => (simp only [List.getElem?_toArray, List.getElem?_cons_succ, List.getElem?_cons_zero]; rfl)
            case hqe7 => exact fun _ _ _ h => h
            case hye7 => (refine Or.inl ⟨by rfl, ?_⟩; intro w' hSw; (try dsimp only at hSw); (try go_simp); try with_reducible rfl)
            try simp only [Act.put, List.setIfInBounds_toArray, List.set_cons_zero, List.set_cons_succ]
            refine wpAnyH_done (by kernel_rfl) ?_ _
            go_wp2_with fail
            go_meet
            have hb9n := belA (Below.refl w9.heap.size w9) (.cells #[.string A, .int .i64 O, .slice ad5 l5.length cc5, .string (sqA t), .int .i64 (sqO t), .slice a6 (sqS t).length c6, .string a9, .int .i64 o9, .slice ad9 l9.length cc9] 25)
            exact ⟨⟨w9.heap.size, A, sqA t, a9, O, sqO t, o9, _, _, _, l5, sqS t, l9, rfl, Arr.new w9 25 [.string A, .int .i64 O, .slice ad5 l5.length cc5, .string (sqA t), .int .i64 (sqO t), .slice a6 (sqS t).length c6, .string a9, .int .i64 o9, .slice ad9 l9.length cc9],
              ⟨(hr6.below hB8).below hBa, hA, by omega, hO1, hO2⟩, ⟨hd8.below hBa, by have := sqA_le t; omega, by omega, hOs.1, hOs.2⟩, ⟨hr9.below hb9n, by omega, by omega, ho9.1, ho9.2⟩, hBa⟩, rfl, rfl⟩
          case rest =>
            obtain ⟨⟨rb, a0, a1, a2, o0, o1, o2, v0, v1, v2, l0, l1, l2, rfl, hrow, i0, i1, i2, hbw⟩, rfl, rfl⟩ := hcut
            obtain ⟨wg, rfl⟩ : ∃ wg : World, wg = wc := ⟨_, rfl⟩
            have hBg := belT hB8 hbw
            have hrl := hrow.lt
            go_wp2_with fail
            go_loopg [95] 3 (fun g i wr => ∃ j : Nat, j ≤ 3 ∧ g = 3 - j ∧ i = .int .i64 j ∧ Below wg.heap.size wg wr)
            case atStart => exact ⟨0, by omega, rfl, rfl, Below.refl _ _⟩
            case round =>
              obtain ⟨j, hj, hg2, rfl, hbj⟩ := hrel
              have HG2 := hid hg2
              clear hg2
              by_cases hjl : j < 3
              · obtain ⟨q, p, u, m, hin, g0, g1, g2⟩ : ∃ (q : ByteArray) (p : Int) (u : Value) (m : List Int), SqIn wr q p u m ∧ wr.cell? ⟨rb, j * 3, none⟩ = some (.string q) ∧ wr.cell? ⟨rb, j * 3 + 1, none⟩ = some (.int .i64 p) ∧ wr.cell? ⟨rb, j * 3 + 2, none⟩ = some u := by
                  have har := hrow.below hbj hrl
                  rcases (show j = 0 ∨ j = 1 ∨ j = 2 by omega) with rfl | rfl | rfl
                  · exact ⟨_, _, _, _, i0.below hbj, har.cell (i := 0) rfl, har.cell (i := 1) rfl, har.cell (i := 2) rfl⟩
                  · exact ⟨_, _, _, _, i1.below hbj, har.cell (i := 3) rfl, har.cell (i := 4) rfl, har.cell (i := 5) rfl⟩
                  · exact ⟨_, _, _, _, i2.below hbj, har.cell (i := 6) rfl, har.cell (i := 7) rfl, har.cell (i := 8) rfl⟩
                have hd3 : decide ((j : Int) < 3) = true := by simp; omega
                obtain ⟨ad, cd, e, _, _, _⟩ := hin.rd.open
                subst e
                go_upto_region 18 with fail
                have hbx := Arr.new wr 25 [.string q, .int .i64 p, .slice ad m.length cd]
                have hbn : Below wr.heap.size wr (wr.alloc (.cells #[.string q, .int .i64 p, .slice ad m.length cd] 25)) := belA (Below.refl _ _) _
                change Arr (wr.alloc (.cells #[.string q, .int .i64 p, .slice ad m.length cd] 25)) _ _ _ at hbx
                have hin2 := hin.below hbn
                have hBj := belT hbj hbn
                clear g0 g1 g2 hin
                generalize wr.alloc (.cells #[.string q, .int .i64 p, .slice ad m.length cd] 25) = wh at *
                have hsa := hin2.sa
                refine wp_region_held_drew (S := (fun w' => w'.cell? ⟨wr.heap.size, 0, none⟩ = some (.string q) ∧ w'.cell? ⟨wr.heap.size, 1, none⟩ = some (.int .i64 p) ∧ w'.cell? ⟨wr.heap.size, 2, none⟩ = some (.slice ad m.length cd) ∧ w'.cell? ⟨wr.heap.size, 0, none⟩ = some (.string q) ∧ w'.cell? ⟨wr.heap.size, 1, none⟩ = some (.int .i64 p) ∧ w'.cell? ⟨wr.heap.size, 2, none⟩ = some (.slice ad m.length cd) ∧ Below wh.heap.size wh w')) (by kernel_rfl) (RowS.of hbx hbx (Below.refl _ _).drew) (fun hHeld => ?_)
                refine wpAnyH_take (i := 0) (oi := ?oik0) (v := ?vk0) ?hik0 (by kernel_rfl) (by kernel_rfl) (by kernel_rfl) ?hqk0 ?hyk0 (by assumption) ?_
                case hik0 => (simp only [List.getElem?_toArray, List.getElem?_cons_zero]; rfl)
                case hqk0 => exact fun _ _ _ h => h
                case hyk0 => (refine Or.inl ⟨by rfl, ?_⟩; intro w' hSw; (try dsimp only at hSw); (try go_simp); try with_reducible rfl)
                try simp only [Act.put, List.setIfInBounds_toArray, List.set_cons_zero, List.set_cons_succ]
                refine wpAnyH_take (i := 2) (oi := ?oik2) (v := ?vk2) ?hik2 (by kernel_rfl) (by kernel_rfl) (by kernel_rfl) ?hqk2 ?hyk2 (by assumption) ?_
                case hik2 => (simp only [List.getElem?_toArray, List.getElem?_cons_succ, List.getElem?_cons_zero]; rfl)
                case hqk2 => exact fun _ _ _ h => h
                case hyk2 => (refine Or.inl ⟨by rfl, ?_⟩; intro w' hSw; (try dsimp only at hSw); (try go_simp); try with_reducible rfl)
                try simp only [Act.put, List.setIfInBounds_toArray, List.set_cons_zero, List.set_cons_succ]
                refine wpAnyH_ready (rs := [1]) (by kernel_rfl) (by simp) ?_
                refine AllReadyH.cons rfl (fun K hK => ?_) ?_
                rotate_left
                · exact AllReadyH.nil
                go_simp
                go_at_call 15
                refine (codes_any q p _ rfl _ hsa).mono ?_
                rintro e wi ⟨rfl, hi⟩
                have hBi : Below wh.heap.size wh wi := (Below.refl _ _).drew.trans hi
                (try go_wp2_with fail)
                refine hK.out _ _ (RowS.of hbx hbx hBi) (fun hHeld2 => ?_)
                clear hK K
                try simp only [Act.put, List.setIfInBounds_toArray, List.set_cons_zero, List.set_cons_succ]
                refine wpAnyH_ready (rs := [3]) (by kernel_rfl) (by simp) ?_
                refine AllReadyH.cons rfl (fun K hK => ?_) ?_
                rotate_left
                · exact AllReadyH.nil
                go_simp
                go_at_call 16
                refine (refCodes_any q p _ rfl _ hsa).mono ?_
                rintro e wl ⟨rfl, hl2⟩
                have hBl := belT hBi hl2
                (try go_wp2_with fail)
                refine hK.out _ _ (RowS.of hbx hbx hBl) (fun hHeld3 => ?_)
                clear hK K
                try simp only [Act.put, List.setIfInBounds_toArray, List.set_cons_zero, List.set_cons_succ]
                refine wpAnyH_take (i := 4) (oi := ?oik4) (v := ?vk4) ?hik4 (by kernel_rfl) (by kernel_rfl) (by kernel_rfl) ?hqk4 ?hyk4 (by assumption) ?_
                case hik4 => (simp only [List.getElem?_toArray, List.getElem?_cons_succ, List.getElem?_cons_zero]; rfl)
                case hqk4 => exact fun _ _ _ h => h
                case hyk4 => (refine Or.inl ⟨by rfl, ?_⟩; intro w' hSw; (try dsimp only at hSw); (try go_simp); try with_reducible rfl)
                try simp only [Act.put, List.setIfInBounds_toArray, List.set_cons_zero, List.set_cons_succ]
                refine wpAnyH_done (by kernel_rfl) ?_ _
                clear hHeld hHeld2 hHeld3 hBi hi hl2
                have hbl := hbx.below hBl hbx.lt
                have hinl := hin2.below hBl
                have hBL := belT hBj hBl
                clear hbx hin2 hBj hBl hbn
                obtain ⟨z, hz⟩ : ∃ z, z = min most 5000 := ⟨_, rfl⟩
                have z1 : (if (5000 : Int) < most then (5000 : Int) else most) = z := by rw [hz, Int.min_def]; split <;> split <;> omega
                have z2 : min most 5000 = z := hz.symm
                have z3 : -9223372036854775808 ≤ z ∧ z ≤ 5000 := by rw [hz, Int.min_def]; split <;> omega
                clear hz
                obtain ⟨hq1, hq2⟩ := Pick_bd most 70 (by decide)
                go_wp2_with (go_at_call 17; refine (pick15_any _ _ _ hm1 hm2 (by decide) (by decide)).mono ?_; rintro e w' ⟨rfl, rfl⟩)
                have hm3 := Arr.new wl 3 [.int .i64 z, .int .i64 (Pick most 70), .int .i64 (t.size : Int)]
                have hmn : Below wl.heap.size wl (wl.alloc (.cells #[.int .i64 z, .int .i64 (Pick most 70), .int .i64 (t.size : Int)] 3)) := belA (Below.refl _ _) _
                change Arr (wl.alloc (.cells #[.int .i64 z, .int .i64 (Pick most 70), .int .i64 (t.size : Int)] 3)) _ _ _ at hm3
                generalize wl.alloc (.cells #[.int .i64 z, .int .i64 (Pick most 70), .int .i64 (t.size : Int)] 3) = wn at *
                have hbn := hbl.below hmn hbl.lt
                have hinn := hinl.below hmn
                have hBn := belT hBL hmn
                have hml := hm3.lt
                have hbnl := hbn.lt
                have hEn := hE6.below (belT hBg hBn)
                clear hbl hinl hBL hmn
                go_loopg [112] 3 (fun g i wr => ∃ i2 : Nat, i2 ≤ 3 ∧ g = 3 - i2 ∧ i = .int .i64 i2 ∧ Below wn.heap.size wn wr)
                case atStart => exact ⟨0, by omega, rfl, rfl, Below.refl _ _⟩
                case round =>
                  obtain ⟨i2, hi2, hg3, rfl, hbo⟩ := hrel
                  have HG3 := hid hg3
                  clear hg3
                  by_cases hil : i2 < 3
                  · obtain ⟨mm, hmm1, hmm2, cm⟩ : ∃ mm : Int, -9223372036854775808 ≤ mm ∧ mm ≤ 1000000 ∧ wr.cell? ⟨wl.heap.size, i2, none⟩ = some (.int .i64 mm) := by
                      have har := hm3.below hbo hml
                      rcases (show i2 = 0 ∨ i2 = 1 ∨ i2 = 2 by omega) with rfl | rfl | rfl
                      · exact ⟨z, z3.1, by omega, har.cell (i := 0) rfl⟩
                      · exact ⟨Pick most 70, by omega, by omega, har.cell (i := 1) rfl⟩
                      · exact ⟨(t.size : Int), by omega, by omega, har.cell (i := 2) rfl⟩
                    have hd4 : decide ((i2 : Int) < 3) = true := by simp; omega
                    have hbo2 := hbn.below hbo hbnl
                    have e0 := hbo2.cell (i := 0) rfl
                    have e1 := hbo2.cell (i := 1) rfl
                    have e2 := hbo2.cell (i := 2) rfl
                    have hino := hinn.below hbo
                    have hsl := hino.sl
                    go_wp2_with fail
                    refine (restore_any q p _ m mm _ (hEn.below hbo) hino.sa hino.rd hino.sl hino.o1 hino.o2 hmm1 hmm2).mono ?_
                    rintro e wo ⟨rfl, hO4⟩
                    obtain ⟨RS, hRS⟩ : ∃ RS, RS = rest q p m mm := ⟨_, rfl⟩
                    rw [← hRS]
                    have HRS := hid hRS
                    clear hRS e0 e1 e2
                    have hbo3 := hbo2.below hO4 hbo2.lt
                    have e0 := hbo3.cell (i := 0) rfl
                    have e1 := hbo3.cell (i := 1) rfl
                    have e2 := hbo3.cell (i := 2) rfl
                    have hinp := hino.below hO4
                    have hBp := belT hbo hO4
                    go_wp2_with fail
                    refine (refRestore_any q p _ m mm _ hinp.sa hinp.rd hinp.sl hinp.o1 hinp.o2 hmm1 hmm2).mono ?_
                    rintro e wp ⟨rfl, hP⟩
                    rw [← HRS.out]
                    have hBq := belT hBp hP
                    have y1 : (RS.1.toList != RS.1.toList) = false := by simp
                    have y2 : (RS.2 != RS.2) = false := by simp
                    go_wp2_with fail
                    have hg3 := HG3.out
                    go_roundg (3 - (i2 + 1))
                    case measure => omega
                    case rel => exact ⟨i2 + 1, by omega, rfl, by go_num, hBq⟩
                  · have hd4 : decide ((i2 : Int) < 3) = false := by simp; omega
                    go_wp2_with fail
                    have hg2 := HG2.out
                    go_roundg (3 - (j + 1))
                    case measure => omega
                    case rel => exact ⟨j + 1, by omega, rfl, by go_num, belT hBn hbo⟩
              · have hd3 : decide ((j : Int) < 3) = false := by simp; omega
                go_wp2_with fail
                have hg := HG.out
                go_roundg (2 - (k + 1))
                case measure => omega
                case rel => exact ⟨k + 1, by omega, rfl, by go_num, belT hBg hbj⟩
        · have hd : decide ((k : Int) < 2) = false := by simp; omega
          go_wp2
          go_ret
          exact ⟨rfl, hB6.trans (hbr.mono hB6.size)⟩

end Go.Proofs.YthjmpiekjfnoiaaGreatDoor
