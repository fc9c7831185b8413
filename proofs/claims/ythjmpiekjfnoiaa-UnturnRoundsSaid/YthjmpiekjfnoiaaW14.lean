/-
  The walks of the functions of chapter 14, of the program and of the document's own answer.
-/
import Derived.Test.YthjmpiekjfnoiaaBase
import Derived.Test.YthjmpiekjfnoiaaM14
namespace Go.Proofs.Ythjmpiekjfnoiaa
open Go.RowKit

theorem vecTo_le (s : List UInt8) (k : Nat) (hk : k ≤ 256) : (vecTo s k).length ≤ s.length := by
  rw [vecTo_length, ← ltc_all s]; exact ltc_mono s k 256 hk
theorem idxTo_le (s : List UInt8) (c n : Nat) : (idxTo s c n).length ≤ n := by
  unfold idxTo; have := List.length_filter_le (fun i => (s.getD i 0).toNat == c) (List.range n); simpa using this
set_option maxRecDepth 100000 in
set_option maxHeartbeats 800000 in
theorem refVector_any (s : ByteArray) (w : World) (hs : s.size ≤ 1000000000) :
    Calls Try.prog 19 #[.string s] w fun e w' =>
      ∃ v, e = .returned v ∧ OwI w' w.heap.size v (vecI s.data.toList) ∧ Below w.heap.size w w' := by
  go_enter Try.func19, Try.ntmps19
  go_wp2
  go_loopw [3, 4] (fun out c wr => ∃ k : Nat, k ≤ 256 ∧ c = .int .i64 k ∧ OwI wr w.heap.size out ((vecTo s.data.toList k).map Int.ofNat) ∧ Below w.heap.size w wr) (fun _ c _ => 256 - (intOf c).toNat)
  case atStart => exact ⟨0, Nat.zero_le _, rfl, OwI.nil _ _, Below.refl _ _⟩
  case round =>
    obtain ⟨k, hk, rfl, hown, hbel⟩ := hrel
    by_cases hlt : k < 256
    · obtain ⟨wo, rfl⟩ : ∃ wo : World, wo = wr := ⟨_, rfl⟩
      have hd : decide ((k : Int) < 256) = true := by simp; omega
      go_wp2
      go_loopw [3, 5] (fun out i wr => ∃ j : Nat, j ≤ s.size ∧ i = .int .i64 j ∧ OwI wr w.heap.size out ((vecTo s.data.toList k ++ idxTo s.data.toList k j).map Int.ofNat) ∧ Below w.heap.size w wr) (fun _ i _ => s.size - (intOf i).toNat)
      case atStart => exact ⟨0, Nat.zero_le _, rfl, by simpa [idxTo] using hown, hbel⟩
      case round =>
        obtain ⟨j, hj, rfl, hown1, hbel1⟩ := hrel
        by_cases hlj : j < s.size
        · have hb : s[j].toNat < 256 := s[j].toNat_lt
          have HB := hid (byteAt s j hlj)
          have hl1 := vecTo_le s.data.toList k (by omega)
          have hl2 := idxTo_le s.data.toList k j
          simp only [Array.length_toList, ByteArray.size_data] at hl1
          go_wp2_with (at_builtin; refine appI rfl _ _ rfl w.heap.size _ _ rfl (hown1.alloc _) wr.heap.size (j : Int) rfl ?_ ?_ ?_ ?_; (exact newc _ _ _); (simp only [List.length_append, List.length_map]; omega); (have := hbel1.size; simp; omega); intro v' w1 hown' hB hgrow)
          · have ht : ((s[j].toNat : Int) == (k : Int)) = true := by assumption
            have hs1 := idxTo_succ s.data.toList k j _ HB.out
            rw [if_pos (by have := eq_of_beq ht; omega)] at hs1
            go_roundw
            case rel => exact ⟨j + 1, by omega, by go_num, by rw [hs1, ← List.append_assoc, List.map_append]; exact hown', (hbel1.alloc (by have := hbel1.size; omega) _).trans hB⟩
            case measure => simp [intOf]; omega
          · have ht : ((s[j].toNat : Int) == (k : Int)) = false := by assumption
            have hs1 := idxTo_succ s.data.toList k j _ HB.out
            rw [if_neg (by have := ne_of_beq_false ht; omega), List.append_nil] at hs1
            go_roundw
            case rel => exact ⟨j + 1, by omega, by go_num, by rw [hs1]; exact hown1, hbel1⟩
            case measure => simp [intOf]; omega
        · go_wp2
          go_roundw
          case rel => exact ⟨k + 1, by omega, by go_num, by
            have hj' : j = s.data.toList.length := by simp; omega
            rw [hj'] at hown1; simpa [vecTo] using hown1, hbel1⟩
          case measure => simp [intOf]; omega
    · have hk' : k = 256 := by omega
      have HK := hid hk'
      clear hk'
      go_wp2
      go_ret
      have e := HK.out
      subst e
      exact ⟨_, rfl, by rw [vecI, vec_eq]; exact hown, hbel⟩

theorem zeroCells257 : Try.zeroCells42 = (tab 257 (fun _ => 0)).toArray := by kernel_rfl

set_option maxRecDepth 100000 in
set_option maxHeartbeats 800000 in
theorem vector_any (s : ByteArray) (w : World) (hs : s.size ≤ 1000000000) :
    Calls Try.prog 18 #[.string s] w fun e w' =>
      ∃ v, e = .returned v ∧ OwI w' w.heap.size v (vecI s.data.toList) ∧ Below w.heap.size w w' := by
  have hl0 : s.data.toList.length = s.size := by simp
  have HL := hid hl0
  clear hl0
  go_enter Try.func18, Try.ntmps18
  go_wp2
  go_loopw [10] (fun i wr => ∃ k : Nat, k ≤ s.size ∧ i = .int .i64 k ∧ Arr wr w.heap.size 42 (tab 257 (cntA s.data.toList k)) ∧ Below w.heap.size w wr) (fun i _ => s.size - (intOf i).toNat)
  case atStart => exact ⟨0, Nat.zero_le _, rfl, by rw [cntA_zero, zeroCells257]; exact Arr.new _ _ _, (Below.refl _ _).alloc (Nat.le_refl _) _⟩
  case round =>
    obtain ⟨k, hk, rfl, harr, hbel⟩ := hrel
    by_cases hlt : k < s.size
    · have hb : s[k].toNat < 256 := s[k].toNat_lt
      have HB := hid (byteAt s k hlt)
      have hbd := cntA_bd s.data.toList k (s[k].toNat + 1)
      rw [HL.out] at hbd
      have hc := harr.cell (tab_get 257 (cntA s.data.toList k) (s[k].toNat + 1) (by omega))
      have hf := harr.free (s[k].toNat + 1)
      obtain ⟨x, hx⟩ : ∃ x, x = cntA s.data.toList k (s[k].toNat + 1) := ⟨_, rfl⟩
      rw [← hx] at hc hbd
      have HX := hid hx
      clear hx
      go_wp2
      go_roundw
      case rel =>
        refine ⟨k + 1, by omega, by go_num, ?_, hbel.setCell (Nat.le_refl _) _⟩
        have := harr.set (s[k].toNat + 1) (.int .i64 (x + 1))
        rw [tab_set 257 _ (cntA s.data.toList (k + 1)) _ _ (fun d _ => by rw [cntA_succ _ _ _ HB.out, HX.out])] at this
        exact this
      case measure => simp [intOf]; omega
    · have hk' : k = s.size := by omega
      have HK := hid hk'
      clear hk'
      go_wp2
      go_loopw [23] (fun i wr => ∃ c : Nat, c ≤ 256 ∧ i = .int .i64 c ∧ Arr wr w.heap.size 42 (tab 257 (cntB s.data.toList c)) ∧ Below w.heap.size w wr) (fun i _ => 256 - (intOf i).toNat)
      case atStart => exact ⟨0, Nat.zero_le _, rfl, by have := harr; rw [HK.out, ← HL.out, cntA_cntB] at this; exact this, hbel⟩
      case round =>
        clear harr hbel hlt
        obtain ⟨c, hc, rfl, harr, hbel⟩ := hrel
        by_cases hlt : c < 256
        · have hd : decide ((c : Int) < 256) = true := by simp; omega
          have hbd := cntB_bd s.data.toList c (c + 1)
          have hbe := cntB_bd s.data.toList c c
          rw [HL.out] at hbd hbe
          have h1 := harr.cell (tab_get 257 (cntB s.data.toList c) (c + 1) (by omega))
          have h2 := harr.cell (tab_get 257 (cntB s.data.toList c) c (by omega))
          have hf := harr.free (c + 1)
          obtain ⟨x, hx⟩ : ∃ x, x = cntB s.data.toList c (c + 1) := ⟨_, rfl⟩
          obtain ⟨y, hy⟩ : ∃ x, x = cntB s.data.toList c c := ⟨_, rfl⟩
          rw [← hx] at h1 hbd
          rw [← hy] at h2 hbe
          have HX := hid hx
          have HY := hid hy
          clear hx hy
          go_wp2
          go_region
          go_wp2
          go_roundw
          case rel =>
            refine ⟨c + 1, by omega, by go_num, ?_, (hbel.setCell (Nat.le_refl _) _).drew⟩
            have := harr.set (c + 1) (.int .i64 (x + y))
            rw [tab_set 257 _ (cntB s.data.toList (c + 1)) _ _ (fun d _ => by rw [cntB_succ, HX.out, HY.out])] at this
            exact this
          case measure => simp [intOf]; omega
        · have hc' : c = 256 := by omega
          have HC := hid hc'
          clear hc'
          have hd : decide ((c : Int) < 256) = false := by simp; omega
          obtain ⟨wo, rfl⟩ : ∃ wo : World, wo = wr := ⟨_, rfl⟩
          go_wp2_with (at_make; refine mkA elInt rfl _ _ rfl s.size rfl rfl ?_ ?_; omega)
          have hwo : w.heap.size < wo.heap.size := harr.lt
          go_loopw [41] (fun i wr => ∃ k : Nat, k ≤ s.size ∧ i = .int .i64 k ∧ Arr wr w.heap.size 42 (tab 257 (cntC s.data.toList k)) ∧ (∃ L : List Int, L.length = s.size ∧ Hid (∀ j, j < k → L[place s.data.toList j]? = some (j : Int)) ∧ Arr wr wo.heap.size 3 (L.map (Value.int .i64))) ∧ Below w.heap.size w wr) (fun i _ => s.size - (intOf i).toNat)
          case atStart =>
            refine ⟨0, Nat.zero_le _, rfl, ?_, ⟨List.replicate s.size 0, by simp, hid (fun j hj => by omega), ?_⟩, hbel.alloc (by omega) _⟩
            · have := harr.alloc (.cells (zeros (.int .i64 0) s.size) 3)
              rw [HC.out] at this
              rwa [show tab 257 (cntC s.data.toList 0) = tab 257 (cntB s.data.toList 256) from by
                apply List.map_congr_left; intro d hd; rw [cntB_cntC _ _ (by simpa using hd)]]
            · rw [List.map_replicate]; exact Arr.made _ _ _ _
          case round =>
            clear harr hbel hlt hd
            obtain ⟨k, hk, rfl, harr, ⟨L, hL, HP, hout⟩, hbel⟩ := hrel
            by_cases hlt : k < s.size
            · have hb : s[k].toNat < 256 := s[k].toNat_lt
              have HB := hid (byteAt s k hlt)
              have hp0 := place_lt s.data.toList k (by rw [HL.out]; exact hlt)
              have h1 := harr.cell (tab_get 257 (cntC s.data.toList k) s[k].toNat (by omega))
              rw [cntC_place _ _ _ HB.out] at h1
              rw [HL.out] at hp0
              obtain ⟨p, hp⟩ : ∃ p, p = place s.data.toList k := ⟨_, rfl⟩
              rw [← hp] at h1 hp0
              have HPk := hid hp
              clear hp
              have hf := harr.free s[k].toNat
              have hf2 := hout.free p
              obtain ⟨v2, hv2⟩ : ∃ v2, (L.map (Value.int .i64))[p]? = some v2 := ⟨_, List.getElem?_eq_getElem (by simp; omega)⟩
              have h2 := hout.cell hv2
              clear hv2
              go_wp2
              go_roundw
              case rel =>
                refine ⟨k + 1, by omega, by go_num, ?_, ⟨L.set p (k : Int), by simpa using hL, hid ?_, ?_⟩, (hbel.setCell (by simp; omega) _).setCell (Nat.le_refl _) _⟩
                · have := (harr.other ⟨wo.heap.size, p, none⟩ (by simp; omega) (.int .i64 (k : Int))).set s[k].toNat (.int .i64 ((p : Int) + 1))
                  rw [tab_set 257 _ (cntC s.data.toList (k + 1)) _ _ (fun d _ => by rw [cntC_succ _ _ _ HB.out, cntC_place _ _ _ HB.out, ← HPk.out])] at this
                  exact this
                · intro j hj
                  rcases Nat.lt_or_ge j k with h' | h'
                  · rw [List.getElem?_set_ne (fun e => ?_)]
                    · exact HP.out j h'
                    · have := place_inj s.data.toList j k (by rw [HL.out]; omega) (by rw [HL.out]; omega) (by rw [← HPk.out, e])
                      omega
                  · have : j = k := by omega
                    subst this
                    rw [← HPk.out, List.getElem?_set_self (by omega)]
                · have := (hout.set p (.int .i64 (k : Int))).other ⟨w.heap.size, s[k].toNat, none⟩ (by simp; omega) (.int .i64 ((p : Int) + 1))
                  rwa [← List.map_set] at this
              case measure => simp [intOf]; omega
            · have hk' : k = s.size := by omega
              have HK' := hid hk'
              clear hk'
              go_wp2
              go_ret
              have e := eq_vec s.data.toList L (by rw [HL.out, hL]) (fun j hj => HP.out j (by rw [HK'.out, ← HL.out]; exact hj))
              have ho := hout.own (B := w.heap.size) (by omega) (by rw [List.length_map, hL]; simp only [maxLen]; omega)
              rw [List.length_map, hL] at ho
              rw [e] at ho
              exact ⟨_, rfl, ho, hbel⟩

end Go.Proofs.Ythjmpiekjfnoiaa
