/-
  What the statements of chapter 17 stand on: archives that are written, read; their first calls.
-/
import Derived.Test.YtpgmbhpbgkljdaaGreatDoorLaw17Z
import Derived.Test.YtpgmbhpbgkljdaaGreatDoorP17hZ
import Derived.Test.YtpgmbhpbgkljdaaGreatDoorZ6
set_option linter.unusedVariables false
set_option linter.unusedSimpArgs false
namespace Go.Proofs.YtpgmbhpbgkljdaaGreatDoor
open Go.RowKit Go Go.Shelf

/-- Streams of texts that are blocks. -/
abbrev okA (l : List (Nat × List ByteArray)) : Prop := ∀ p ∈ l, 1 ≤ p.1 ∧ p.1 ≤ 9 ∧ ∀ t ∈ p.2, okT (40 * (p.1 : Int)) t
noncomputable def arcS (l : List (Nat × List ByteArray)) : ByteArray := mkS (aD (arcW l))
def allT (l : List (Nat × List ByteArray)) : List ByteArray := (l.map (fun p => p.2)).flatten
theorem arcS_join (x y : List (Nat × List ByteArray)) : arcS x ++ arcS y = arcS (x ++ y) := by unfold arcS; rw [pM, arc_join]
theorem allT_append (x y : List (Nat × List ByteArray)) : allT (x ++ y) = allT x ++ allT y := by unfold allT; rw [List.map_append, List.flatten_append]
theorem okA_append {x y : List (Nat × List ByteArray)} (h : okA x) (k : okA y) : okA (x ++ y) := fun p hp => (List.mem_append.1 hp).elim (h p) (k p)
theorem okA_one {n : Nat} {l : List ByteArray} (h1 : 1 ≤ n) (h9 : n ≤ 9) (h : ∀ t ∈ l, okT (40 * (n : Int)) t) : okA [(n, l)] := fun p hp => by obtain rfl := List.mem_singleton.1 hp; exact ⟨h1, h9, h⟩
theorem arcS_size : ∀ {l : List (Nat × List ByteArray)}, okA l → (arcS l).size ≤ 3500 * (allT l).length + 15 * l.length
  | [], _ => by unfold arcS; rw [cP]; exact Nat.le_refl _
  | p :: l, h => by
    have ih := arcS_size (l := l) (fun q hq => h q (List.mem_cons_of_mem _ hq))
    obtain ⟨h1, h2, h3⟩ := h p (List.mem_cons_self ..)
    have hb := bodyW_len (r := 40 * (p.1 : Int)) (by omega) p.2 h3
    have hw : arcW (p :: l) = padW (strW p.1 p.2) ++ arcW l := rfl
    have hp := padW_length (strW p.1 p.2)
    have hu := padN_up (strW p.1 p.2).length
    have hlt := padN_lt (strW p.1 p.2).length
    have hs := strW_length p.1 p.2
    have e1 := packL_len8 (p :: l)
    have e2 := packL_len8 l
    have ha : (allT (p :: l)).length = p.2.length + (allT l).length := by unfold allT; rw [List.map_cons, List.flatten_cons, List.length_append]
    unfold arcS at ih ⊢
    rw [cP] at ih ⊢
    rw [hw, List.length_append] at e1
    rw [hw]
    rw [ha, List.length_cons]
    omega
theorem arcS_res {l : List (Nat × List ByteArray)} (hl : l ≠ []) (ho : okA l) : resP (arcS l).data.toList = arcP 0 l ∧ (arcD (arcS l).data.toList).2 = 0 := by
  have h := arcD_back hl ho
  unfold arcS
  rw [fW]
  unfold resP
  rw [h]
  exact ⟨rfl, rfl⟩
theorem resP_bad {s : List UInt8} (h : (arcD s).2 ≠ 0) : resP s = [] := by unfold resP; rw [if_neg h]
theorem read_arc {l : List (Nat × List ByteArray)} (hl : l ≠ []) (ho : okA l) (hs : (arcS l).size ≤ 120000) (w : World) (hE : iF w) :
    Calls Tryz.prog 19 #[.string (arcS l)] w fun e w' => e = .returned (.tuple #[.string (catT (allT l)), .int .i64 0]) ∧ Below w.heap.size w w' := by
  have h := read_any (arcS l) w hE hs
  obtain ⟨h1, h2⟩ := arcS_res hl ho
  rw [h1, h2, arcP_t] at h
  exact h
theorem read_bad {s : ByteArray} {E : Int} (h : (arcD s.data.toList).2 = E) (h0 : E ≠ 0) (hs : s.size ≤ 120000) (w : World) (hE : iF w) :
    Calls Tryz.prog 19 #[.string s] w fun e w' => e = .returned (.tuple #[.string ⟨#[]⟩, .int .i64 E]) ∧ Below w.heap.size w w' := by
  have k := read_any s w hE hs
  rw [resP_bad (by rw [h]; exact h0), h] at k
  exact k
theorem rooms_arc {l : List (Nat × List ByteArray)} (hl : l ≠ []) (ho : okA l) (hs : (arcS l).size ≤ 120000) (w : World) (hE : iF w) :
    Calls Tryz.prog 22 #[.string (arcS l)] w fun e w' => ∃ v, e = .returned (.tuple #[v, .int .i64 0]) ∧ RdI w' v (l.map (fun p => p.2.map (fun _ => 40 * (p.1 : Int)))).flatten ∧ Below w.heap.size w w' := by
  have h := rooms_any (arcS l) w hE hs
  obtain ⟨h1, h2⟩ := arcS_res hl ho
  rw [h1, h2, arcP_r] at h
  exact h
theorem blocks_arc {l : List (Nat × List ByteArray)} (hl : l ≠ []) (ho : okA l) (hs : (arcS l).size ≤ 120000) (w : World) (hE : iF w) :
    Calls Tryz.prog 20 #[.string (arcS l)] w fun e w' => ∃ v, e = .returned (.tuple #[v, .int .i64 0]) ∧ RdR w' v ((arcP 0 l).map blkC) ∧ Below w.heap.size w w' := by
  have h := blocks_any (arcS l) w hE hs
  obtain ⟨h1, h2⟩ := arcS_res hl ho
  rw [h1, h2] at h
  exact h
/-- What is written of texts that have room. -/
theorem write_fine (n : Nat) (v : Value) (l : List ByteArray) (w : World) (hr : RdT w v l) (hl : l.length ≤ 5) (hf : fineT l) (h1 : 1 ≤ n) (h9 : n ≤ 9) :
    Calls Tryz.prog 17 #[.int .i64 (n : Int), v] w fun e w' => e = .returned (.tuple #[.string (arcS [(n, l)]), .int .i64 0]) ∧ okA [(n, l)] ∧ Below w.heap.size w w' := by
  have hen : ∀ t ∈ l, eZ t (40 * (n : Int)) = 0 := fun t ht => by
    obtain ⟨f1, f2, f3⟩ := hf t ht
    unfold lnL at f2
    exact wY f1 (by omega) (by omega) (by omega)
  have hwr : wrE (n : Int) l = 0 := by unfold wrE; rw [if_neg (by omega)]; exact firstE_of hen
  refine (write_any (n : Int) v l w hr (by omega) (fun t ht => by have := (hf t ht).2.2; omega) (by omega) (by omega) (fun k hk ho => ?_)).mono ?_
  · have := bodyW_len (r := 40 * (n : Int)) (by omega) (l.take k) ho
    rw [List.length_take] at this
    omega
  · rintro e w' (⟨-, rfl, ho, hb⟩ | ⟨h0, -, -⟩)
    · refine ⟨?_, okA_one h1 h9 ho, hb⟩
      rw [Int.toNat_natCast]
      unfold arcS
      rw [arc_one]
    · exact absurd hwr h0
theorem RdT.nil (w : World) : RdT w (.slice none 0 0) [] := ⟨none, 0, rfl, Nat.le_refl _, by simp [maxLen], .inl rfl⟩
/-- Too little, or an argument that may not be. -/
theorem write_none (n : Int) (v : Value) (l : List ByteArray) (w : World) (hr : RdT w v l) (hl : l.length ≤ 5) (hs : ∀ t ∈ l, t.size ≤ 1000) (E : Int) (hE : wrE n l = E) (h0 : E ≠ 0) (hn1 : 0 ≤ n) (hn2 : n ≤ 9) :
    Calls Tryz.prog 17 #[.int .i64 n, v] w fun e w' => e = .returned (.tuple #[.string ⟨#[]⟩, .int .i64 E]) ∧ Below w.heap.size w w' := by
  refine (write_any n v l w hr (by omega) (fun t ht => by have := hs t ht; omega) (by omega) (by omega) (fun k hk ho => ?_)).mono ?_
  · have := bodyW_len (r := 40 * n) (by omega) (l.take k) ho
    rw [List.length_take] at this
    omega
  · rintro e w' (⟨h, -, -, -⟩ | ⟨-, rfl, hb⟩)
    · rw [hE] at h; exact absurd h h0
    · exact ⟨by rw [hE], hb⟩
/-- The bytes of an archive of one stream: as many as there must be, and the first four. -/
theorem arcS_head (n : Nat) (l : List ByteArray) : (arcS [(n, l)]).data.toList.take 4 = headW n ∧ 14 ≤ (arcS [(n, l)]).size := by
  unfold arcS
  rw [fW, cP, ← arc_one, gY, strW_length]
  refine ⟨?_, by omega⟩
  have h := stands_bytes (s := aD (strW n l)) (h := headW n) (k := 0) (by
    have := zP (strW n l)
    unfold strW at this ⊢
    exact (jN this).1)
  rw [List.drop_zero] at h
  exact h
theorem arcS_none (n : Nat) : (arcS [(n, [])]).size = 14 := by
  unfold arcS
  rw [cP, ← arc_one, gY, strW_length]
  rfl

def bananaS : ByteArray := ⟨#[98, 97, 110, 97, 110, 97]⟩
def xS : ByteArray := ⟨#[120]⟩
theorem awake_fine : fineT [bananaS, xS] := fun t ht => by
  rcases List.mem_cons.1 ht with rfl | ht
  · exact ⟨by decide, by decide, by decide⟩
  · obtain rfl := List.mem_singleton.1 ht
    exact ⟨by decide, by decide, by decide⟩

end Go.Proofs.YtpgmbhpbgkljdaaGreatDoor
