/-
  The walks of the alphabets, of both texts.
-/
import Derived.Test.YthjmpiekjfnoiaaGreatDoorZ2
import Derived.Deep.RegionHeld3
import Derived.StillTailTactics
import Derived.Deep.Cut
import Derived.Laws.IdiomCopy
import Derived.Lib.BytesEntry
import Derived.Lib.ConvBytes
import Derived.Laws.ResultCell
import Derived.RangeFuncNested
import Derived.RangeFuncBound
import Derived.RangeFuncCalls
import Derived.RangeFuncLeaves
import Derived.RangeFuncBox
import Derived.Shelf.Abstract
import Derived.Shelf.RegionOpen
import Derived.OwnWalkIn
import Derived.TacticsInMore
import Derived.LoopNIn
import Derived.LoopIn
namespace Go.Proofs.YthjmpiekjfnoiaaGreatDoor
open Go.RowKit

theorem appBy {ops : Array Oper} {rest : List Oper} {o : Oper} {a : Act} {Q : Exit → Act → World → Prop} {w : World} (hgd : o.guard = none) (s x : Operand)
    (ho : o.op = .call { callee := .builtin .append, args := #[s, x], argTypes := #[49, 49] }) (base : Nat) (v : Value) (l : List UInt8) (hs : a.eval s = v) (hown : OwB w base v l)
    (g : Nat) (b : UInt8) (hx : a.eval x = .slice (some ⟨g, 0, none⟩) 1 1) (hc : w.cell? ⟨g, 0, none⟩ = some (.int .u8 (b.toNat : Int))) (hroom : (l.length + 1) * 1 ≤ 140737488355328) (hbase : base ≤ w.heap.size)
    (h : ∀ v' w', OwB w' base v' (l ++ [b]) → Below base w w' → w.grownBy w' v.ownBlock → wpList Tryz.prog ops Q rest (a.put o.dst v') w') : wpList Tryz.prog ops Q (o :: rest) a w :=
  appO elByte hgd s x ho base v _ hs hown g _ hx hc rfl (by simpa using hroom) hbase (fun v' w' q1 q2 q3 => h v' w' (by unfold OwB; rw [bytesV_append]; exact q1) q2 q3)

/-- Which bytes there are among the first k. -/
def hasTo (s : List UInt8) (k c : Nat) : Bool := hasB (s.take k) c
theorem hasTo_succ (s : List UInt8) (k : Nat) (b : UInt8) (h : s[k]? = some b) (c : Nat) : hasTo s (k + 1) c = if c = b.toNat then true else hasTo s k c := by
  unfold hasTo hasB
  rw [List.take_add_one, h, Option.toList_some, List.any_append]
  by_cases e : c = b.toNat
  · rw [if_pos e, e]; simp
  · rw [if_neg e]
    have : (b.toNat == c) = false := by rw [beq_eq_false_iff_ne]; exact fun h => e h.symm
    simp [this]
def boolsV (f : Nat → Bool) : List Value := (List.range 256).map fun c => .bool (f c)
theorem boolsV_get (f : Nat → Bool) (c : Nat) (h : c < 256) : (boolsV f)[c]? = some (.bool (f c)) := by simp [boolsV, h]
theorem boolsV_set (f f' : Nat → Bool) (c : Nat) (v : Bool) (h : ∀ d, f' d = if d = c then v else f d) : (boolsV f).set c (.bool v) = boolsV f' := by
  apply List.ext_getElem?
  intro j
  by_cases hj : j < 256
  · by_cases e : c = j
    · subst e; simp [boolsV, hj, h]
    · rw [List.getElem?_set_ne e, boolsV_get f j hj, boolsV_get f' j hj, h, if_neg (fun h => e h.symm)]
  · rw [List.getElem?_eq_none (by simp [boolsV]; omega), List.getElem?_eq_none (by simp [boolsV]; omega)]

theorem zeroCellsSet : Tryz.zeroCells80 = (boolsV (fun _ => false)).toArray := by kernel_rfl

theorem boolsV_size (f : Nat → Bool) : (boolsV f).toArray.size = 256 := by simp [boolsV]
theorem setInfo (f : Nat → Bool) : (Tryz.prog.info? 80).map (·.size) = some (boolsV f).toArray.size := by rw [boolsV_size]; kernel_rfl
theorem setUnder : Tryz.prog.underlying 80 = some (.array 256 4) := by kernel_rfl
theorem boolsV_one (f : Nat → Bool) : (boolsV f).toArray.all (·.oneCell') = true := by
  rw [Array.all_eq_true_iff_forall_mem]
  intro v hv
  have hv' : v ∈ boolsV f := by simpa using hv
  obtain ⟨c, _, rfl⟩ := List.mem_map.1 hv'
  rfl
theorem store_bools {w : World} {b : Nat} {e : TypeId} {l : List Value} (h : Arr w b e l) (hl : l.length = 256) (f : Nat → Bool) :
    (storeCells ⟨b, 0, none⟩ (boolsV f)).run Tryz.prog w = .ok () (w.setRow b (boolsV f).toArray) := by
  have h1 : (boolsV f).length = 256 := by simp [boolsV]
  have h2 := run_storeCells_from (P := Tryz.prog) b e (boolsV f) 0 l.toArray w h (by simp [hl, h1]) (fun v hv => by obtain ⟨c, _, rfl⟩ := List.mem_map.1 hv; rfl)
  rw [h2]
  congr 2
theorem bSetRow {B : Nat} {w w' : World} (h : Below B w w') (g : Nat) (hg : B ≤ g) (cs : Array Value) : Below B w (w'.setRow g cs) :=
  ⟨h.os, h.tape, h.output, by rw [size_setRow]; exact h.size, fun k hk => (setRow_other w' g k cs (by omega)).trans (h.block k hk)⟩

set_option maxRecDepth 100000 in
set_option maxHeartbeats 1600000 in
theorem of_any (s : ByteArray) (w : World) (hs : s.size ≤ 140737488355328) :
    Calls Tryz.prog 50 #[.string s] w fun e w' => e = .returned (.agg (boolsV (hasB s.data.toList)).toArray) ∧ Below w.heap.size w w' := by
  have HL := hid (show s.data.toList.length = s.size by simp)
  go_enter Tryz.func50, Tryz.ntmps50
  go_wp2_with fail
  go_loopg [3, 6] s.size (fun gh _s3 s6 wr => ∃ k : Nat, k ≤ s.size ∧ gh = s.size - k ∧ s6 = .int .i64 k ∧ Arr wr w.heap.size 80 (boolsV (hasTo s.data.toList k)) ∧ Below w.heap.size w wr)
  case atStart =>
    refine ⟨0, Nat.zero_le _, rfl, rfl, ?_, (Below.refl _ _).alloc (Nat.le_refl _) _⟩
    rw [zeroCellsSet, show hasTo s.data.toList 0 = fun _ => false from by funext c; simp [hasTo, hasB]]
    exact Arr.new w _ _
  case round =>
  obtain ⟨k, hk, hg, rfl, harr, hbel⟩ := hrel
  have HG := hid hg
  clear hg
  by_cases hlt : k < s.size
  · have hb := s[k].toNat_lt
    have c1 := harr.cell (boolsV_get (hasTo s.data.toList k) s[k].toNat hb)
    have f1 := harr.free s[k].toNat
    have HS := hid (hasTo_succ s.data.toList k s[k] (byteAt s k hlt))
    go_wp2_with fail
    have hg := HG.out
    go_roundg (s.size - (k + 1))
    case measure => omega
    case rel =>
      refine ⟨k + 1, by omega, rfl, by go_num, ?_, hbel.setCell (p := ⟨w.heap.size, s[k].toNat, none⟩) (Nat.le_refl _) _⟩
      have := harr.set s[k].toNat (.bool true)
      rwa [boolsV_set _ (hasTo s.data.toList (k + 1)) _ true HS.out] at this
  · have hke : k = s.size := by omega
    subst hke
    have hfin : hasTo s.data.toList s.size = hasB s.data.toList := by funext c; unfold hasTo; rw [List.take_of_length_le (by rw [HL.out]; exact Nat.le_refl _)]
    rw [hfin] at harr
    clear hfin
    go_wp2_with fail
    refine wp_load_row 80 (.tmp 2) rfl w.heap.size rfl _ _ (0, 0) (.array 256 4) harr setUnder rfl (setInfo _) ?_
    have hst := store_bools harr (by simp [boolsV]) (hasB s.data.toList)
    go_wp2_with fail
    have harr2 : Arr (wr.setRow w.heap.size (boolsV (hasB s.data.toList)).toArray) w.heap.size 80 (boolsV (hasB s.data.toList)) := setRow_heap wr w.heap.size _ _ 80 (0, 0) harr
    refine bodyPost_ret (results_cell_row rfl _ _ w.heap.size _ _ (0, 0) (.array 256 4) rfl harr2 setUnder rfl (setInfo _)) rfl ?_
    exact ⟨rfl, bSetRow hbel _ (Nat.le_refl _) _⟩

theorem boolSize (w : World) : (sizeOf 4).run Tryz.prog w = .ok 1 w := by kernel_rfl
theorem idx_set (cs : Array Value) (k : Nat) (hk : k < 256) (b : Bool) (h : cs[k]? = some (.bool b)) (w : World) : (Instr.index 80 (.agg cs) (.int .i64 (k : Int))).run Tryz.prog w = .ok (.bool b) w := by
  have hk' : (k : Int) < 256 := by omega
  simp [Instr.index, run_underlying setUnder, asIntOf, hk, part, isAgg, run_underlying Tryz.underlying4, h, Result.andThen]

theorem ofNat_toNat {c : Nat} (h : c < 256) : (UInt8.ofNat c).toNat = c := by rw [UInt8.toNat_ofNat']; omega

set_option maxRecDepth 100000 in
set_option maxHeartbeats 1600000 in
theorem alphabet_any (s : ByteArray) (w : World) (hs : s.size ≤ 140737488355328) :
    Calls Tryz.prog 21 #[.string s] w fun e w' => e = .returned (.string (mkS (alph s.data.toList))) ∧ Below w.heap.size w w' := by
  go_enter Tryz.func21, Tryz.ntmps21
  go_wp2_with fail
  refine (of_any s _ hs).mono ?_
  rintro e w1 ⟨rfl, h1⟩
  obtain ⟨cs, hcs⟩ : ∃ cs, cs = (boolsV (hasB s.data.toList)).toArray := ⟨_, rfl⟩
  rw [← hcs]
  have hsz : cs.size = 256 := by rw [hcs]; exact boolsV_size _
  have hget : ∀ c, c < 256 → cs[c]? = some (.bool (hasB s.data.toList c)) := fun c hc => by rw [hcs]; simpa using boolsV_get (hasB s.data.toList) c hc
  have HGET := hid hget
  clear hcs hget
  go_wp2_with fail
  go_loopg [3, 4, 5, 8] 256 (fun gh s3 _s4 _s5 s8 wr => ∃ k : Nat, k ≤ 256 ∧ gh = 256 - k ∧ s8 = .int .i64 k ∧ OwB wr w1.heap.size s3 (alphTo s.data.toList k) ∧ Below w1.heap.size w1 wr)
  case atStart => exact ⟨0, by omega, rfl, rfl, Ow.nil _ _ _, Below.refl _ _⟩
  case round =>
  obtain ⟨k, hk, hg, rfl, hown, hbel⟩ := hrel
  have HG := hid hg
  clear hg
  by_cases hlt : k < 256
  · have t1 : decide ((k : Int) < 256) = true := decide_eq_true (by omega)
    have t2 : (k : Int) < 256 := by omega
    have g1 := HGET.out k hlt
    have ix : (Instr.index 80 (.agg cs) (.int .i64 (k : Int))).run Tryz.prog wr = .ok (.bool (hasB s.data.toList k)) wr := idx_set cs k hlt _ g1 wr
    have g2 : IntKind.u8.wrap (k : Int) = (k : Int) := by unfold IntKind.wrap; simp [IntKind.signed, IntKind.bits]; omega
    have hlen := alphTo_length s.data.toList k
    have hbs := hbel.size
    have hsucc := hid (alphTo_succ s.data.toList k)
    have e1 : ((UInt8.ofNat k).toNat : Int) = (k : Int) := by rw [ofNat_toNat hlt]
    by_cases hh : hasB s.data.toList k = true
    · rw [hh] at ix
      have HH := hid hh
      clear hh
      go_wp2_with (at_builtin; refine appBy rfl _ _ rfl w1.heap.size _ _ rfl (hown.alloc _) wr.heap.size (UInt8.ofNat k) rfl ?_ ?_ ?_ ?_; (rw [e1]; exact newc _ _ _); omega; (simp; omega); intro v' w3 hown' hB hgrow)
      have hg := HG.out
      go_roundg (256 - (k + 1))
      case measure => omega
      case rel =>
        refine ⟨k + 1, by omega, rfl, by go_num, ?_, (hbel.alloc hbs _).trans hB⟩
        have := hsucc.out
        rw [if_pos HH.out] at this
        rw [this]; exact hown'
    · have hf : hasB s.data.toList k = false := by simpa using hh
      rw [hf] at ix
      have HH := hid hf
      clear hh hf
      go_wp2_with fail
      have hg := HG.out
      go_roundg (256 - (k + 1))
      case measure => omega
      case rel =>
        refine ⟨k + 1, by omega, rfl, by go_num, ?_, hbel⟩
        have := hsucc.out
        rw [if_neg (by rw [HH.out]; exact Bool.false_ne_true), List.append_nil] at this
        rw [this]; exact hown
  · have hke : k = 256 := by omega
    subst hke
    have hcv := conv_bytes hown.rd
    have HE := hid (show alphTo s.data.toList 256 = alph s.data.toList from rfl)
    go_wp2_with fail
    go_ret
    exact ⟨ret_str (by rw [HE.out]), belT h1 hbel⟩

set_option maxRecDepth 100000 in
theorem refHas_any (s : ByteArray) (c : Nat) (w : World) (hs : s.size ≤ 140737488355328) (_hc : c < 256) :
    Calls Tryz.prog 56 #[.string s, .int .i64 (c : Int)] w fun e w' => e = .returned (.bool (hasB s.data.toList c)) ∧ w' = w := by
  have HL := hid (show s.data.toList.length = s.size by simp)
  go_enter Tryz.func56, Tryz.ntmps56
  go_wp2_with fail
  go_loopg [5] s.size (fun gh s5 wr => ∃ k : Nat, k ≤ s.size ∧ gh = s.size - k ∧ s5 = .int .i64 k ∧ Hid (hasTo s.data.toList k c = false) ∧ w = wr)
  case atStart => exact ⟨0, Nat.zero_le _, rfl, rfl, hid rfl, rfl⟩
  case round =>
  obtain ⟨k, hk, hg, rfl, HN, rfl⟩ := hrel
  have HG := hid hg
  clear hg
  by_cases hlt : k < s.size
  · have hb := s[k].toNat_lt
    have HS := hid (hasTo_succ s.data.toList k s[k] (byteAt s k hlt) c)
    by_cases he : s[k].toNat = c
    · have t1 : ((s[k].toNat : Int) == (c : Int)) = true := by rw [beq_iff_eq]; omega
      have HE := hid he
      clear he
      go_wp2_with fail
      go_ret
      refine ⟨ret_bool ?_, rfl⟩
      have hm : s[k] ∈ s.data.toList := List.mem_of_getElem? (byteAt s k hlt)
      rw [← HE.out]
      exact ((hasB_iff s.data.toList s[k]).2 hm).symm
    · have t1 : ((s[k].toNat : Int) == (c : Int)) = false := by rw [beq_eq_false_iff_ne]; omega
      have HE := hid he
      clear he
      go_wp2_with fail
      have hg := HG.out
      go_roundg (s.size - (k + 1))
      case measure => omega
      case rel =>
        refine ⟨k + 1, by omega, rfl, by go_num, hid ?_, rfl⟩
        rw [HS.out, if_neg (fun e => HE.out e.symm)]; exact HN.out
  · have hke : k = s.size := by omega
    go_wp2_with fail
    go_ret
    refine ⟨ret_bool ?_, rfl⟩
    have := HN.out
    unfold hasTo at this
    rw [List.take_of_length_le (by rw [HL.out]; omega)] at this
    exact this.symm

set_option maxRecDepth 100000 in
set_option maxHeartbeats 1600000 in
theorem refAlphabet_any (s : ByteArray) (w : World) (hs : s.size ≤ 140737488355328) :
    Calls Tryz.prog 28 #[.string s] w fun e w' => e = .returned (.string (mkS (alph s.data.toList))) ∧ Below w.heap.size w w' := by
  go_enter Tryz.func28, Tryz.ntmps28
  go_wp2_with fail
  go_loopg [3, 4] 256 (fun gh s3 s4 wr => ∃ k : Nat, k ≤ 256 ∧ gh = 256 - k ∧ s4 = .int .i64 k ∧ OwB wr w.heap.size s3 (alphTo s.data.toList k) ∧ Below w.heap.size w wr)
  case atStart => exact ⟨0, by omega, rfl, rfl, Ow.nil _ _ _, Below.refl _ _⟩
  case round =>
  obtain ⟨k, hk, hg, rfl, hown, hbel⟩ := hrel
  have HG := hid hg
  clear hg
  by_cases hlt : k < 256
  · have t1 : decide ((k : Int) < 256) = true := decide_eq_true (by omega)
    have t2 : (k : Int) < 256 := by omega
    have g2 : IntKind.u8.wrap (k : Int) = (k : Int) := by unfold IntKind.wrap; simp [IntKind.signed, IntKind.bits]; omega
    have hlen := alphTo_length s.data.toList k
    have hbs := hbel.size
    have hsucc := hid (alphTo_succ s.data.toList k)
    have e1 : ((UInt8.ofNat k).toNat : Int) = (k : Int) := by rw [ofNat_toNat hlt]
    go_wp2_with fail
    refine (refHas_any s k _ hs hlt).mono ?_
    rintro e w1 ⟨rfl, rfl⟩
    by_cases hh : hasB s.data.toList k = true
    · rw [hh]
      have HH := hid hh
      clear hh
      go_wp2_with (at_builtin; refine appBy rfl _ _ rfl w.heap.size _ _ rfl (hown.alloc _) w1.heap.size (UInt8.ofNat k) rfl ?_ ?_ ?_ ?_; (rw [e1]; exact newc _ _ _); omega; (simp; omega); intro v' w3 hown' hB hgrow)
      have hg := HG.out
      go_roundg (256 - (k + 1))
      case measure => omega
      case rel =>
        refine ⟨k + 1, by omega, rfl, by go_num, ?_, (hbel.alloc hbs _).trans hB⟩
        have := hsucc.out
        rw [if_pos HH.out] at this
        rw [this]; exact hown'
    · have hf : hasB s.data.toList k = false := by simpa using hh
      rw [hf]
      have HH := hid hf
      clear hh hf
      go_wp2_with fail
      have hg := HG.out
      go_roundg (256 - (k + 1))
      case measure => omega
      case rel =>
        refine ⟨k + 1, by omega, rfl, by go_num, ?_, hbel⟩
        have := hsucc.out
        rw [if_neg (by rw [HH.out]; exact Bool.false_ne_true), List.append_nil] at this
        rw [this]; exact hown
  · have hke : k = 256 := by omega
    subst hke
    have hcv := conv_bytes hown.rd
    have HE := hid (show alphTo s.data.toList 256 = alph s.data.toList from rfl)
    go_wp2_with fail
    go_ret
    exact ⟨ret_str (by rw [HE.out]), hbel⟩

end Go.Proofs.YthjmpiekjfnoiaaGreatDoor

/-
  The walks of chapter 5 of the program: which alphabets may be; a byte's place; bringing one to the front.
-/
namespace Go.Proofs.YthjmpiekjfnoiaaGreatDoor
open Go.RowKit

/-- The block g begins with these bytes; they may be written. -/
def ByA (w : World) (g : Nat) (l : List UInt8) : Prop := g < w.heap.size ∧ (∀ j b, l[j]? = some b → w.cell? ⟨g, j, none⟩ = some (.int .u8 (b.toNat : Int))) ∧ ∀ j, j < l.length → w.frozen? ⟨g, j, none⟩ = false
theorem ByA.kept {w w' : World} {g : Nat} {l : List UInt8} {row : Option Nat} (h : ByA w g l) (hg : w.grownBy w' row) (hne : some g ≠ row) : ByA w' g l :=
  ⟨Nat.lt_of_lt_of_le h.1 hg.size, fun j b hj => by rw [World.cell?_of_block (hg.block g h.1 hne)]; exact h.2.1 j b hj, fun j hj => by rw [World.frozen?_of_block (hg.block g h.1 hne)]; exact h.2.2 j hj⟩
theorem ByA.below {w w' : World} {B g : Nat} {l : List UInt8} (h : ByA w g l) (hb : Below B w w') (hg : g < B) : ByA w' g l :=
  ⟨Nat.lt_of_lt_of_le h.1 hb.size, fun j b hj => by rw [hb.cell (p := ⟨g, j, none⟩) hg]; exact h.2.1 j b hj, fun j hj => by rw [hb.frozen (p := ⟨g, j, none⟩) hg]; exact h.2.2 j hj⟩
theorem ByA.set {w : World} {g : Nat} {l : List UInt8} (h : ByA w g l) (i : Nat) (b : UInt8) : ByA (w.setCell ⟨g, i, none⟩ (.int .u8 (b.toNat : Int))) g (l.set i b) := by
  refine ⟨by simpa using h.1, fun j c hj => ?_, fun j hj => by rw [World.frozen?_setCell]; exact h.2.2 j (by simpa using hj)⟩
  obtain ⟨hl, hc⟩ := List.getElem?_eq_some_iff.1 hj
  rw [List.length_set] at hl
  by_cases e : i = j
  · subst e
    rw [List.getElem_set_self] at hc
    subst hc
    exact World.cell?_setCell_same _ _ _ (h.2.1 i _ (List.getElem?_eq_getElem hl))
  · rw [World.cell?_setCell_other _ _ _ _ (fun e' => e (by have := congrArg Addr.off e'; simpa using this))]
    refine h.2.1 j c ?_
    rw [← hj, List.getElem?_set_ne e]

theorem byteInfo : (Tryz.prog.info? 5).map (·.size) = some 1 := by kernel_rfl

theorem copyB {ops : Array Oper} {rest : List Oper} {o : Oper} {a : Act} {Q : Exit → Act → World → Prop} {w : World} (hgd : o.guard = none) (d s : Operand)
    (ho : o.op = .call { callee := .builtin .copy, args := #[d, s], argTypes := #[49, 49] }) (g : Nat) (l : List UInt8) (i : Nat) (hA : ByA w g l) (hi : i < l.length)
    (dp : Option Addr) (dLen dCap sCap : Nat) (hd : a.eval d = .slice dp dLen dCap) (hs : a.eval s = .slice (some ⟨g, 0, none⟩) i sCap) (hdl : dLen = l.length - 1) (hdp : 1 < l.length → dp = some ⟨g, 1, none⟩)
    (h : ∀ w', ByA w' g (l.take 1 ++ l.take i ++ l.drop (i + 1)) → w.grownBy w' (some g) → wpList Tryz.prog ops Q rest (a.put o.dst (goInt i)) w') :
    wpList Tryz.prog ops Q (o :: rest) a w := by
  refine wpList_plain hgd fun K hK => ?_
  replace h := fun w' q1 q2 => hK _ _ (h w' q1 q2)
  rcases Nat.eq_zero_or_pos i with h0 | h0
  · subst h0
    have hrun := run_copy_none (P := Tryz.prog) w 49 49 o.type 5 dp (some ⟨g, 0, none⟩) dLen dCap 0 sCap Tryz.underlying49 byteInfo (Nat.zero_min _)
    unfold Oper.wp
    simp [execOp, ho, resolve, invoke, builtin, hd, hs, hrun, Result.andThen]
    refine h w ?_ ⟨rfl, rfl, rfl, Nat.le_refl _, fun _ _ _ => rfl⟩
    rw [List.take_zero, List.append_nil, List.take_append_drop]; exact hA
  · have hdp' := hdp (by omega)
    subst hdp'
    have hl1 : (l.take i).length = i := by rw [List.length_take]; omega
    have hrun := run_copy_cells (P := Tryz.prog) w 49 49 o.type 5 g 1 dLen dCap ⟨g, 0, none⟩ i sCap (bytesV (l.take i)) Tryz.underlying49 byteInfo (by rw [bytesV_length, hl1]; exact (Nat.min_eq_left (by omega)).symm)
      (fun j v hj => by
        unfold bytesV at hj
        rw [List.getElem?_map] at hj
        cases hn : (l.take i)[j]? with
        | none => rw [hn] at hj; simp at hj
        | some b =>
          rw [hn] at hj; simp at hj; subst hj
          have e : (⟨g, 0, none⟩ : Addr).add j = ⟨g, j, none⟩ := by unfold Addr.add; split <;> simp_all
          rw [e]
          have hj' : j < i := by have := (List.getElem?_eq_some_iff.1 hn).1; omega
          rw [List.getElem?_take_of_lt hj'] at hn
          exact hA.2.1 j b hn)
      (fun j hj => by
        rw [bytesV_length, hl1] at hj
        rw [hA.2.1 (1 + j) _ (List.getElem?_eq_getElem (by omega))]; rfl)
      (fun j hj => by rw [bytesV_length, hl1] at hj; exact hA.2.2 (1 + j) (by omega))
      (fun v hv => by obtain ⟨b, _, rfl⟩ := List.mem_map.1 hv; rfl)
    rw [bytesV_length, hl1] at hrun
    unfold Oper.wp
    simp [execOp, ho, resolve, invoke, builtin, hd, hs, hrun, Result.andThen]
    have hsz : ∀ (vs : List Value) (o : Nat) (w : World), w.grownBy (w.setCells g o vs) (some g) := by
      intro vs
      induction vs with
      | nil => intro o w; exact ⟨rfl, rfl, rfl, Nat.le_refl _, fun _ _ _ => rfl⟩
      | cons v vs ih =>
        intro o w
        have h2 := ih (o + 1) (w.setCell ⟨g, o, none⟩ v)
        refine ⟨h2.os, h2.tape, h2.output, Nat.le_trans (by simp) h2.size, fun k hk hne => ?_⟩
        rw [World.setCells, h2.block k (by simpa using hk) hne]
        exact heap_setCell_other _ _ _ _ (fun e => hne (by rw [e]))
    have hlen : (l.take 1 ++ l.take i ++ l.drop (i + 1)).length = l.length := by simp only [List.length_append, List.length_take, List.length_drop]; omega
    refine h _ ⟨Nat.lt_of_lt_of_le hA.1 (hsz _ _ _).size, fun j b hj => ?_, fun j hj => ?_⟩ (hsz _ _ _)
    · rcases Nat.eq_zero_or_pos j with j0 | j0
      · subst j0
        rw [World.cell?_setCells_out g _ _ _ _ (fun _ _ => .inl (by simp))]
        refine hA.2.1 0 b ?_
        rw [← hj, List.append_assoc, List.getElem?_append_left (by rw [List.length_take]; omega), List.getElem?_take_of_lt (by omega)]
      · rcases Nat.lt_or_ge j (i + 1) with q | q
        · have hjl : j - 1 < (bytesV (l.take i)).length := by rw [bytesV_length, hl1]; omega
          have hin := World.cell?_setCells_in g (bytesV (l.take i)) 1 w (fun k hk => by
            rw [bytesV_length, hl1] at hk
            rw [hA.2.1 (1 + k) _ (List.getElem?_eq_getElem (by omega))]; rfl) (j - 1) hjl
          rw [show 1 + (j - 1) = j by omega] at hin
          rw [hin]
          have e : (l.take i)[j - 1]? = some b := by
            rw [← hj, List.append_assoc, List.getElem?_append_right (by rw [List.length_take]; omega), List.length_take, show min 1 l.length = 1 by omega, List.getElem?_append_left (by rw [hl1]; omega)]
          have := bytesV_get e
          rw [List.getElem?_eq_getElem hjl] at this
          exact this
        · rw [World.cell?_setCells_out g _ _ _ _ (fun _ _ => .inr (by rw [bytesV_length, hl1]; simp; omega))]
          refine hA.2.1 j b ?_
          have e3 : i + 1 + (j - (l.take 1 ++ l.take i).length) = j := by simp only [List.length_append, List.length_take]; omega
          rw [← hj, List.getElem?_append_right (by simp only [List.length_append, List.length_take]; omega), List.getElem?_drop, e3]
    · rw [World.frozen?_setCells]
      rw [hlen] at hj
      exact hA.2.2 j hj

theorem toFront_cons {l : List UInt8} {i : Nat} (hi : i < l.length) : toFront l i = l[i] :: (l.take i ++ l.drop (i + 1)) := by
  have e : (l.drop i).take 1 = [l[i]] := by rw [List.drop_eq_getElem_cons hi]; rfl
  unfold toFront
  rw [e]; simp
theorem toFront_set {l : List UInt8} {i : Nat} (hi : i < l.length) : (l.take 1 ++ l.take i ++ l.drop (i + 1)).set 0 l[i] = toFront l i := by
  rw [toFront_cons hi]
  cases l with
  | nil => simp at hi
  | cons b l => simp

theorem bSetG {w w' : World} {g : Nat} (h : w.grownBy w' (some g)) (k : Nat) (v : Value) : w.grownBy (w'.setCell ⟨g, k, none⟩ v) (some g) :=
  ⟨h.os, h.tape, h.output, by simpa using h.size, fun i hi hne => (heap_setCell_other _ _ _ _ (fun e => hne (by rw [e]))).trans (h.block i hi hne)⟩

theorem keepD {w0 w : World} {g n cap bx : Nat} {l : List UInt8} (h : w.cell? ⟨bx, 0, none⟩ = some (.slice (some ⟨g, 0, none⟩) n cap) ∧ ByA w g l ∧ w0.grownBy w (some g)) : w.drew.cell? ⟨bx, 0, none⟩ = some (.slice (some ⟨g, 0, none⟩) n cap) ∧ ByA w.drew g l ∧ w0.grownBy w.drew (some g) :=
  ⟨h.1, h.2.1, gDrew h.2.2⟩

set_option maxRecDepth 100000 in
set_option maxHeartbeats 1600000 in
theorem take_any (g cap i : Nat) (l : List UInt8) (w : World) (hA : ByA w g l) (hi : i < l.length) (hl : l.length ≤ 1000) (hcap : l.length ≤ cap) (hcm : cap ≤ maxLen) :
    Calls Tryz.prog 84 #[.agg #[.slice (some ⟨g, 0, none⟩) l.length cap], .int .i64 (i : Int)] w fun e w' => e = .returned (.int .u8 (l[i].toNat : Int)) ∧ ByA w' g (toFront l i) ∧ w.grownBy w' (some g) := by
  unfold maxLen at hcm
  obtain ⟨b, hb⟩ : ∃ b, b = l[i] := ⟨_, rfl⟩
  have HB := hid hb
  have c1 := hA.2.1 i b (by rw [hb]; exact List.getElem?_eq_getElem hi)
  rw [← hb]
  have hgl := hA.1
  have hA1 : ByA (w.alloc (.cells #[.slice (some ⟨g, 0, none⟩) l.length cap] 87)) g l := hA.kept (row := none) (World.grownBy_alloc _ _ _) (by simp)
  have hG1 : w.grownBy (w.alloc (.cells #[.slice (some ⟨g, 0, none⟩) l.length cap] 87)) (some g) := World.grownBy_alloc _ _ _
  have hC1 := newc w (.slice (some ⟨g, 0, none⟩) l.length cap) 87
  have hB1 : w.heap.size < (w.alloc (.cells #[.slice (some ⟨g, 0, none⟩) l.length cap] 87)).heap.size := by simp
  have hle1 : 1 ≤ l.length := by omega
  have hle2 : 1 ≤ cap := by omega
  have hbt := b.toNat_lt
  clear hb
  go_enter Tryz.func84, Tryz.ntmps84
  have b1 : i ≤ cap := by omega
  have b2 : (i : Int) ≤ (cap : Int) := by omega
  have b3 : (1 : Int) ≤ (l.length : Int) := by omega
  have b4 : (1 : Int) ≤ (cap : Int) := by omega
  go_upto_region 2 with fail
  generalize w.alloc (.cells #[.slice (some ⟨g, 0, none⟩) l.length cap] 87) = w1 at *
  by_cases hc1 : cap = 1
  · subst hc1
    have hl1 : l.length = 1 := by omega
    have hi0 : i = 0 := by omega
    subst hi0
    go_still_tail 7, (by kernel_rfl)
    change wpList _ _ _ _ _ w1.drew
    obtain ⟨hC2, hA2, hG2⟩ := keepD ⟨hC1, hA1, hG1⟩
    replace hB1 : w.heap.size < w1.drew.heap.size := hB1
    clear hC1 hA1 hG1
    generalize w1.drew = w2 at *
    refine copyB rfl _ _ rfl g l 0 hA2 hi _ _ _ _ rfl rfl (by omega) (fun h1 => ?_) ?_
    · exfalso; omega
    intro w3 hA3 hG3
    have hbx : some w.heap.size ≠ some g := by simp; omega
    have hC3 := hC2
    rw [← World.cell?_of_block (hG3.block _ hB1 hbx)] at hC3
    have hlen : (l.take 1 ++ l.take 0 ++ l.drop (0 + 1)).length = l.length := by simp only [List.length_append, List.length_take, List.length_drop]; omega
    have hb0 : 0 < (l.take 1 ++ l.take 0 ++ l.drop (0 + 1)).length := by omega
    have hw0 := hA3.2.1 0 _ (List.getElem?_eq_getElem hb0)
    have hf0 := hA3.2.2 0 hb0
    have hA4 := hA3.set 0 b
    have hG4 := bSetG (gTrans hG2 hG3) 0 (.int .u8 (b.toNat : Int))
    rw [HB.out, toFront_set hi, ← HB.out] at hA4
    go_wp2_with fail
    go_ret
    exact ⟨rfl, hA4, hG4⟩
  · go_still_tail 7, (by kernel_rfl)
    change wpList _ _ _ _ _ w1.drew
    obtain ⟨hC2, hA2, hG2⟩ := keepD ⟨hC1, hA1, hG1⟩
    replace hB1 : w.heap.size < w1.drew.heap.size := hB1
    clear hC1 hA1 hG1
    generalize w1.drew = w2 at *
    refine copyB rfl _ _ rfl g l i hA2 hi _ _ _ _ rfl rfl rfl (fun h1 => rfl) ?_
    intro w3 hA3 hG3
    have hbx : some w.heap.size ≠ some g := by simp; omega
    have hC3 := hC2
    rw [← World.cell?_of_block (hG3.block _ hB1 hbx)] at hC3
    have hlen : (l.take 1 ++ l.take i ++ l.drop (i + 1)).length = l.length := by simp only [List.length_append, List.length_take, List.length_drop]; omega
    have hb0 : 0 < (l.take 1 ++ l.take i ++ l.drop (i + 1)).length := by omega
    have hw0 := hA3.2.1 0 _ (List.getElem?_eq_getElem hb0)
    have hf0 := hA3.2.2 0 hb0
    have hA4 := hA3.set 0 b
    have hG4 := bSetG (gTrans hG2 hG3) 0 (.int .u8 (b.toNat : Int))
    rw [HB.out, toFront_set hi, ← HB.out] at hA4
    go_wp2_with fail
    go_ret
    exact ⟨rfl, hA4, hG4⟩

end Go.Proofs.YthjmpiekjfnoiaaGreatDoor

/-
  The walks of chapter 5 of the program: which alphabets may be (an array of marks), a byte's place in a row.
-/
namespace Go.Proofs.YthjmpiekjfnoiaaGreatDoor
open Go.RowKit

def tabB (f : Nat → Bool) : List Value := (List.range 256).map (fun d => Value.bool (f d))
theorem tabB_length (f : Nat → Bool) : (tabB f).length = 256 := by simp [tabB]
theorem tabB_get (f : Nat → Bool) (i : Nat) (h : i < 256) : (tabB f)[i]? = some (.bool (f i)) := by simp [tabB, h]
theorem tabB_set (f f' : Nat → Bool) (i : Nat) (v : Bool) (h : ∀ d, d < 256 → f' d = if d = i then v else f d) : (tabB f).set i (.bool v) = tabB f' := by
  apply List.ext_getElem?
  intro j
  by_cases hj : j < 256
  · by_cases hij : i = j
    · subst hij; simp [tabB, hj, h i hj]
    · rw [List.getElem?_set_ne hij, tabB_get f j hj, tabB_get f' j hj, h j hj, if_neg (fun e => hij e.symm)]
  · rw [List.getElem?_eq_none (by simp [tabB]; omega), List.getElem?_eq_none (by simp [tabB]; omega)]

theorem indexByte_find {l : List UInt8} {c : UInt8} (h : c ∈ l) : Lib.indexByte l c = ((plc l c : Nat) : Int) := by
  induction l with
  | nil => simp at h
  | cons b l ih =>
    unfold Lib.indexByte plc
    rw [List.findIdx_cons]
    by_cases e : b = c
    · subst e; simp
    · have hm : c ∈ l := by rcases List.mem_cons.1 h with q | q; exact absurd q.symm e; exact q
      have := ih hm
      unfold plc at this
      have e2 : (b == c) = false := by simp [e]
      rw [this]
      simp only [e2, cond_false]
      rw [if_neg (by simp), if_neg (by simp)]
      rfl

set_option maxRecDepth 100000 in
theorem indexByte_any (g cap : Nat) (l : List UInt8) (c : UInt8) (w : World) (hA : ByA w g l) (hc : c ∈ l) :
    Calls Tryz.prog 97 #[.slice (some ⟨g, 0, none⟩) l.length cap, .int .u8 (c.toNat : Int)] w fun e w' => e = .returned (.int .i64 ((plc l c : Nat) : Int)) ∧ w' = w := by
  have hrun := Lib.run_indexByteSlice (P := Tryz.prog) w g 0 l.length cap (l.map (fun b => (b.toNat : Int))) (by simp) (fun i hi => by
    rw [Nat.zero_add, hA.2.1 i _ (List.getElem?_eq_getElem hi)]
    simp [List.getD, List.getElem?_eq_getElem hi]) (c.toNat : Int)
  have hb : Lib.bytesOf (l.map (fun b => (b.toNat : Int))) = l := by
    unfold Lib.bytesOf
    rw [List.map_map]
    conv => rhs; rw [← List.map_id l]
    exact List.map_congr_left (fun b _ => by simp)
  rw [hb, show ((c.toNat : Int).toNat.toUInt8) = c by simp, indexByte_find hc] at hrun
  go_enter Tryz.func97, Tryz.ntmps97
  go_wp2_with fail
  rw [run_callFunc_extern Tryz.func111 (by kernel_rfl) (by kernel_rfl) (by kernel_rfl) (e := Extern.BytealgIndexByte.indexByte) (by kernel_rfl), hrun]
  simp only [Result.andThen]
  rw [Oper.upon_value]
  go_wp2
  go_ret
  exact ⟨rfl, rfl⟩

set_option maxRecDepth 100000 in
theorem right_any (a : ByteArray) (w : World) (hs : a.size ≤ 1000000000) (hn : a.data.toList.Nodup) :
    Calls Tryz.prog 81 #[.string a] w fun e w' => e = .returned (.bool true) ∧ Below w.heap.size w w' := by
  have HN := hid hn
  clear hn
  have hl : a.data.toList.length = a.size := by simp
  have HL := hid hl
  clear hl
  go_enter Tryz.func81, Tryz.ntmps81
  go_wp2_with fail
  go_loopg [2, 4, 7] a.size (fun gh _s2 _s4 s7 wr => ∃ k : Nat, k ≤ a.size ∧ gh = a.size - k ∧ s7 = .int .i64 k ∧ Arr wr w.heap.size 79 (tabB (fun d => (a.data.toList.take k).any (fun b => b.toNat == d))) ∧ Below w.heap.size w wr)
  case atStart =>
    refine ⟨0, Nat.zero_le _, rfl, rfl, ?_, (Below.refl _ _).alloc (Nat.le_refl _) _⟩
    have z : Tryz.zeroCells79 = (tabB (fun _ => false)).toArray := by kernel_rfl
    rw [z]
    simpa using Arr.new w 79 (tabB (fun _ => false))
  case round =>
  obtain ⟨k, hk, hg, rfl, harr, hbel⟩ := hrel
  have HG := hid hg
  clear hg
  by_cases hka : k < a.size
  · have hb := a[k].toNat_lt
    have hb1 : a[k].toNat < 256 := hb
    have hb2 : (a[k].toNat : Int) < 256 := by omega
    have hno : (a.data.toList.take k).any (fun b => b.toNat == a[k].toNat) = false := by
      rw [← Bool.not_eq_true, List.any_eq_true]
      rintro ⟨b, hb, e⟩
      replace e := beq_iff_eq.1 e
      have e2 : b = a[k] := UInt8.toNat_inj.1 e
      subst e2
      obtain ⟨j, hj, hje⟩ := List.getElem_of_mem hb
      rw [List.length_take] at hj
      rw [List.getElem_take] at hje
      have p1 := plc_nodup HN.out (i := j) (by rw [HL.out]; omega)
      have p2 := plc_nodup HN.out (i := k) (by rw [HL.out]; exact hka)
      rw [hje] at p1
      have p3 : a.data.toList[k]'(by rw [HL.out]; exact hka) = a[k] := by simp; rfl
      rw [p3] at p2
      omega
    have hcell := harr.cell (i := a[k].toNat) (by rw [tabB_get _ _ hb1, hno])
    have hfro := harr.free a[k].toNat
    have hset := tabB_set (fun d => (a.data.toList.take k).any (fun b => b.toNat == d)) (fun d => (a.data.toList.take (k + 1)).any (fun b => b.toNat == d)) a[k].toNat true (fun d _ => by
      rw [List.take_add_one, byteAt a k hka, Option.toList_some]
      rw [List.any_append]
      by_cases hd : d = a[k].toNat
      · rw [if_pos hd, hd]; simp
      · rw [if_neg hd]
        have : (a[k].toNat == d) = false := by (rw [beq_eq_false_iff_ne]; exact fun e => hd e.symm)
        simp [this])
    have hnew := harr.set a[k].toNat (.bool true)
    rw [hset] at hnew
    clear hset
    go_wp2_with fail
    have hg := HG.out
    go_roundg (a.size - (k + 1))
    case measure => omega
    case rel => exact ⟨k + 1, by omega, rfl, by go_num, hnew, hbel.setCell (Nat.le_refl _) _⟩
  · go_wp2_with fail
    go_ret
    exact ⟨rfl, hbel⟩

end Go.Proofs.YthjmpiekjfnoiaaGreatDoor

/-
  The walks of chapter 5 of the program: the places told.
-/
namespace Go.Proofs.YthjmpiekjfnoiaaGreatDoor
open Go.RowKit

/-- The teller's block: its row of bytes (block g), its row of places (which was made behind C). -/
structure Tel (w : World) (B C tb g cap : Nat) (l : List UInt8) (pv : Value) (ps : List Int) : Prop where
  c0 : w.cell? ⟨tb, 0, none⟩ = some (.slice (some ⟨g, 0, none⟩) l.length cap)
  c1 : w.cell? ⟨tb, 1, none⟩ = some pv
  fr : w.frozen? ⟨tb, 1, none⟩ = false
  by' : ByA w g l
  own : OwI w C pv ps
  sep : B ≤ g ∧ B ≤ tb ∧ tb ≠ g ∧ g < C ∧ tb < C ∧ C ≤ w.heap.size

theorem grownRefl (w : World) (row : Option Nat) : w.grownBy w row := ⟨rfl, rfl, rfl, Nat.le_refl _, fun _ _ _ => rfl⟩

theorem OwI.kept {w w' : World} {B : Nat} {v : Value} {l : List Int} {row : Option Nat} (h : OwI w B v l) (hg : w.grownBy w' row) (hne : ∀ b, row = some b → b < B) : OwI w' B v l := by
  refine Ow.kept h hg ?_
  cases e : v.ownBlock with
  | none => exact .inl rfl
  | some k =>
    right
    intro e2
    have := hne k e2.symm
    have := (Ow.lt h k e).1
    omega

theorem tel_after {w w3 : World} {C tb g : Nat} {l : List UInt8} {x y : Value} {o : Obj} (h0 : w.cell? ⟨tb, 0, none⟩ = some x) (h1 : w.cell? ⟨tb, 1, none⟩ = some y) (hf : w.frozen? ⟨tb, 1, none⟩ = false) (hA : ByA w g l) (hg : g < C) (htb : tb < C) (hC : C ≤ w.heap.size) (hb : Below C (w.alloc o) w3) :
    w3.cell? ⟨tb, 0, none⟩ = some x ∧ w3.cell? ⟨tb, 1, none⟩ = some y ∧ w3.frozen? ⟨tb, 1, none⟩ = false ∧ ByA w3 g l := by
  have ht : tb < w.heap.size := Nat.lt_of_lt_of_le htb hC
  refine ⟨?_, ?_, ?_, ((hA.kept (row := none) (World.grownBy_alloc w o none) (by simp)).below hb hg)⟩
  · rw [hb.cell (p := ⟨tb, 0, none⟩) htb, World.cell?_of_block (Below.heap_alloc w o tb ht)]; exact h0
  · rw [hb.cell (p := ⟨tb, 1, none⟩) htb, World.cell?_of_block (Below.heap_alloc w o tb ht)]; exact h1
  · rw [hb.frozen (p := ⟨tb, 1, none⟩) htb, World.frozen?_of_block (Below.heap_alloc w o tb ht)]; exact hf

set_option maxRecDepth 100000 in
set_option maxHeartbeats 1600000 in
theorem tell_any (B C tb g cap : Nat) (l : List UInt8) (pv : Value) (ps : List Int) (c : UInt8) (w w0 : World) (hT : Tel w B C tb g cap l pv ps) (hbel : Below B w0 w) (hc : c ∈ l) (hl : l.length ≤ 1000) (hcap : l.length ≤ cap) (hcm : cap ≤ maxLen) (hp : ps.length ≤ 1000000) :
    Calls Tryz.prog 82 #[.pointer (some ⟨tb, 0, none⟩), .int .u8 (c.toNat : Int)] w fun e w' => e = .returned (.bool true) ∧ Below B w0 w' ∧ ∃ pv', Tel w' B C tb g cap (toFront l (plc l c)) pv' (ps ++ [((plc l c : Nat) : Int)]) := by
  obtain ⟨t1, t2, t3, hA, hown, hg, htb, hne, hgC, htC, hCs⟩ := hT
  have hplc := plc_lt hc
  obtain ⟨p, hpe⟩ : ∃ p, p = plc l c := ⟨_, rfl⟩
  rw [← hpe] at hplc
  have HP := hid hpe
  clear hpe
  rw [← HP.out]
  have hcb := c.toNat_lt
  have tests := decide_eq_false (show ¬ (p : Int) < 0 by omega)
  go_enter Tryz.func82, Tryz.ntmps82
  go_wp2_with fail
  refine (indexByte_any g cap l c _ hA hc).mono ?_
  rintro e w1 ⟨rfl, rfl⟩
  rw [← HP.out]
  go_wp2_with (at_builtin; refine appI rfl _ _ rfl C _ _ rfl (hown.alloc _) w1.heap.size (p : Int) rfl ?_ ?_ ?_ ?_; (exact newc _ _ _); omega; (simp; omega); intro v' w3 hown' hB3 _; obtain ⟨a3, c3, e3, _, _, _⟩ := hown'.rd.open; subst e3; obtain ⟨u1, u2, u3, u4⟩ := tel_after t1 t2 t3 hA hgC htC hCs hB3)
  rw [show (ps ++ [(p : Int)]).length = ps.length + 1 by simp] at hown'
  generalize hv : Value.slice a3 (ps.length + 1) c3 = pv' at *
  have hs3 : C ≤ w3.heap.size := by have := hB3.size; simp at this; omega
  have hg4 := bSetG (grownRefl w3 (some tb)) 1 pv'
  have hA4 := u4.kept hg4 (by simp; omega)
  have ho4 := hown'.kept hg4 (fun b e => by simp at e; omega)
  have q0 : (w3.setCell ⟨tb, 1, none⟩ pv').cell? ⟨tb, 0, none⟩ = some (.slice (some ⟨g, 0, none⟩) l.length cap) := by
    rw [World.cell?_setCell_other _ _ _ _ (by simp)]; exact u1
  have q1 : (w3.setCell ⟨tb, 1, none⟩ pv').cell? ⟨tb, 1, none⟩ = some pv' := World.cell?_setCell_same _ _ _ u2
  have q2 : (w3.setCell ⟨tb, 1, none⟩ pv').frozen? ⟨tb, 1, none⟩ = false := by rw [World.frozen?_setCell]; exact u3
  have hb4 : Below B w0 (w3.setCell ⟨tb, 1, none⟩ pv') := ((hbel.alloc (by omega) _).trans (hB3.mono (by omega))).setCell htb _
  have hs4 : C ≤ (w3.setCell ⟨tb, 1, none⟩ pv').heap.size := by simpa using hs3
  generalize w3.setCell ⟨tb, 1, none⟩ pv' = w4 at *
  refine (take_any g cap p l _ hA4 hplc hl hcap hcm).mono ?_
  rintro e w5 ⟨rfl, hA5, hg5⟩
  have hbb := (l[p]).toNat_lt
  go_wp2_with fail
  go_ret
  have tl := (toFront_length l p).symm
  refine ⟨rfl, hb4.grown hg5 (by omega) (fun k e => by simp at e; omega), pv', ⟨?_, ?_, ?_, hA5, ho4.kept hg5 (fun b e => by simp at e; omega), hg, htb, hne, hgC, htC, Nat.le_trans hs4 hg5.size⟩⟩
  · rw [World.cell?_of_block (hg5.block tb (by omega) (by simpa using hne)), ← tl]; exact q0
  · rw [World.cell?_of_block (hg5.block tb (by omega) (by simpa using hne))]; exact q1
  · rw [World.frozen?_of_block (hg5.block tb (by omega) (by simpa using hne))]; exact q2

end Go.Proofs.YthjmpiekjfnoiaaGreatDoor

/-
  The walks of chapter 5 of the program: Front.
-/
namespace Go.Proofs.YthjmpiekjfnoiaaGreatDoor
open Go.RowKit

theorem bytesW_below (w : World) (e : TypeId) (s : ByteArray) : Below w.heap.size w (Lib.bytesWorld w e s) :=
  ⟨rfl, rfl, rfl, by rw [Lib.bytesWorld_size]; omega, fun k hk => Lib.bytesWorld_at_old w e s k hk⟩

/-- A string's bytes as a row of the call's own. -/
theorem conv_new (w : World) (a : ByteArray) (ha : a.size ≤ 1000000) : ∃ cap w', (convert 9 49 (.string a)).run Tryz.prog w = .ok (.slice (some ⟨w.heap.size, 0, none⟩) a.size cap) w' ∧ a.size ≤ cap ∧ cap ≤ maxLen ∧ ByA w' w.heap.size a.data.toList ∧ Below w.heap.size w w' ∧ w'.heap.size = w.heap.size + 1 := by
  refine ⟨grownCap w a.size 0 5, Lib.bytesWorld w 5 a, Lib.run_convert_string_bytes w _ _ _ a Tryz.underlying9 Tryz.underlying49 Tryz.underlying5, grownCap_ge _ _ _ _, grownCap_le_maxLen _ _ _ _ (by unfold maxLen; omega), ⟨?_, ?_, ?_⟩, bytesW_below _ _ _, Lib.bytesWorld_size _ _ _⟩
  · rw [Lib.bytesWorld_size]; omega
  · intro j b hj
    have hjl : j < a.size := by simpa using (List.getElem?_eq_some_iff.1 hj).1
    rw [Lib.bytesWorld_cell w _ a j hjl, List.getD_eq_getElem?_getD, hj]
    rfl
  · intro j hj
    have hjl : j < a.size := by simpa using hj
    have hc : j < (Lib.bytesCells w 5 a).size := by
      unfold Lib.bytesCells
      rw [Array.size_append, Array.size_map]
      have : a.data.size = a.size := rfl
      omega
    simp only [World.frozen?, Lib.bytesWorld_at_new]
    simp
    omega

theorem res_cell_tmp_row {P : Program} {fn : Func} {p u : Tmp} {ty : TypeId} (h : fn.results = #[.cell p ty, .tmp u]) (tmps : Array Value) (w : World) (g : Nat) (t : TypeId) (cs : Array Value) (fr : Nat × Nat) (d : TypeDesc)
    (hp : tmps.getD p undef = .pointer (some ⟨g, 0, none⟩)) (hg : w.heap[g]? = some (.cells cs t fr))
    (hu : P.underlying ty = some d) (hd : (match d with | .struct _ | .array _ _ => true | _ => false) = true) (hi : (P.info? ty).map (·.size) = some cs.size) :
    (results fn tmps).run P w = .ok (.tuple #[.agg cs, tmps.getD u undef]) w := by
  rw [results_cell_tmp h, hp]
  simp [asAddr, Result.andThen, run_loadVar_row w g t ty cs fr d hg hu hd hi]

theorem tellerInfo : (Tryz.prog.info? 89).map (·.size) = some 2 := by kernel_rfl

set_option maxRecDepth 100000 in
set_option maxHeartbeats 1600000 in
theorem told_any (a s : ByteArray) (w : World) (ha : a.size ≤ 1000) (hs : s.size ≤ 1000000) (hn : a.data.toList.Nodup) (hsub : ∀ b ∈ s.data.toList, b ∈ a.data.toList) :
    Calls Tryz.prog 53 #[.string a, .string s] w fun e w' => ∃ ad n c v, e = .returned (.tuple #[.agg #[.slice ad n c, v], .int .i64 0]) ∧ OwI w' w.heap.size v (mtfL a.data.toList s.data.toList) ∧ Below w.heap.size w w' := by
  have HN := hid hn
  have HSUB := hid hsub
  have hl : s.data.toList.length = s.size := by simp
  have hla : a.data.toList.length = a.size := by simp
  have HL := hid hl
  have HLA := hid hla
  clear hn hsub hl hla
  go_enter Tryz.func53, Tryz.ntmps53
  go_wp2_with fail
  have harr := Arr.new w 89 [.slice none 0 0, .slice none 0 0]
  have hb1 := (Below.refl (w.heap.size + 1) (w.alloc (.cells #[.slice none 0 0, .slice none 0 0] 89)))
  have hb0 := ((Below.refl w.heap.size w).alloc (Nat.le_refl _) (.cells #[.slice none 0 0, .slice none 0 0] 89))
  have hz1 : (w.alloc (.cells #[.slice none 0 0, .slice none 0 0] 89)).heap.size = w.heap.size + 1 := by simp
  change Arr (w.alloc (.cells #[.slice none 0 0, .slice none 0 0] 89)) _ _ _ at harr
  generalize w.alloc (.cells #[.slice none 0 0, .slice none 0 0] 89) = w1 at *
  obtain ⟨cap, w2, hcv, hcap1, hcap2, hA2, hb2, hz2⟩ := conv_new w1 a (by omega)
  rw [hcv]
  rw [hz1] at hz2 hA2
  have hA3 := hA2.kept (row := none) (World.grownBy_alloc w2 (.cells #[.slice (some ⟨w.heap.size + 1, 0, none⟩) a.size cap, .slice none 0 0] 89) none) (by simp)
  have harr3 := Arr.new w2 89 [.slice (some ⟨w.heap.size + 1, 0, none⟩) a.size cap, .slice none 0 0]
  have hb3 : Below (w.heap.size + 1) w1 (w2.alloc (.cells #[.slice (some ⟨w.heap.size + 1, 0, none⟩) a.size cap, .slice none 0 0] 89)) := (hb2.mono (by omega)).alloc (by omega) _
  have hz3 : (w2.alloc (.cells #[.slice (some ⟨w.heap.size + 1, 0, none⟩) a.size cap, .slice none 0 0] 89)).heap.size = w.heap.size + 1 + 1 + 1 := by simp [hz2]
  rw [hz2] at harr3
  go_wp2_with fail
  change Arr (w2.alloc (.cells #[.slice (some ⟨w.heap.size + 1, 0, none⟩) a.size cap, .slice none 0 0] 89)) _ _ _ at harr3
  generalize w2.alloc (.cells #[.slice (some ⟨w.heap.size + 1, 0, none⟩) a.size cap, .slice none 0 0] 89) = w3 at *
  refine (right_any a w3 (by omega) HN.out).mono ?_
  rintro e w4 ⟨rfl, hb4⟩
  have hz4 := hb4.size
  have hT4 : Tel w4 (w.heap.size + 1) (w.heap.size + 1 + 1 + 1) (w.heap.size + 1 + 1) (w.heap.size + 1) cap a.data.toList (.slice none 0 0) [] :=
    ⟨by rw [hb4.cell (p := ⟨w.heap.size + 1 + 1, 0, none⟩) (by show w.heap.size + 1 + 1 < w3.heap.size; omega), harr3.cell (i := 0) rfl, HLA.out],
      by rw [hb4.cell (p := ⟨w.heap.size + 1 + 1, 1, none⟩) (by show w.heap.size + 1 + 1 < w3.heap.size; omega), harr3.cell (i := 1) rfl],
      by rw [hb4.frozen (p := ⟨w.heap.size + 1 + 1, 1, none⟩) (by show w.heap.size + 1 + 1 < w3.heap.size; omega), harr3.free],
      hA3.below hb4 (by omega), OwI.nil _ _, by omega⟩
  have hb14 : Below (w.heap.size + 1) w1 w4 := hb3.trans (hb4.mono (by omega))
  go_wp2_with fail
  go_loopg [5, 7, 18] s.size (fun gh s5 _s7 s18 wr => ∃ k : Nat, ∃ pv : Value, k ≤ s.size ∧ gh = s.size - k ∧ s18 = .int .i64 k ∧ s5 = .int .i64 0 ∧ Tel wr (w.heap.size + 1) (w.heap.size + 1 + 1 + 1) (w.heap.size + 1 + 1) (w.heap.size + 1) cap (mtfA a.data.toList (s.data.toList.take k)) pv (mtfL a.data.toList (s.data.toList.take k)) ∧ Below (w.heap.size + 1) w1 wr)
  case atStart => exact ⟨0, _, Nat.zero_le _, rfl, rfl, rfl, by simpa [mtfA, mtfL] using hT4, hb14⟩
  case round =>
  obtain ⟨k, pv, hk, hg, rfl, rfl, hT, hbel⟩ := hrel
  have HG := hid hg
  clear hg
  by_cases hlt : k < s.size
  · have hperm := mtfA_perm (s.data.toList.take k) a.data.toList
    have hAs : (mtfA a.data.toList (s.data.toList.take k)).length = a.size := by rw [hperm.length_eq]; exact HLA.out
    have hmem : s[k] ∈ mtfA a.data.toList (s.data.toList.take k) := hperm.mem_iff.2 (HSUB.out _ (List.mem_of_getElem? (byteAt s k hlt)))
    have e1 := hid (show mtfL a.data.toList (s.data.toList.take (k + 1)) = mtfL a.data.toList (s.data.toList.take k) ++ [((plc (mtfA a.data.toList (s.data.toList.take k)) s[k] : Nat) : Int)] by
      rw [List.take_add_one, byteAt s k hlt, Option.toList_some, mtfL_snoc])
    have e2 := hid (show mtfA a.data.toList (s.data.toList.take (k + 1)) = toFront (mtfA a.data.toList (s.data.toList.take k)) (plc (mtfA a.data.toList (s.data.toList.take k)) s[k]) by
      rw [List.take_add_one, byteAt s k hlt, Option.toList_some, mtfA_snoc])
    have hll := hid (show (mtfL a.data.toList (s.data.toList.take k)).length = k by rw [mtfL_length, List.length_take, HL.out]; omega)
    have hb := s[k].toNat_lt
    go_wp2_with fail
    refine (tell_any _ _ _ _ cap _ _ _ s[k] _ w1 hT hbel hmem (by omega) (by omega) hcap2 (by rw [hll.out]; omega)).mono ?_
    rintro e w6 ⟨rfl, hbel6, pv6, hT6⟩
    rw [← e1.out, ← e2.out] at hT6
    go_wp2_with fail
    have hg := HG.out
    go_roundg (s.size - (k + 1))
    case measure => omega
    case rel => exact ⟨k + 1, pv6, by omega, rfl, by go_num, rfl, hT6, hbel6⟩
  · have hke : k = s.size := by omega
    rw [List.take_of_length_le (by rw [HL.out]; omega)] at hT
    have harrE : Arr wr w.heap.size 89 [.slice none 0 0, .slice none 0 0] := harr.below hbel (by omega)
    obtain ⟨c0, c1, _, _, hown, hsep⟩ := hT
    obtain ⟨a3, c3, e3, _, _, _⟩ := hown.rd.open
    have f0 := harrE.cell (i := 0) rfl
    have f1 := harrE.cell (i := 1) rfl
    have f2 := harrE.free 0
    have f3 := harrE.free 1
    have hS : ∀ (v : Value), v = pv → OwI ((wr.setCell ⟨w.heap.size, 0, none⟩ (.slice (some ⟨w.heap.size + 1, 0, none⟩) (mtfA a.data.toList s.data.toList).length cap)).setCell ⟨w.heap.size, 1, none⟩ v) w.heap.size v (mtfL a.data.toList s.data.toList) := fun v hv => by
      subst hv
      exact (hown.kept (bSetG (bSetG (grownRefl wr (some w.heap.size)) 0 _) 1 v) (fun b e => by simp at e; omega)).base (by omega)
    have hB : ∀ (v : Value), Below w.heap.size w ((wr.setCell ⟨w.heap.size, 0, none⟩ (.slice (some ⟨w.heap.size + 1, 0, none⟩) (mtfA a.data.toList s.data.toList).length cap)).setCell ⟨w.heap.size, 1, none⟩ v) := fun v => ((hb0.trans (hbel.mono (by omega))).setCell (Nat.le_refl _) _).setCell (Nat.le_refl _) _
    subst e3
    go_wp2_with fail
    have hF : Arr ((wr.setCell ⟨w.heap.size, 0, none⟩ (.slice (some ⟨w.heap.size + 1, 0, none⟩) (mtfA a.data.toList s.data.toList).length cap)).setCell ⟨w.heap.size, 1, none⟩ (.slice a3 (mtfL a.data.toList s.data.toList).length c3)) w.heap.size 89 [.slice (some ⟨w.heap.size + 1, 0, none⟩) (mtfA a.data.toList s.data.toList).length cap, .slice a3 (mtfL a.data.toList s.data.toList).length c3] := (harrE.set 0 _).set 1 _
    exact bodyPost_ret (res_cell_tmp_row rfl _ _ w.heap.size _ _ (0, 0) _ rfl hF Tryz.underlying89 rfl tellerInfo) rfl ⟨_, _, _, _, rfl, hS _ rfl, hB _⟩

set_option maxRecDepth 100000 in
theorem front_any (a s : ByteArray) (w : World) (ha : a.size ≤ 1000) (hs : s.size ≤ 1000000) (hn : a.data.toList.Nodup) (hsub : ∀ b ∈ s.data.toList, b ∈ a.data.toList) :
    Calls Tryz.prog 25 #[.string a, .string s] w fun e w' => ∃ v, e = .returned (.tuple #[v, .int .i64 0]) ∧ OwI w' w.heap.size v (mtfL a.data.toList s.data.toList) ∧ Below w.heap.size w w' := by
  have HT := hid (told_any a s w ha hs hn hsub)
  clear hn hsub
  go_enter Tryz.func25, Tryz.ntmps25
  go_wp2_with fail
  refine HT.out.mono ?_
  rintro e w1 ⟨ad, n, c, v, rfl, hown, hb⟩
  obtain ⟨a3, c3, e3, _, _, _⟩ := hown.rd.open
  have hs1 := hb.size
  have hown' := hown.alloc (.cells #[.slice ad n c, v] 89)
  have hb' := hb.alloc hs1 (.cells #[.slice ad n c, v] 89)
  subst e3
  go_wp2_with fail
  go_ret2
  exact ⟨_, rfl, hown', hb'⟩

end Go.Proofs.YthjmpiekjfnoiaaGreatDoor

/-
  The walks of chapter 5 of the program: Back.
-/
namespace Go.Proofs.YthjmpiekjfnoiaaGreatDoor
open Go.RowKit

/-- 'make([]T, 0, n)'. -/
theorem mkA0 {P : Program} {ops : Array Oper} {rest : List Oper} {o : Oper} {a : Act} {Q : Exit → Act → World → Prop} {w : World} {t e bytes : Nat} {z : Value} (E : ElT P t e bytes z) (hgd : o.guard = none) (l c : Operand)
    (ho : o.op = .makeSlice t l c) (n : Nat) (hl : a.eval l = .int .i64 0) (hc : a.eval c = .int .i64 (n : Int)) (hroom : n * bytes ≤ 140737488355328)
    (h : ∀ w', Ow w' w.heap.size e (.slice (some ⟨w.heap.size, 0, none⟩) 0 n) [] → Below w.heap.size w w' → w'.heap.size = w.heap.size + 1 → wpList P ops Q rest (a.put o.dst (.slice (some ⟨w.heap.size, 0, none⟩) 0 n)) w') : wpList P ops Q (o :: rest) a w := by
  refine wpList_plain hgd fun K hK' => ?_
  obtain ⟨i, hi, hz, h2, h3⟩ := E.info
  have hpos := E.pos
  have hn : n ≤ 140737488355328 := Nat.le_trans (Nat.le_mul_of_pos_right _ hpos) hroom
  have hb : (i.bytes : Int) * (n : Int) ≤ 281474976710656 := by
    rw [h3, ← Int.natCast_mul, Nat.mul_comm]; omega
  have hrun := run_make (P := P) w t e i z E.under hi hz .i64 .i64 0 (n : Int) (by omega) (by omega) hb (by omega)
  rw [h2, Nat.mul_one, Int.toNat_natCast, E.cells, show madeCells #[z] n = zeros z n from by rw [zeros, ← toList_madeCells_one]] at hrun
  unfold Oper.wp
  simp [execOp, ho, hl, hc, hrun, Result.andThen]
  exact hK' _ _ (h _ (World.ownsRow_made w _ n (Nat.le_refl _) (by unfold maxLen; omega) (by simp [zeros])) ((Below.refl _ _).alloc (Nat.le_refl _) _) (by simp))

theorem OwB.kept {w w' : World} {B : Nat} {v : Value} {l : List UInt8} {row : Option Nat} (h : OwB w B v l) (hg : w.grownBy w' row) (hne : ∀ b, row = some b → b < B) : OwB w' B v l := by
  refine Ow.kept h hg ?_
  cases e : v.ownBlock with
  | none => exact .inl rfl
  | some k =>
    right
    intro e2
    have := hne k e2.symm
    have := (Ow.lt h k e).1
    omega

set_option maxRecDepth 100000 in
set_option maxHeartbeats 1600000 in
theorem back5_any (a : ByteArray) (v : Value) (l : List Int) (w : World) (ha : a.size ≤ 1000) (hl : l.length ≤ 1000000) (hn : a.data.toList.Nodup) (hr : RdI w v l) (hx : ∀ x ∈ l, 0 ≤ x ∧ x < (a.size : Int)) :
    Calls Tryz.prog 63 #[.string a, v] w fun e w' => e = .returned (.tuple #[.string (mkS (unL a.data.toList l)), .int .i64 0]) ∧ Below w.heap.size w w' := by
  obtain ⟨ad, ca, rfl, hca, hma, hA⟩ := hr.open
  unfold maxLen at hma
  have HN := hid hn
  have HX := hid hx
  have hla : a.data.toList.length = a.size := by simp
  have HLA := hid hla
  clear hn hx hr hla
  go_enter Tryz.func63, Tryz.ntmps63
  go_wp2_with fail
  refine (right_any a _ (by omega) HN.out).mono ?_
  rintro e w1 ⟨rfl, hb1⟩
  have hz1 := hb1.size
  go_wp2_with fail
  obtain ⟨cap, w2, hcv, hcap1, hcap2, hA2, hb2, hz2⟩ := conv_new w1 a (by omega)
  rw [hcv]
  have hA3 := hA2.kept (row := none) (World.grownBy_alloc w2 (.cells #[.slice (some ⟨w1.heap.size, 0, none⟩) a.size cap] 87) none) (by simp)
  have hc3 := newc w2 (.slice (some ⟨w1.heap.size, 0, none⟩) a.size cap) 87
  have hb3 : Below w.heap.size w (w2.alloc (.cells #[.slice (some ⟨w1.heap.size, 0, none⟩) a.size cap] 87)) := (hb1.trans (hb2.mono hz1)).alloc (by omega) _
  have hz3 : (w2.alloc (.cells #[.slice (some ⟨w1.heap.size, 0, none⟩) a.size cap] 87)).heap.size = w1.heap.size + 1 + 1 := by simp [hz2]
  rw [hz2] at hc3
  go_wp2_with (at_make; generalize w2.alloc (.cells #[.slice (some ⟨w1.heap.size, 0, none⟩) a.size cap] 87) = w3 at *; refine mkA0 elByte rfl _ _ rfl l.length rfl rfl (by omega) ?_; intro w4 hown4 hb4 hz4)
  have hown4' : OwB w4 (w1.heap.size + 1 + 1) (.slice (some ⟨w1.heap.size + 1 + 1, 0, none⟩) 0 l.length) [] := by rw [hz3] at hown4; exact hown4
  have hA4 := hA3.below hb4 (by omega)
  have hc4 : w4.cell? ⟨w1.heap.size + 1, 0, none⟩ = some (.slice (some ⟨w1.heap.size, 0, none⟩) a.size cap) := by
    rw [hb4.cell (p := ⟨w1.heap.size + 1, 0, none⟩) (by show w1.heap.size + 1 < w3.heap.size; omega)]; exact hc3
  have hbl4 : Below w.heap.size w w4 := hb3.trans (hb4.mono (by omega))
  go_loopg [7, 9, 21] l.length (fun gh s7 _s9 s21 wr => ∃ k : Nat, k ≤ l.length ∧ gh = l.length - k ∧ s21 = .int .i64 k ∧ OwB wr (w1.heap.size + 1 + 1) s7 (unL a.data.toList (l.take k)) ∧ ByA wr w1.heap.size (unA a.data.toList (l.take k)) ∧ wr.cell? ⟨w1.heap.size + 1, 0, none⟩ = some (.slice (some ⟨w1.heap.size, 0, none⟩) a.size cap) ∧ Below w.heap.size w wr ∧ w1.heap.size + 1 + 1 ≤ wr.heap.size)
  case atStart => exact ⟨0, Nat.zero_le _, rfl, rfl, by simpa [unL] using hown4', by simpa [unA] using hA4, hc4, hbl4, by omega⟩
  case round =>
  obtain ⟨k, hk, hg, rfl, hown, hAk, hck, hbel, hsz⟩ := hrel
  have HG := hid hg
  clear hg
  by_cases hlt : k < l.length
  · obtain ⟨b0, o0, rfl, hb0, hc0⟩ := hA (by omega)
    obtain ⟨x, hx⟩ := getI hlt
    have c1 := (hbel.cell (p := ⟨b0, o0 + k, none⟩) hb0).trans (hc0 k x hx)
    have hxb := HX.out x (List.mem_of_getElem? hx)
    obtain ⟨i, rfl⟩ : ∃ i : Nat, x = (i : Int) := ⟨x.toNat, by omega⟩
    obtain ⟨A, hAA⟩ : ∃ A, A = unA a.data.toList (l.take k) := ⟨_, rfl⟩
    have hAs : A.length = a.size := by rw [hAA, (unA_perm _ _).length_eq]; exact HLA.out
    have hll := hid (show (unL a.data.toList (l.take k)).length = k by rw [unL_length, List.length_take]; omega)
    have hi : i < A.length := by omega
    have e1 := hid (show unL a.data.toList (l.take (k + 1)) = unL a.data.toList (l.take k) ++ [A[i]] by
      rw [List.take_add_one, hx, Option.toList_some, unL_snoc, ← hAA]; simp [List.getD, List.getElem?_eq_getElem hi])
    have e2 := hid (show unA a.data.toList (l.take (k + 1)) = toFront A i by
      rw [List.take_add_one, hx, Option.toList_some, unA_snoc, ← hAA]; rfl)
    rw [← hAA] at hAk
    have t1 : decide ((i : Int) < 0) = false := decide_eq_false (by omega)
    have t2 : decide (a.size ≤ i) = false := decide_eq_false (by omega)
    have t3 : decide ((a.size : Int) ≤ (i : Int)) = false := decide_eq_false (by omega)
    have hb0r := Nat.lt_of_lt_of_le hb0 hbel.size
    have HAL := hid hAs
    clear hc0 hA hx hxb hAA hAs
    go_wp2_with fail
    have htk := take_any w1.heap.size cap i A wr hAk hi (by rw [HAL.out]; exact ha) (by rw [HAL.out]; exact hcap1) hcap2
    rw [HAL.out] at htk
    refine htk.mono ?_
    rintro e w6 ⟨rfl, hA6, hg6⟩
    rw [← e2.out] at hA6
    have hbb := (A[i]).toNat_lt
    have hown6 := hown.kept hg6 (fun b e => by simp at e; omega)
    have hc6 := hck
    rw [← World.cell?_of_block (hg6.block (w1.heap.size + 1) (by omega) (by simp))] at hc6
    have hb6 : Below w.heap.size w w6 := hbel.grown hg6 (by omega) (fun k e => by simp at e; omega)
    have hz6 := hg6.size
    go_wp2_with (at_builtin; refine appBy rfl _ _ rfl (w1.heap.size + 1 + 1) _ _ rfl (hown6.alloc _) w6.heap.size A[i] rfl ?_ ?_ ?_ ?_; (exact newc _ _ _); (rw [hll.out]; omega); (simp; omega); intro v' w7 hown7 hb7 _)
    rw [← e1.out] at hown7
    have hg := HG.out
    have hz7 := hb7.size
    simp only [World.size_alloc] at hz7
    go_roundg (l.length - (k + 1))
    case measure => omega
    case rel =>
      refine ⟨k + 1, by omega, rfl, by go_num, hown7, ?_, ?_, (hb6.alloc (by omega) _).trans (hb7.mono (by omega)), by omega⟩
      · exact (hA6.kept (row := none) (World.grownBy_alloc w6 _ none) (by simp)).below hb7 (by omega)
      · rw [hb7.cell (p := ⟨w1.heap.size + 1, 0, none⟩) (by show w1.heap.size + 1 < w1.heap.size + 1 + 1; omega), World.cell?_of_block (Below.heap_alloc w6 _ (w1.heap.size + 1) (by omega))]
        exact hc6
  · have hke : k = l.length := by omega
    rw [List.take_of_length_le (by omega)] at hown
    have hcv2 := conv_bytes hown.rd
    go_wp2_with fail
    go_ret2
    exact ⟨rfl, hbel⟩

end Go.Proofs.YthjmpiekjfnoiaaGreatDoor

/-
  The walks of Digits (both texts), of the document's test below, and of the laying of numbers behind others; appending one list to another.
-/
namespace Go.Proofs.YthjmpiekjfnoiaaGreatDoor
open Go.RowKit

/-- A slice of integers that can be read, and appended: nil, or with an address. -/
def SrcI (w : World) (v : Value) (m : List Int) : Prop :=
  (v = .slice none 0 0 ∧ m = []) ∨ ∃ b off cap, v = .slice (some ⟨b, off, none⟩) m.length cap ∧ b < w.heap.size ∧ ∀ j x, m[j]? = some x → w.cell? ⟨b, off + j, none⟩ = some (.int .i64 x)
theorem SrcI.below {w w' : World} {v : Value} {m : List Int} (h : SrcI w v m) (hb : Below w.heap.size w w') : SrcI w' v m := by
  rcases h with h | ⟨b, off, cap, rfl, hl, hc⟩
  · exact .inl h
  · exact .inr ⟨b, off, cap, rfl, Nat.lt_of_lt_of_le hl hb.size, fun j x hx => by rw [hb.cell (p := ⟨b, off + j, none⟩) hl]; exact hc j x hx⟩
theorem OwI.src {w : World} {B : Nat} {v : Value} {l : List Int} (h : OwI w B v l) : SrcI w v l := by
  have h2 := h.rd.open
  obtain ⟨a, cap, rfl, _, _, hA⟩ := h2
  rcases h.2 with ⟨e, e2⟩ | ⟨g, cap', cur, e, _⟩
  · have : l = [] := List.eq_nil_of_length_eq_zero (by simpa using e2)
    subst this
    exact .inl ⟨e, rfl⟩
  · rw [Value.slice.injEq] at e
    obtain ⟨rfl, _, rfl⟩ := e
    rcases Nat.eq_zero_or_pos l.length with h0 | h0
    · have : l = [] := List.eq_nil_of_length_eq_zero h0
      subst this
      exact .inr ⟨g, 0, cap, rfl, (h.lt g rfl).2, fun j x hx => by simp at hx⟩
    · obtain ⟨b, off, e3, hb, hc⟩ := hA h0
      rw [Option.some.injEq] at e3
      rw [e3]
      exact .inr ⟨b, off, cap, rfl, hb, hc⟩
theorem src_new (w : World) (t : TypeId) (x : Int) : SrcI (w.alloc (.cells #[.int .i64 x] t)) (.slice (some ⟨w.heap.size, 0, none⟩) 1 1) [x] :=
  .inr ⟨w.heap.size, 0, 1, rfl, by simp, fun j y hy => by
    cases j with
    | zero => simp at hy; subst hy; exact newc _ _ _
    | succ j => simp at hy⟩

theorem run_appL {w : World} (ty : TypeId) (base : Nat) (v : Value) (l : List Int) (hown : OwI w base v l) (sv : Value) (m : List Int) (hsrc : SrcI w sv m) (hroom : (l.length + m.length) * 8 ≤ 140737488355328) (hbase : base ≤ w.heap.size) :
    ∃ v' w', (Builtin.append_ #[23, 23] ty #[v, sv]).run Tryz.prog w = .ok v' w' ∧ OwI w' base v' (l ++ m) ∧ Below base w w' ∧ w.grownBy w' v.ownBlock := by
  obtain ⟨i, hi, hz, h2, h3⟩ := elInt.info
  have h4 : (Value.int .i64 0).cells.size = 1 := by rw [elInt.cells]; rfl
  have hown' : w.ownsRow base 3 1 v l.length (l.map (Value.int .i64)) := by have := hown; unfold OwI Ow at this; rwa [List.length_map] at this
  rcases hsrc with ⟨rfl, rfl⟩ | ⟨b, off, cap, rfl, _, hc⟩
  · refine ⟨v, w, run_append_owned_none (P := Tryz.prog) (w := w) base _ ty 3 i 1 elInt.under hi v l.length _ hown', by rw [List.append_nil]; exact hown, Below.refl _ _, ⟨rfl, rfl, rfl, Nat.le_refl _, fun _ _ _ => rfl⟩⟩
  · obtain ⟨v', w', q1, q2, q3, _⟩ := run_append_own (P := Tryz.prog) w base 23 ty 3 i _ 1 8 elInt.under hi hz h2 h3 h4 (by decide) v l.length _ hown' ⟨b, off, none⟩ m.length cap (m.map (Value.int .i64)) (by simp) (fun j u hu => by
        rw [List.getElem?_map] at hu
        cases hn : m[j]? with
        | none => rw [hn] at hu; simp at hu
        | some y =>
          rw [hn] at hu; simp at hu; subst hu
          have e : (⟨b, off, none⟩ : Addr).add j = ⟨b, off + j, none⟩ := by unfold Addr.add; split <;> simp_all
          rw [e]; exact hc j y hn) (fun u hu => by obtain ⟨y, _, rfl⟩ := List.mem_map.1 hu; rfl) (by simp only [maxLen]; omega) hroom hbase
    refine ⟨v', w', q1, ?_, own_grown hown' q3 hbase, q3⟩
    unfold OwI Ow
    rw [List.map_append, List.length_append, List.length_map, List.length_map]
    exact q2

theorem appL {ops : Array Oper} {rest : List Oper} {o : Oper} {a : Act} {Q : Exit → Act → World → Prop} {w : World} (hgd : o.guard = none) (s x : Operand)
    (ho : o.op = .call { callee := .builtin .append, args := #[s, x], argTypes := #[23, 23] }) (base : Nat) (v : Value) (l : List Int) (hs : a.eval s = v) (hown : OwI w base v l)
    (sv : Value) (m : List Int) (hx : a.eval x = sv) (hsrc : SrcI w sv m) (hroom : (l.length + m.length) * 8 ≤ 140737488355328) (hbase : base ≤ w.heap.size)
    (h : ∀ v' w', OwI w' base v' (l ++ m) → Below base w w' → w.grownBy w' v.ownBlock → wpList Tryz.prog ops Q rest (a.put o.dst v') w') : wpList Tryz.prog ops Q (o :: rest) a w := by
  refine wpList_plain hgd fun K hK => ?_
  obtain ⟨v', w', hr, q1, q2, q3⟩ := run_appL o.type base v l hown sv m hsrc hroom hbase
  unfold Oper.wp execOp
  simp only [ho, resolve, invoke, builtin, Sem.run_bind, Sem.run_pure, Result.andThen_ok, List.map_toArray, List.map_cons, List.map_nil, hs, hx, hr]
  exact hK _ _ (h v' w' q1 q2 q3)

theorem RdI.dropS {w : World} {b off : Nat} {l : List Int} (hc : ∀ j x, l[j]? = some x → w.cell? ⟨b, off + j, none⟩ = some (.int .i64 x)) (k : Nat) : ∀ j x, (l.drop k)[j]? = some x → w.cell? ⟨b, off + k + j, none⟩ = some (.int .i64 x) := by
  intro j x hx
  rw [List.getElem?_drop] at hx
  have := hc _ x hx
  rw [← Nat.add_assoc] at this; exact this

theorem dig_step (m : Nat) (h : 0 < m) : ∃ b : Nat, b ≤ 1 ∧ dig m = (b : Int) :: dig ((m - 1) / 2) ∧ ((m : Int) - 1).tmod 2 = (b : Int) ∧ ((m : Int) - 1) % 2 = (b : Int) ∧ (1 : Int) - (m : Int).tmod 2 = (b : Int) ∧ (1 : Int) - (m : Int) % 2 = (b : Int) ∧
    ((m : Int) - 1).tdiv 2 = (((m - 1) / 2 : Nat) : Int) ∧ ((m : Int) - 1) / 2 = (((m - 1) / 2 : Nat) : Int) := by
  obtain ⟨p, rfl⟩ : ∃ p, m = p + 1 := ⟨m - 1, by omega⟩
  refine ⟨p % 2, by omega, ?_, ?_, by omega, ?_, by omega, ?_, by omega⟩
  · rw [dig_pos h]
    congr 1
    split <;> omega
  · rw [Int.tmod_eq_emod_of_nonneg (by omega)]; omega
  · rw [Int.tmod_eq_emod_of_nonneg (by omega)]; omega
  · rw [Int.tdiv_eq_ediv_of_nonneg (by omega)]; omega

set_option maxRecDepth 100000 in
set_option maxHeartbeats 800000 in
theorem digits_any (n : Nat) (w : World) (hn : n ≤ 1000000) :
    Calls Tryz.prog 22 #[.int .i64 (n : Int)] w fun e w' => ∃ v, e = .returned v ∧ OwI w' w.heap.size v (dig n) ∧ Below w.heap.size w w' := by
  go_enter Tryz.func22, Tryz.ntmps22
  go_wp2_with fail
  go_loopg [0, 2] n (fun gh s0 s2 wr => ∃ (m : Nat) (l : List Int), m ≤ n ∧ gh = m ∧ s0 = .int .i64 m ∧ OwI wr w.heap.size s2 l ∧ Hid (l ++ dig m = dig n) ∧ l.length + m ≤ n ∧ Below w.heap.size w wr)
  case atStart => exact ⟨n, [], Nat.le_refl _, rfl, rfl, OwI.nil _ _, hid rfl, by simp, Below.refl _ _⟩
  case round =>
    obtain ⟨m, l, hm, hg, rfl, hown, HD, hlm, hbel⟩ := hrel
    have HG := hid hg
    clear hg
    rcases Nat.eq_zero_or_pos m with h0 | h0
    · subst h0
      go_wp2_with fail
      go_ret
      refine ⟨_, rfl, ?_, hbel⟩
      have := HD.out
      rw [dig_zero, List.append_nil] at this
      rw [← this]; exact hown
    · obtain ⟨b, hb, e1, e2, e3, _, _, e6, e7⟩ := dig_step m h0
      have E1 := hid e1
      clear e1
      have hbs := hbel.size
      have s1 : IntKind.i64.wrap ((m : Int) - 1) = (m : Int) - 1 := IntWalk.i64_in _ (by omega)
      go_wp2_with (at_builtin; refine appI rfl _ _ rfl w.heap.size _ _ rfl (hown.alloc _) wr.heap.size (b : Int) rfl ?_ ?_ ?_ ?_; (exact newc _ _ _); omega; (simp; omega); intro v' w1 hown' hB hgrow)
      have hg := HG.out
      go_roundg ((m - 1) / 2)
      case measure => omega
      case rel =>
        refine ⟨(m - 1) / 2, l ++ [(b : Int)], by omega, rfl, by go_num, hown', hid ?_, by simp; omega, (hbel.alloc hbel.size _).trans hB⟩
        rw [List.append_assoc, List.singleton_append, ← E1.out]; exact HD.out

set_option maxRecDepth 100000 in
set_option maxHeartbeats 800000 in
theorem refDigits_any (n : Nat) (w : World) (hn : n ≤ 1000000) :
    Calls Tryz.prog 61 #[.int .i64 (n : Int)] w fun e w' => ∃ v, e = .returned v ∧ OwI w' w.heap.size v (dig n) ∧ Below w.heap.size w w' := by
  go_enter Tryz.func61, Tryz.ntmps61
  go_wp2_with fail
  go_loopg [3, 4] n (fun gh s3 s4 wr => ∃ (m : Nat) (l : List Int), m ≤ n ∧ gh = m ∧ s4 = .int .i64 m ∧ OwI wr w.heap.size s3 l ∧ Hid (l ++ dig m = dig n) ∧ l.length + m ≤ n ∧ Below w.heap.size w wr)
  case atStart => exact ⟨n, [], Nat.le_refl _, rfl, rfl, OwI.nil _ _, hid rfl, by simp, Below.refl _ _⟩
  case round =>
    obtain ⟨m, l, hm, hg, rfl, hown, HD, hlm, hbel⟩ := hrel
    have HG := hid hg
    clear hg
    rcases Nat.eq_zero_or_pos m with h0 | h0
    · subst h0
      go_wp2_with fail
      go_ret
      refine ⟨_, rfl, ?_, hbel⟩
      have := HD.out
      rw [dig_zero, List.append_nil] at this
      rw [← this]; exact hown
    · obtain ⟨b, hb, e1, _, _, e4, e5, e6, e7⟩ := dig_step m h0
      have E1 := hid e1
      clear e1
      have hbs := hbel.size
      have s1 : IntKind.i64.wrap ((m : Int) - 1) = (m : Int) - 1 := IntWalk.i64_in _ (by omega)
      go_wp2_with (at_builtin; refine appI rfl _ _ rfl w.heap.size _ _ rfl (hown.alloc _) wr.heap.size (b : Int) rfl ?_ ?_ ?_ ?_; (exact newc _ _ _); omega; (simp; omega); intro v' w1 hown' hB hgrow)
      have hg := HG.out
      go_roundg ((m - 1) / 2)
      case measure => omega
      case rel =>
        refine ⟨(m - 1) / 2, l ++ [(b : Int)], by omega, rfl, by go_num, hown', hid ?_, by simp; omega, (hbel.alloc hbel.size _).trans hB⟩
        rw [List.append_assoc, List.singleton_append, ← E1.out]; exact HD.out

set_option maxRecDepth 100000 in
theorem refBelow_any (v : Value) (l : List Int) (w : World) (hr : RdI w v l) (hpos : ∀ x ∈ l, 0 ≤ x) :
    Calls Tryz.prog 60 #[v] w fun e w' => e = .returned (.bool false) ∧ w' = w := by
  obtain ⟨a, ca, rfl, hca, hma, hA⟩ := hr.open
  unfold maxLen at hma
  clear hr
  go_enter Tryz.func60, Tryz.ntmps60
  go_wp2_with fail
  go_loopg [3] l.length (fun gh s3 wr => ∃ k : Nat, k ≤ l.length ∧ gh = l.length - k ∧ s3 = .int .i64 k ∧ wr = w)
  case atStart => exact ⟨0, Nat.zero_le _, rfl, rfl, rfl⟩
  case round =>
    obtain ⟨k, hk, hg, rfl, rfl⟩ := hrel
    have HG := hid hg
    clear hg
    by_cases hlt : k < l.length
    · obtain ⟨b1, o1, rfl, hb1, hc1⟩ := hA (by omega)
      obtain ⟨x, hx⟩ := getI hlt
      have c1 := hc1 k x hx
      have hx0 := hpos x (List.mem_of_getElem? hx)
      have t1 : decide (x < 0) = false := decide_eq_false (by omega)
      clear hc1 hx hA
      go_wp2_with fail
      have hg := HG.out
      go_roundg (l.length - (k + 1))
      case measure => omega
      case rel => exact ⟨k + 1, by omega, rfl, by go_num, rfl⟩
    · go_wp2_with fail
      go_ret
      exact ⟨rfl, rfl⟩

theorem OwI.setLow {w : World} {B : Nat} {v : Value} {l : List Int} (h : OwI w B v l) {p : Addr} (hp : p.block < B) (x : Value) : OwI (w.setCell p x) B v l := by
  refine ⟨h.1, ?_⟩
  rcases h.2 with hn | ⟨g, cap, cur, rfl, h1, hg, rest⟩
  · exact .inl hn
  · refine .inr ⟨g, cap, cur, rfl, h1, ?_, rest⟩
    rw [heap_setCell_other w p g x (fun e => by omega)]
    exact hg

/-- A list that becomes more: the block b holds the slice; what it has lies behind b. -/
def LayL (w : World) (b : Nat) (l : List Int) : Prop := ∃ v, Arr w b 74 [v] ∧ OwI w (b + 1) v l
theorem LayL.lt {w : World} {b : Nat} {l : List Int} (h : LayL w b l) : b < w.heap.size := by obtain ⟨v, h, _⟩ := h; exact h.lt
theorem LayL.below {w w' : World} {b : Nat} {l : List Int} (h : LayL w b l) (hb : Below w.heap.size w w') : LayL w' b l := by
  have := h.lt
  obtain ⟨v, h1, h2⟩ := h
  exact ⟨v, h1.below hb this, h2.below hb (Nat.le_refl _)⟩

set_option maxRecDepth 100000 in
theorem lay_any (b : Nat) (src : Value) (l m : List Int) (w : World) (hl : LayL w b l) (hs : SrcI w src m) (hroom : (l.length + m.length) * 8 ≤ 140737488355328) :
    Calls Tryz.prog 47 #[.pointer (some ⟨b, 0, none⟩), src] w fun e w' => e = .returned (.tuple #[]) ∧ LayL w' b (l ++ m) ∧ Below b w w' := by
  have hb := hl.lt
  obtain ⟨v, harr, hown⟩ := hl
  have c1 := harr.cell (i := 0) rfl
  have f1 := harr.free 0
  go_enter Tryz.func47, Tryz.ntmps47
  go_wp2_with (at_builtin; refine appL rfl _ _ rfl (b + 1) _ _ rfl hown _ m rfl hs hroom (by omega) ?_; intro v' w1 hown' hB hgrow; (obtain ⟨a', cap', rfl, _, _, _⟩ := hown'.rd.open); (have harr1 := harr.below hB (by omega)); (have c2 := harr1.cell (i := 0) rfl); (have f2 := harr1.free 0))
  go_end0
  rw [List.length_append] at hown'
  exact ⟨rfl, ⟨_, harr1.set 0 _, hown'.setLow (p := ⟨b, 0, none⟩) (Nat.lt_succ_self b) _⟩, (hB.mono (Nat.le_succ b)).setCell (p := ⟨b, 0, none⟩) (Nat.le_refl _) _⟩

end Go.Proofs.YthjmpiekjfnoiaaGreatDoor

/-
  The walk of Encode.
-/
namespace Go.Proofs.YthjmpiekjfnoiaaGreatDoor
open Go.RowKit

theorem zenc_run : ∀ (r : List Int) (k : Nat) (l : List Int), (∀ x ∈ r, x = 0) → zenc k (r ++ l) = zenc (k + r.length) l := by
  intro r
  induction r with
  | nil => intro k l _; rfl
  | cons x r ih =>
    intro k l h
    rw [List.cons_append, zenc, if_pos (h x (by simp)), ih (k + 1) l (fun y hy => h y (by simp [hy])), List.length_cons]
    congr 1; omega
/-- One round: the noughts ahead as digits, and the number behind them. -/
theorem zenc_round {l : List Int} (h0 : ∀ x ∈ l, 0 ≤ x) : (lead 0 l = l.length → zenc 0 l = dig (lead 0 l)) ∧ (∀ x, l[lead 0 l]? = some x → zenc 0 l = dig (lead 0 l) ++ [x + 1] ++ zenc 0 (l.drop (lead 0 l + 1))) := by
  have hz : ∀ x ∈ l.take (lead 0 l), x = 0 := fun x hx => by
    have := lead_take 0 l x hx
    have := h0 x (List.mem_of_mem_take hx)
    omega
  have e := zenc_run (l.take (lead 0 l)) 0 (l.drop (lead 0 l)) hz
  rw [List.take_append_drop, List.length_take, Nat.min_eq_left (lead_le 0 l), Nat.zero_add] at e
  refine ⟨fun hl => ?_, fun x hx => ?_⟩
  · rw [e, List.drop_of_length_le (by omega)]; rfl
  · obtain ⟨hl, hx'⟩ := List.getElem?_eq_some_iff.1 hx
    have := lead_at 0 l hx
    rw [e, List.drop_eq_getElem_cons hl, hx', zenc, if_neg (by omega)]
    simp

/-- Where the rounds of Encode begin: the rest is not told yet. -/
def EncJ (l : List Int) (b0 : Nat) (w : World) (g : Nat) (a : Act) (wr : World) : Prop :=
  ∃ (rest pre : List Int) (off cap lb : Nat) (n : Int) (u1 u2 u3 u7 u8 u9 u10 u11 u12 u13 u14 u15 u16 u17 u18 u19 u20 u21 u22 u23 u24 u25 u26 u27 u28 u29 u30 u31 u32 u33 u34 u35 u36 : Value),
    a = { tmps := #[.slice (some ⟨b0, off, none⟩) rest.length cap, u1, u2, u3, .pointer (some ⟨lb, 0, none⟩), .func (.func 47) #[.pointer (some ⟨lb, 0, none⟩)] #[], .int .i64 n, u7, u8, u9, u10, u11, u12, u13, u14, u15, u16, u17, u18, u19, u20, u21, u22, u23, u24, u25, u26, u27, u28, u29, u30, u31, u32, u33, u34, u35, u36], defers := [] } ∧
    rest.length ≤ cap ∧ cap ≤ maxLen ∧ g = rest.length ∧ LayL wr lb pre ∧ Hid (pre ++ zenc 0 rest = zenc 0 l) ∧ pre.length + rest.length ≤ l.length ∧
    w.heap.size ≤ lb ∧ Below w.heap.size w wr ∧ Hid (∀ j x, rest[j]? = some x → w.cell? ⟨b0, off + j, none⟩ = some (.int .i64 x)) ∧ Hid (∀ x ∈ rest, 0 ≤ x ∧ x ≤ 1000000)

set_option maxRecDepth 100000 in
set_option maxHeartbeats 1600000 in
theorem encode_any (v : Value) (l : List Int) (w : World) (hr : RdI w v l) (hne : 0 < l.length) (hlen : l.length ≤ 100000) (hv : ∀ x ∈ l, 0 ≤ x ∧ x ≤ 1000000) :
    Calls Tryz.prog 26 #[v] w fun e w' => ∃ v', e = .returned (.tuple #[v', .int .i64 0]) ∧ OwI w' w.heap.size v' (zenc 0 l) ∧ Below w.heap.size w w' := by
  have hb : ∀ W, Below w.heap.size w W → Calls Tryz.prog 46 #[v] W fun e w' => e = .returned (.bool false) ∧ w' = W := fun W hW => (below_any v l W (hr.below hW)).mono fun e w' ⟨h1, h2⟩ => by
    rw [idxP_none (fun x hx => decide_eq_false (by have := hv x hx; omega))] at h1
    exact ⟨h1, h2⟩
  have hc : ∀ W, Below w.heap.size w W → Calls Tryz.prog 54 #[v, .func (.func 55) #[] #[]] W fun e w' => e = .returned (.bool false) ∧ w' = W := fun W hW =>
    (containsFunc_any 55 #[] (fun x => decide (1099511627776 < x)) v l W (hr.below hW) (enters_of Tryz.func55 (by kernel_rfl) rfl) (fun W _ x _ => encode1_any x W)).mono fun e w' ⟨h1, h2⟩ => by
    rw [idxP_none (fun x hx => decide_eq_false (by have := hv x hx; omega))] at h1
    exact ⟨h1, h2⟩
  have HB := hid hb
  have HC := hid hc
  clear hb hc
  obtain ⟨a, ca, rfl, hca, hma, hA⟩ := hr.open
  obtain ⟨b0, o0, rfl, hb0, hc0⟩ := hA hne
  have HV := hid hv
  have HA := hid hc0
  clear hr hA hv hc0
  go_enter Tryz.func26, Tryz.ntmps26
  go_wp2
  refine wp_scope_ghost 0 (EncJ l b0 w) rfl ?_ ?_
  · rintro g a wr ⟨rest, pre, off, cap, lb, n, u1, u2, u3, u7, u8, u9, u10, u11, u12, u13, u14, u15, u16, u17, u18, u19, u20, u21, u22, u23, u24, u25, u26, u27, u28, u29, u30, u31, u32, u33, u34, u35, u36, rfl, hkc, hcm, hg, hlay, HP, hpl, hlb, hbel, HCL, HR⟩
    have HG := hid hg
    have hrd : RdI wr (.slice (some ⟨b0, off, none⟩) rest.length cap) rest :=
      ⟨_, _, rfl, hkc, hcm, .inr ⟨b0, off, rfl, Nat.lt_of_lt_of_le hb0 hbel.size, fun j hj => by
        rw [List.length_map] at hj
        rw [hbel.cell (p := ⟨b0, off + j, none⟩) hb0, HCL.out j _ (List.getElem?_eq_getElem hj)]
        simp [List.getD, hj]⟩⟩
    have HRD := hid hrd
    have hle := lead_le 0 rest
    obtain ⟨m, hm⟩ : ∃ m, m = lead 0 rest := ⟨_, rfl⟩
    obtain ⟨z1, z2⟩ := zenc_round (l := rest) (fun x hx => (HR.out x hx).1)
    rw [← hm] at hle z1 z2
    have HM := hid hm
    have Z1 := hid z1
    have Z2 := hid z2
    have hdl := (dig_length m).1
    unfold maxLen at hcm
    clear hg hrd hm z1 z2
    go_wp2_with fail
    refine (row_any _ rest 0 _ HRD.out).mono ?_
    rintro e w1 ⟨rfl, h1⟩
    rw [← HM.out]
    have hlay1 := hlay.below h1
    have hB1 := belT hbel h1
    clear hlay hbel HRD h1
    go_wp2_with fail
    refine (digits_any m _ (by omega)).mono ?_
    rintro e w2 ⟨dv, rfl, hdo, h2⟩
    have hlay2 := hlay1.below h2
    have hB2 := belT hB1 h2
    have hsrc := hdo.src
    clear hlay1 hB1 hdo h2
    go_wp2_with fail
    refine (lay_any lb dv pre (dig m) _ hlay2 hsrc (by omega)).mono ?_
    rintro e w3 ⟨rfl, hlay3, h3⟩
    have hB3 := hB2.trans (h3.mono hlb)
    clear hlay2 hB2 hsrc h3
    by_cases hend : m = rest.length
    · have e1 := hid (show pre ++ dig m = zenc 0 l by rw [← HP.out, Z1.out hend])
      obtain ⟨fv, harr, hown⟩ := hlay3
      rw [e1.out] at hown
      have c1 := harr.cell (i := 0) rfl
      have d1 : decide (0 < rest.length - m) = false := decide_eq_false (by omega)
      have e0 : rest.length - m = 0 := by omega
      by_cases hcn : cap = m
      all_goals
        go_wp2_with fail
        simp only [Exit.jump]
        go_ret2
        exact ⟨_, rfl, Ow.base hown (by omega), hB3⟩
    · have hml : m < rest.length := by omega
      obtain ⟨x, hx⟩ := getI hml
      have e1 := hid (Z2.out x hx)
      have hxb := HR.out x (List.mem_of_getElem? hx)
      have c1 : w3.cell? ⟨b0, off + m, none⟩ = some (.int .i64 x) := by
        rw [hB3.cell (p := ⟨b0, off + m, none⟩) hb0]; exact HCL.out m x hx
      have d1 : decide (0 < rest.length - m) = true := decide_eq_true (by omega)
      have d2 : 0 < rest.length - m := by omega
      have hcn : ¬ cap = m := by omega
      have HE := hid hend
      clear hx hend
      have hl := hid (show rest.length - m - 1 = (rest.drop (m + 1)).length by rw [List.length_drop]; omega)
      have hnew := hid (show (pre ++ dig m ++ [x + 1]) ++ zenc 0 (rest.drop (m + 1)) = zenc 0 l by rw [← HP.out, e1.out]; simp only [List.append_assoc])
      have hpl' := hid (show (pre ++ dig m ++ [x + 1]).length + (rest.drop (m + 1)).length ≤ l.length by simp only [List.length_append, List.length_drop, List.length_singleton]; omega)
      have hR' : Hid (∀ x ∈ rest.drop (m + 1), 0 ≤ x ∧ x ≤ 1000000) := hid (fun y hy => HR.out y (List.mem_of_mem_drop hy))
      by_cases hc1 : cap - m = 1
      all_goals
        go_wp2_with fail
        refine (lay_any lb _ (pre ++ dig m) [x + 1] _ (hlay3.below ((Below.refl _ _).alloc (Nat.le_refl _) _)) (src_new _ _ _) (by simp only [List.length_append, List.length_singleton]; omega)).mono ?_
        rintro e w4 ⟨rfl, hlay4, h4⟩
        have hB4 := (belA hB3 _).trans (h4.mono hlb)
        go_wp2_with fail
        go_step3
        rw [hl.out]
      · refine ⟨rfl, (rest.drop (m + 1)).length, by rw [HG.out, List.length_drop]; omega, rest.drop (m + 1), _, off + m, 0, lb, _, _, _, _, _, _, _, _, _, _, _, _, _, _, _, _, _, _, _, _, _, _, _, _, _, _, _, _, _, _, _, _, _, _, rfl, by rw [List.length_drop]; omega, by simp [maxLen], rfl, hlay4, hnew, hpl'.out, hlb, hB4, hid (fun j y hy => ?_), hR'⟩
        rw [List.drop_of_length_le (by omega)] at hy; simp at hy
      · refine ⟨rfl, (rest.drop (m + 1)).length, by rw [HG.out, List.length_drop]; omega, rest.drop (m + 1), _, off + m + 1, cap - m - 1, lb, _, _, _, _, _, _, _, _, _, _, _, _, _, _, _, _, _, _, _, _, _, _, _, _, _, _, _, _, _, _, _, _, _, _, rfl, by rw [List.length_drop]; omega, by unfold maxLen; omega, rfl, hlay4, hnew, hpl'.out, hlb, hB4, hid (fun j y hy => ?_), hR'⟩
        have := RdI.dropS HCL.out (m + 1) j y hy
        rw [Nat.add_assoc off m 1]; exact this
  · intro hkey
    go_wp2_with fail
    refine (HB.out _ (Below.refl _ _)).mono ?_
    rintro e w1 ⟨rfl, rfl⟩
    go_wp2_with fail
    refine (HC.out _ (Below.refl _ _)).mono ?_
    rintro e w1 ⟨rfl, rfl⟩
    go_wp2_with fail
    go_step3
    go_step
    go_step
    exact hkey.out l.length _ _ ⟨l, [], o0, ca, w1.heap.size, 0, _, _, _, _, _, _, _, _, _, _, _, _, _, _, _, _, _, _, _, _, _, _, _, _, _, _, _, _, _, _, _, _, _, rfl, hca, hma, rfl, ⟨.slice none 0 0, Arr.new w1 _ _, OwI.nil _ _⟩, hid rfl, by simp, Nat.le_refl _, (Below.refl _ _).alloc (Nat.le_refl _) _, HA, HV⟩

end Go.Proofs.YthjmpiekjfnoiaaGreatDoor

/-
  The walks of the document's own Number and Decode.
-/
namespace Go.Proofs.YthjmpiekjfnoiaaGreatDoor
open Go.RowKit

theorem num_snoc (x : Int) : ∀ r : List Int, num (r ++ [x]) = num r + 2 ^ r.length * (x.toNat + 1) := by
  intro r
  induction r with
  | nil => simp [num]
  | cons d r ih =>
    rw [List.cons_append, num, ih, num, List.length_cons, Nat.pow_succ]
    have : 2 ^ r.length * 2 * (x.toNat + 1) = 2 * (2 ^ r.length * (x.toNat + 1)) := by rw [Nat.mul_comm (2 ^ r.length) 2, Nat.mul_assoc]
    omega
theorem num_take_le : ∀ (l : List Int) (k : Nat), num (l.take k) ≤ num l := by
  intro l
  induction l with
  | nil => intro k; simp
  | cons d l ih =>
    intro k
    cases k with
    | zero => simp [num]
    | succ k => rw [List.take_succ_cons, num, num]; have := ih k; omega
theorem num_lt : ∀ l : List Int, (∀ x ∈ l, x ≤ 1) → num l + 2 ≤ 2 ^ (l.length + 1) := by
  intro l
  induction l with
  | nil => intro _; simp [num]
  | cons d l ih =>
    intro h
    have h1 := h d (by simp)
    have h2 := ih (fun x hx => h x (by simp [hx]))
    rw [num, List.length_cons, Nat.pow_succ]
    have : d.toNat ≤ 1 := by omega
    omega
/-- What Number answers of digits: the number, and whether it is too great. -/
def numV (d : List Int) : Int := if num d ≤ 1099511627776 then (num d : Int) else 0
def numE (d : List Int) : Int := if num d ≤ 1099511627776 then 0 else 4

theorem pow42 : (2 : Nat) ^ 42 = 4398046511104 := by decide
theorem pow43 : (2 : Nat) ^ 43 = 8796093022208 := by decide

set_option maxRecDepth 100000 in
set_option maxHeartbeats 1600000 in
theorem refNumber_any (v : Value) (d : List Int) (w : World) (hr : RdI w v d) (hd : ∀ x ∈ d, x = 0 ∨ x = 1) :
    Calls Tryz.prog 69 #[v] w fun e w' => e = .returned (.tuple #[.int .i64 (numV d), .int .i64 (numE d)]) ∧ w' = w := by
  obtain ⟨a, ca, rfl, hca, hma, hA⟩ := hr.open
  unfold maxLen at hma
  have HD := hid hd
  clear hr hd
  go_enter Tryz.func69, Tryz.ntmps69
  go_wp2_with fail
  go_loopg [4] d.length (fun gh s4 wr => ∃ k : Nat, k ≤ d.length ∧ gh = d.length - k ∧ s4 = .int .i64 k ∧ w = wr)
  case atStart => exact ⟨0, Nat.zero_le _, rfl, rfl, rfl⟩
  case round =>
  obtain ⟨k, hk, hg, rfl, rfl⟩ := hrel
  have HG := hid hg
  clear hg
  by_cases hlt : k < d.length
  · obtain ⟨b1, o1, rfl, hb1, hc1⟩ := hA (by omega)
    obtain ⟨x, hx⟩ := getI hlt
    have c1 := hc1 k x hx
    have hxb := HD.out x (List.mem_of_getElem? hx)
    clear hc1 hA hx
    rcases hxb with rfl | rfl
    all_goals
      go_wp2_with fail
      have hg := HG.out
      go_roundg (d.length - (k + 1))
      case measure => omega
      case rel => exact ⟨k + 1, by omega, rfl, by go_num, rfl⟩
  · clear HG
    go_wp2_with fail
    go_loopg [5, 6, 7] d.length (fun gh s5 s6 s7 wr => ∃ i n p : Nat, i ≤ d.length ∧ i ≤ 42 ∧ gh = d.length - i ∧ s7 = .int .i64 i ∧ s5 = .int .i64 n ∧ s6 = .int .i64 p ∧ Hid (n = num (d.take i) ∧ p = 2 ^ i) ∧ n ≤ 8796093022208 ∧ p ≤ 4398046511104 ∧ w = wr)
    case atStart => exact ⟨0, 0, 1, Nat.zero_le _, by omega, rfl, rfl, rfl, rfl, hid ⟨by simp [num], rfl⟩, by omega, by omega, rfl⟩
    case round =>
    obtain ⟨i, n, p, hi, hi42, hg, rfl, rfl, rfl, HN, hn, hp, rfl⟩ := hrel
    have HG := hid hg
    clear hg
    by_cases hil : i < d.length
    · by_cases h42 : i = 42
      · have t1 : decide ((41 : Int) < (i : Int)) = true := decide_eq_true (by omega)
        have t2 : (41 : Int) < (i : Int) := by omega
        have H42 := hid h42
        clear h42
        go_wp2_with fail
        go_ret2
        have hge := num_ge d
        have hpw : 2 ^ 43 ≤ 2 ^ d.length := Nat.pow_le_pow_right (by decide) (by have := H42.out; omega)
        rw [pow43] at hpw
        refine ⟨?_, rfl⟩
        unfold numV numE
        rw [if_neg (by omega), if_neg (by omega)]; rfl
      · have t1 : decide ((41 : Int) < (i : Int)) = false := decide_eq_false (by omega)
        have t2 : (i : Int) ≤ 41 := by omega
        obtain ⟨b1, o1, rfl, hb1, hc1⟩ := hA (by omega)
        obtain ⟨x, hx⟩ := getI hil
        have c1 := hc1 i x hx
        have hxb := HD.out x (List.mem_of_getElem? hx)
        have hstep := hid (show num (d.take (i + 1)) = num (d.take i) + 2 ^ i * (x.toNat + 1) by
          rw [List.take_add_one, hx, Option.toList_some, num_snoc, List.length_take, Nat.min_eq_left hi])
        have hlt2 := hid (show num (d.take (i + 1)) ≤ 8796093022208 by
          have h1 := num_lt (d.take (i + 1)) (fun y hy => by rcases HD.out y (List.mem_of_mem_take hy) with h | h <;> omega)
          have h2 : (2 : Nat) ^ ((d.take (i + 1)).length + 1) ≤ 2 ^ 43 := Nat.pow_le_pow_right (by decide) (by rw [List.length_take]; omega)
          rw [pow43] at h2
          omega)
        have hpp := hid (show 2 ^ (i + 1) ≤ 4398046511104 by rw [← pow42]; exact Nat.pow_le_pow_right (by decide) (by omega))
        clear hc1 hA hx
        rcases hxb with rfl | rfl
        · go_wp2_with fail
          have hg := HG.out
          go_roundg (d.length - (i + 1))
          case measure => omega
          case rel =>
            obtain ⟨q1, q2⟩ := HN.out
            have q3 := hstep.out
            have q4 := hlt2.out
            have q5 := hpp.out
            rw [← q1, ← q2] at q3
            have q6 : 2 ^ (i + 1) = 2 * p := by rw [q2, Nat.pow_succ]; omega
            have q7 : p * ((0 : Int).toNat + 1) = p := by simp
            rw [q7] at q3
            exact ⟨i + 1, n + p, 2 * p, by omega, by omega, rfl, by go_num, by go_num, by go_num, hid ⟨by omega, by omega⟩, by omega, by omega, rfl⟩
        · go_wp2_with fail
          have hg := HG.out
          go_roundg (d.length - (i + 1))
          case measure => omega
          case rel =>
            obtain ⟨q1, q2⟩ := HN.out
            have q3 := hstep.out
            have q4 := hlt2.out
            have q5 := hpp.out
            rw [← q1, ← q2] at q3
            have q6 : 2 ^ (i + 1) = 2 * p := by rw [q2, Nat.pow_succ]; omega
            have q7 : p * ((1 : Int).toNat + 1) = p * 2 := by simp
            rw [q7] at q3
            exact ⟨i + 1, n + p * 2, 2 * p, by omega, by omega, rfl, by go_num, by go_num, by go_num, hid ⟨by omega, by omega⟩, by omega, by omega, rfl⟩
    · have hie : i = d.length := by omega
      have hnn : n = num d := by have := HN.out.1; rw [hie, List.take_of_length_le (Nat.le_refl _)] at this; exact this
      by_cases hbig : n ≤ 1099511627776
      · have t1 : decide ((1099511627776 : Int) < (n : Int)) = false := decide_eq_false (by omega)
        have t2 : (n : Int) ≤ 1099511627776 := by omega
        have H := hid hnn
        clear hnn hie
        go_wp2_with fail
        go_ret2
        refine ⟨?_, rfl⟩
        unfold numV numE
        rw [← H.out, if_pos hbig, if_pos hbig]; rfl
      · have t1 : decide ((1099511627776 : Int) < (n : Int)) = true := decide_eq_true (by omega)
        have t2 : (1099511627776 : Int) < (n : Int) := by omega
        have H := hid hnn
        clear hnn hie
        go_wp2_with fail
        go_ret2
        refine ⟨?_, rfl⟩
        unfold numV numE
        rw [← H.out, if_neg hbig, if_neg hbig]; rfl

end Go.Proofs.YthjmpiekjfnoiaaGreatDoor

/-
  The library's iterator over a slice of digits, from the last one on.
-/
namespace Go.Proofs.YthjmpiekjfnoiaaGreatDoor
open Go.RowKit Go.Shelf

attribute [local go_sem] Oper.semAt_some

def bv (b : Bool) : Int := if b then 1 else 0
def uptoB {α : Type} (f : Nat → α) (k : Nat) : List α := (List.range k).map f
theorem uptoB_succ {α : Type} (f : Nat → α) (k : Nat) : uptoB f (k + 1) = uptoB f k ++ [f k] := by simp [uptoB, List.range_succ]
theorem uptoB_length {α : Type} (f : Nat → α) (k : Nat) : (uptoB f k).length = k := by simp [uptoB]
/-- What comes in round j: the place and the digit, from the last one on. -/
def bk (ds : List Bool) (j : Nat) : Nat × Bool := (ds.length - 1 - j, ds[ds.length - 1 - j]?.getD false)
def encB (x : Nat × Bool) : Array Value := #[Value.int .i64 (x.1 : Int), Value.int .i64 (bv x.2)]

/-- What a round leaves alone: what lay below n₀, and the block Bs. -/
def KpB (n₀ Bs : Nat) (A B : World) : Prop := Below n₀ A B ∧ B.heap[Bs]? = A.heap[Bs]?
theorem kpB_t {n₀ Bs : Nat} {A B C : World} (h : KpB n₀ Bs A B) (k : KpB n₀ Bs B C) : KpB n₀ Bs A C := ⟨h.1.trans k.1, k.2.trans h.2⟩
theorem kpB_b {n₀ Bs : Nat} {w : World} (hn : n₀ ≤ w.heap.size) (hB : Bs < w.heap.size) (W : World) (l : Nat) (o o' : Obj) (hl : w.heap.size ≤ l) (h : W.heap[l]? = some o) (h1 : o.isCells = false) (h2 : o.isWalk = false) : KpB n₀ Bs W (W.putObj l o') :=
  ⟨belowK_b hn W l o o' hl h h1 h2, (grownBy_putObj' W l o').block Bs (by have := (Array.getElem?_eq_some_iff.1 h).1; omega) (fun e => by cases e; omega)⟩
theorem KpB.cell {n₀ Bs : Nat} {A B : World} (h : KpB n₀ Bs A B) (k : Nat) : B.cell? ⟨Bs, k, none⟩ = A.cell? ⟨Bs, k, none⟩ := World.cell?_of_block h.2

set_option maxRecDepth 100000 in
set_option maxHeartbeats 2000000 in
theorem back1_in (F : Fence) (n : Nat) (h7 : F.fn 89) (hro : F.round = none) (hn : 1 ≤ n) (l Bs n₀ b off cap : Nat) (ds : List Bool) (hreach : ds.length ≤ 1000000) (hb : b < n₀) (J Jx : List (Nat × Bool) → World → Prop)
    (hY : ∀ pre x W, J pre W → pre.length < ds.length → YieldAt F (n - 1) Tryz.prog l (encB x) W fun e W' =>
      (e = .returned (.bool true) ∧ J (pre ++ [x]) W' ∧ KpB n₀ Bs W W') ∨ (e = .returned (.bool false) ∧ Jx (pre ++ [x]) W'))
    (W : World) (hBs : W.cell? ⟨Bs, 0, none⟩ = some (.slice (some ⟨b, off, none⟩) ds.length cap)) (hc : ∀ j, j < ds.length → W.cell? ⟨b, off + j, none⟩ = some (.int .i64 (bv (ds[j]?.getD false)))) (h0 : J [] W) :
    CallsIn F n Tryz.prog 89 #[.func (.yield l) #[] #[], .pointer (some ⟨Bs, 0, none⟩)] W fun e W' => (∃ v, e = .returned v) ∧
      ((∃ ys, ys = uptoB (bk ds) ds.length ∧ J ys W') ∨ (∃ pre, (∃ k, k ≤ ds.length ∧ pre = uptoB (bk ds) k) ∧ Jx pre W')) := by
  refine callsIn_of_wp Tryz.func89 rfl h7 ?_ hro
  simp only [Tryz.ntmps89, List.size_toArray, List.length_cons, List.length_nil, Nat.reduceAdd, Nat.reduceSub, Array.replicate_succ, Array.replicate_zero, List.push_toArray, List.append_toArray, List.nil_append, List.cons_append]
  gi_wp2
  gi_loopw [3] (fun i wr => ∃ q : Nat, q ≤ ds.length ∧ i = .int .i64 ((q : Int) - 1) ∧ J (uptoB (bk ds) (ds.length - q)) wr ∧ KpB n₀ Bs W wr)
    (fun i _ => (intOf i + 1).toNat)
  case atStart => exact ⟨ds.length, Nat.le_refl _, rfl, by rw [Nat.sub_self]; exact h0, Below.refl _ _, rfl⟩
  case round =>
    obtain ⟨q, hq, hi, hJs, hnx⟩ := hrel
    cases q with
    | zero =>
      rw [show (((0 : Nat) : Int) - 1) = -1 by omega] at hi
      subst hi
      gi_wp2
      go_end0
      exact ⟨⟨_, rfl⟩, .inl ⟨_, rfl, by rw [Nat.sub_zero] at hJs; exact hJs⟩⟩
    | succ p =>
      rw [show (((p + 1 : Nat) : Int) - 1) = (p : Int) by omega] at hi
      subst hi
      have e1 : ds.length - 1 - (ds.length - (p + 1)) = p := by omega
      have hbs := (hnx.cell 0).trans hBs
      have hcx := (hnx.1.cell (p := ⟨b, off + p, none⟩) hb).trans (hc p (by omega))
      obtain ⟨fn, tmps, assign, body, hy, hR⟩ := hY _ (bk ds (ds.length - (p + 1))) wr hJs (by rw [uptoB_length]; omega)
      unfold encB bk at hy
      dsimp only at hy
      rw [e1] at hy
      gi_wp2
      refine hR.mono ?_
      rintro e W3 (⟨rfl, hJ3, hk3⟩ | ⟨rfl, hJx3⟩)
      · gi_wp2
        go_roundw
        case rel => exact ⟨p, by omega, by go_num, by rw [show ds.length - p = (ds.length - (p + 1)) + 1 by omega, uptoB_succ]; exact hJ3, kpB_t hnx hk3⟩
        case measure => simp [intOf]
      · gi_wp2
        refine bodyPost_ret (results_none rfl _ _ _) rfl ?_
        exact ⟨⟨_, rfl⟩, .inr ⟨_, ⟨ds.length - (p + 1) + 1, by omega, (uptoB_succ _ _).symm⟩, hJx3⟩⟩

set_option maxRecDepth 100000 in
set_option maxHeartbeats 1000000 in
theorem back1_nil_in (F : Fence) (n : Nat) (h7 : F.fn 89) (hro : F.round = none) (l Bs cap : Nat) (a : Option Addr) (J : List (Nat × Bool) → World → Prop) (W : World) (hBs : W.cell? ⟨Bs, 0, none⟩ = some (.slice a 0 cap)) (h0 : J [] W) :
    CallsIn F n Tryz.prog 89 #[.func (.yield l) #[] #[], .pointer (some ⟨Bs, 0, none⟩)] W fun e W' => (∃ v, e = .returned v) ∧ J [] W' := by
  refine callsIn_of_wp Tryz.func89 rfl h7 ?_ hro
  simp only [Tryz.ntmps89, List.size_toArray, List.length_cons, List.length_nil, Nat.reduceAdd, Nat.reduceSub, Array.replicate_succ, Array.replicate_zero, List.push_toArray, List.append_toArray, List.nil_append, List.cons_append]
  gi_wp2
  gi_loopw [3] (fun i wr => i = .int .i64 (-1) ∧ J [] wr) (fun _ _ => 0)
  case atStart => exact ⟨rfl, h0⟩
  case round =>
    obtain ⟨rfl, hJs⟩ := hrel
    gi_wp2
    go_end0
    exact ⟨⟨_, rfl⟩, hJs⟩

/-- A slice of digits, in a block below n₀; or there are none. -/
def BitsAt (n₀ : Nat) (W : World) (sv : Value) (ds : List Bool) : Prop :=
  (∃ a cap, sv = .slice a 0 cap ∧ ds = []) ∨ ∃ b off cap, sv = .slice (some ⟨b, off, none⟩) ds.length cap ∧ b < n₀ ∧ ∀ j, j < ds.length → W.cell? ⟨b, off + j, none⟩ = some (.int .i64 (bv (ds[j]?.getD false)))
theorem BitsAt.below {n₀ : Nat} {A B : World} (h : Below n₀ A B) {sv : Value} {ds : List Bool} : BitsAt n₀ A sv ds → BitsAt n₀ B sv ds
  | .inl e => .inl e
  | .inr ⟨b, off, cap, e, hb, hc⟩ => .inr ⟨b, off, cap, e, hb, fun j hj => (h.cell (p := ⟨b, off + j, none⟩) hb).trans (hc j hj)⟩

theorem back_stops (F : Fence) (n : Nat) (h7 : F.fn 89) (hro : F.round = none) (hn : 1 ≤ n) (Bs n₀ : Nat) (sv : Value) (ds : List Bool) (hreach : ds.length ≤ 1000000) (w : World) (hBs : Bs < w.heap.size) (hn₀ : n₀ ≤ w.heap.size)
    (hc : w.cell? ⟨Bs, 0, none⟩ = some sv) (hI : BitsAt n₀ w sv ds) :
    SeqStopsK F n Tryz.prog 89 #[.pointer (some ⟨Bs, 0, none⟩)] encB (KpB n₀ Bs) (fun ys => ys = uptoB (bk ds) ds.length)
      (fun pre => ∃ k, k ≤ ds.length ∧ pre = uptoB (bk ds) k) ds.length w := fun l J Jx W hW _ _ hY h0 => by
  have hc' := (hW.cell (p := ⟨Bs, 0, none⟩) hBs).trans hc
  rcases hI.below (hW.mono hn₀) with ⟨a, cap, rfl, rfl⟩ | ⟨b, off, cap, rfl, hb, hcs⟩
  · exact (back1_nil_in F n h7 hro l Bs cap a J W hc' h0).mono fun e W' ⟨he, hj⟩ => ⟨he, .inl ⟨_, rfl, hj⟩⟩
  · exact back1_in F n h7 hro hn l Bs n₀ b off cap ds hreach hb J Jx hY W hc' hcs h0

set_option maxHeartbeats 1000000 in
theorem back_in (F : Fence) (n : Nat) (h5 : F.fn 77) (hro : F.round = none) (a : Option Addr) (len cap : Nat) (w : World) :
    CallsIn F n Tryz.prog 77 #[.slice a len cap] w fun e w' => e = .returned (.func (.func 89) #[] #[.pointer (some ⟨w.heap.size, 0, none⟩)]) ∧ w' = w.alloc (.cells #[.slice a len cap] 23) := by
  refine callsIn_of_wp Tryz.func77 rfl h5 ?_ hro
  simp only [Tryz.ntmps77, List.size_toArray, List.length_cons, List.length_nil, Nat.reduceAdd, Nat.reduceSub, Array.replicate_succ, Array.replicate_zero, List.push_toArray, List.append_toArray, List.nil_append, List.cons_append]
  gi_wp2
  go_ret
  exact ⟨rfl, rfl⟩

end Go.Proofs.YthjmpiekjfnoiaaGreatDoor

/-
  The walk of Number, by the library's iterator from the last digit on.
-/
namespace Go.Proofs.YthjmpiekjfnoiaaGreatDoor
open Go.RowKit Go.Shelf

attribute [local go_sem] Oper.semAt_some

/-- The number of what has come, from the last digit on. -/
def hor (l : List (Nat × Bool)) : Nat := l.foldl (fun n x => 2 * n + (if x.2 then 2 else 1)) 0
theorem hor_snoc (l : List (Nat × Bool)) (x : Nat × Bool) : hor (l ++ [x]) = 2 * hor l + (if x.2 then 2 else 1) := by simp [hor]
theorem hor_upto (ds : List Bool) : ∀ k, k ≤ ds.length → hor (uptoB (bk ds) k) = num ((ds.drop (ds.length - k)).map bv) := by
  intro k
  induction k with
  | zero => intro _; simp [uptoB, hor, num]
  | succ k ih =>
    intro hk
    have hlt : ds.length - (k + 1) < ds.length := by omega
    rw [uptoB_succ, hor_snoc, ih (by omega), List.drop_eq_getElem_cons hlt, List.map_cons, num, show ds.length - (k + 1) + 1 = ds.length - k by omega]
    have e : (bk ds k).2 = ds[ds.length - (k + 1)] := by
      unfold bk
      rw [show ds.length - 1 - k = ds.length - (k + 1) by omega, List.getElem?_eq_getElem hlt]; rfl
    rw [e]
    cases ds[ds.length - (k + 1)]
    · simp [bv]; omega
    · simp [bv]; omega
theorem num_drop_le : ∀ (l : List Int) (k : Nat), num (l.drop k) ≤ num l := by
  intro l
  induction l with
  | nil => intro k; simp
  | cons d l ih =>
    intro k
    cases k with
    | zero => simp
    | succ k => rw [List.drop_succ_cons, num]; have := ih k; omega

theorem number1_pred (ds : List Bool) : idxP (fun x => !(x == 0) && !(x == 1)) (ds.map bv) = -1 := by
  apply idxP_none
  intro x hx
  obtain ⟨b, _, rfl⟩ := List.mem_map.1 hx
  cases b <;> rfl

set_option maxRecDepth 100000 in
set_option maxHeartbeats 4000000 in
theorem number_in (n : Nat) (hn : 3 ≤ n) (a : Option Addr) (cap : Nat) (ds : List Bool) (hreach : ds.length ≤ 1000000) (w : World) (hr : RdI w (.slice a ds.length cap) (ds.map bv)) (hI : BitsAt w.heap.size w (.slice a ds.length cap) ds) :
    CallsIn Fence.wide n Tryz.prog 49 #[.slice a ds.length cap] w fun e W' => e = .returned (.tuple #[.int .i64 (numV (ds.map bv)), .int .i64 (numE (ds.map bv))]) ∧ Below w.heap.size w W' := by
  have h1 : 1 ≤ n := by omega
  have hro : Fence.wide.round = none := rfl
  have hcf : ∀ W, Below w.heap.size w W → Calls Tryz.prog 54 #[.slice a ds.length cap, .func (.func 76) #[] #[]] W fun e w' => e = .returned (.bool false) ∧ w' = W := fun W hW =>
    (containsFunc_any 76 #[] (fun x => !(x == 0) && !(x == 1)) (.slice a ds.length cap) (ds.map bv) W (hr.below hW) (enters_of Tryz.func76 (by kernel_rfl) rfl) (fun W _ x _ => number1_any x W)).mono fun e w' ⟨h1, h2⟩ => by
    rw [number1_pred] at h1
    exact ⟨h1, h2⟩
  refine callsIn_of_wp_marks Tryz.func49 rfl trivial ?_ hro
  simp only [Tryz.ntmps49, List.size_toArray, List.length_cons, List.length_nil, Nat.reduceAdd, Nat.reduceSub, Array.replicate_succ, Array.replicate_zero, List.push_toArray, List.append_toArray, List.nil_append, List.cons_append]
  gi_wp2_with fail
  have hB0 : Below w.heap.size w ((w.alloc (.cells #[.int .i64 0] 3)).alloc (.cells #[.int .i64 0] 29)) := ((Below.refl _ w).alloc (Nat.le_refl _) _).alloc (by simp) _
  refine ⟨trivial, (callsIn_wide.2 (hcf _ hB0)).mono ?_⟩
  rintro e w' ⟨rfl, rfl⟩
  gi_wp2_with fail
  refine ⟨trivial, (back_in Fence.wide (n - 1) trivial hro a ds.length cap _).mono ?_⟩
  rintro e w' ⟨rfl, rfl⟩
  have bR := Boxed.new w 3 (.int .i64 0)
  have bE := Boxed.new (w.alloc (.cells #[.int .i64 0] 3)) 29 (.int .i64 0)
  have bN := Boxed.new ((w.alloc (.cells #[.int .i64 0] 3)).alloc (.cells #[.int .i64 0] 29)) 23 (.slice a ds.length cap)
  rw [World.size_alloc] at bE
  rw [World.size_alloc, World.size_alloc] at bN
  have hB1 := hB0.alloc (o := .cells #[.slice a ds.length cap] 23) (by simp; omega)
  gi_wp2_with fail
  refine wpIn_rangeFunc_ownG hro h1 (gf := 89) (lb := #[.pointer (some ⟨w.heap.size + 1 + 1, 0, none⟩)]) rfl trivial (enters_of Tryz.func89 (by kernel_rfl) rfl)
    (back_stops Fence.wide (n - 1) trivial hro (by omega) (w.heap.size + 1 + 1) w.heap.size _ ds hreach _ (by simp) (by simp; omega) bN.cell (hI.below hB1)) kpB_t (kpB_b (by simp; omega) (by simp)) (Below.refl _ _) (fun _ => rfl)
    (fun pre W => (hor pre ≤ 1099511627776 ∧ (W.cell? ⟨w.heap.size, 0, none⟩ = some (.int .i64 (hor pre : Int)) ∧ W.frozen? ⟨w.heap.size, 0, none⟩ = false) ∧ (W.cell? ⟨w.heap.size + 1, 0, none⟩ = some (.int .i64 0) ∧ W.frozen? ⟨w.heap.size + 1, 0, none⟩ = false)) ∧ Below w.heap.size w W)
    (fun c pre W => (c = .ret ∧ 1099511627776 < hor pre ∧ W.cell? ⟨w.heap.size, 0, none⟩ = some (.int .i64 0) ∧ W.cell? ⟨w.heap.size + 1, 0, none⟩ = some (.int .i64 4)) ∧ Below w.heap.size w W)
    (OwnFrom.and (Own.from (fun s A B row hs hg hr => ⟨hs.1, ⟨cell_kept hs.2.1.1 hg hr, (frozen_kept hs.2.1.1 hg hr).trans hs.2.1.2⟩, cell_kept hs.2.2.1 hg hr, (frozen_kept hs.2.2.1 hg hr).trans hs.2.2.2⟩) _) (ownFrom_below (Nat.le_refl _) (by simp; omega)))
    (fun c => OwnFrom.and (Own.from (fun s A B row hs hg hr => ⟨hs.1, hs.2.1, cell_kept hs.2.2.1 hg hr, cell_kept hs.2.2.2 hg hr⟩) _) (ownFrom_below (Nat.le_refl _) (by simp; omega)))
    ⟨⟨by simp [hor], ⟨((bR.alloc _).alloc _).cell, ((bR.alloc _).alloc _).frozen⟩, (bE.alloc _).cell, (bE.alloc _).frozen⟩, hB1⟩
    (fun x => { tmps := #[.slice a ds.length cap, undef, .pointer (some ⟨w.heap.size, 0, none⟩), .pointer (some ⟨w.heap.size + 1, 0, none⟩), undef, .int .i64 (bv x.2), .slice a ds.length cap, .bool false, .slice a ds.length cap, .func (.func 89) #[] #[.pointer (some ⟨w.heap.size + 1 + 1, 0, none⟩)], .int .i64 (x.1 : Int), .int .i64 (bv x.2), undef, undef, undef, undef, undef, undef, undef, undef], defers := [] }) ?assign ?body ?done ?stop
  case assign =>
    intro l x W K hK
    unfold encB
    gi_wp2
    exact hK
  case body =>
    rintro l pre ⟨i, b⟩ W ⟨⟨hle, ⟨hc, hf⟩, hce, hfe⟩, hB⟩ _
    obtain ⟨h, hh⟩ : ∃ h, h = hor pre := ⟨_, rfl⟩
    have hs := hor_snoc pre (i, b)
    rw [← hh] at hle hc hs
    have HS := hid hs
    have hne : w.heap.size + 1 + 1 ≠ w.heap.size := by omega
    clear hh hs hcf hr
    have hnA : (⟨w.heap.size + 1, 0, none⟩ : Addr) ≠ ⟨w.heap.size, 0, none⟩ := fun e => by have := congrArg Addr.block e; simp at this
    have hnB : (⟨w.heap.size, 0, none⟩ : Addr) ≠ ⟨w.heap.size + 1, 0, none⟩ := fun e => hnA e.symm
    cases b
    · have hbv : bv false = 0 := rfl
      dsimp only
      rw [hbv]
      by_cases hbig : 1099511627776 < 2 * h + 1
      · have t1 : decide ((1099511627776 : Int) < 2 * (h : Int) + 1) = true := decide_eq_true (by omega)
        have t2 : (1099511627776 : Int) < 2 * (h : Int) + 1 := by omega
        gi_wp2
        refine ⟨(((KeepsOthers.setCell W _ _).trans (KeepsOthers.setCell _ _ _)).trans (KeepsOthers.setCell _ _ _)).from _, ⟨rfl, by rw [HS.out, if_neg (by decide)]; omega, ?_, ?_⟩,
          ((hB.setCell (p := ⟨w.heap.size, 0, none⟩) (Nat.le_refl _) _).setCell (p := ⟨w.heap.size, 0, none⟩) (Nat.le_refl _) _).setCell (p := ⟨w.heap.size + 1, 0, none⟩) (Nat.le_succ _) _⟩
        · rw [World.cell?_setCell_other _ _ _ _ hnA]
          exact World.cell?_setCell_same _ _ _ (World.cell?_setCell_same _ _ _ hc)
        · refine World.cell?_setCell_same (u := .int .i64 0) _ _ _ ?_
          rw [World.cell?_setCell_other _ _ _ _ hnB, World.cell?_setCell_other _ _ _ _ hnB]; exact hce
      · have t1 : decide ((1099511627776 : Int) < 2 * (h : Int) + 1) = false := decide_eq_false (by omega)
        have t2 : 2 * (h : Int) + 1 ≤ (1099511627776 : Int) := by omega
        gi_wp2
        refine ⟨(KeepsOthers.setCell W _ _).from _, ⟨(Below.refl w.heap.size W).setCell (p := ⟨w.heap.size, 0, none⟩) (Nat.le_refl _) _, heap_setCell_other _ _ _ _ hne⟩, ⟨by rw [HS.out, if_neg (by decide)]; omega, ⟨?_, ?_⟩, ?_, ?_⟩, hB.setCell (p := ⟨w.heap.size, 0, none⟩) (Nat.le_refl _) _⟩
        · have e : (hor (pre ++ [(i, false)]) : Int) = 2 * (h : Int) + 1 := by rw [HS.out, if_neg (by decide)]; omega
          rw [e]
          exact World.cell?_setCell_same _ _ _ hc
        · rw [World.frozen?_setCell]; exact hf
        · rw [World.cell?_setCell_other _ _ _ _ hnB]; exact hce
        · rw [World.frozen?_setCell]; exact hfe
    · have hbv : bv true = 1 := rfl
      dsimp only
      rw [hbv]
      by_cases hbig : 1099511627776 < 2 * h + 2
      · have t1 : decide ((1099511627776 : Int) < 2 * (h : Int) + 1 + 1) = true := decide_eq_true (by omega)
        have t2 : (1099511627776 : Int) < 2 * (h : Int) + 1 + 1 := by omega
        gi_wp2
        refine ⟨(((KeepsOthers.setCell W _ _).trans (KeepsOthers.setCell _ _ _)).trans (KeepsOthers.setCell _ _ _)).from _, ⟨rfl, by rw [HS.out, if_pos trivial]; omega, ?_, ?_⟩,
          ((hB.setCell (p := ⟨w.heap.size, 0, none⟩) (Nat.le_refl _) _).setCell (p := ⟨w.heap.size, 0, none⟩) (Nat.le_refl _) _).setCell (p := ⟨w.heap.size + 1, 0, none⟩) (Nat.le_succ _) _⟩
        · rw [World.cell?_setCell_other _ _ _ _ hnA]
          exact World.cell?_setCell_same _ _ _ (World.cell?_setCell_same _ _ _ hc)
        · refine World.cell?_setCell_same (u := .int .i64 0) _ _ _ ?_
          rw [World.cell?_setCell_other _ _ _ _ hnB, World.cell?_setCell_other _ _ _ _ hnB]; exact hce
      · have t1 : decide ((1099511627776 : Int) < 2 * (h : Int) + 1 + 1) = false := decide_eq_false (by omega)
        have t2 : 2 * (h : Int) + 1 + 1 ≤ (1099511627776 : Int) := by omega
        gi_wp2
        refine ⟨(KeepsOthers.setCell W _ _).from _, ⟨(Below.refl w.heap.size W).setCell (p := ⟨w.heap.size, 0, none⟩) (Nat.le_refl _) _, heap_setCell_other _ _ _ _ hne⟩, ⟨by rw [HS.out, if_pos trivial]; omega, ⟨?_, ?_⟩, ?_, ?_⟩, hB.setCell (p := ⟨w.heap.size, 0, none⟩) (Nat.le_refl _) _⟩
        · have e : (hor (pre ++ [(i, true)]) : Int) = 2 * (h : Int) + 1 + 1 := by rw [HS.out, if_pos trivial]; omega
          rw [e]
          exact World.cell?_setCell_same _ _ _ hc
        · rw [World.frozen?_setCell]; exact hf
        · rw [World.cell?_setCell_other _ _ _ _ hnB]; exact hce
        · rw [World.frozen?_setCell]; exact hfe
  case done =>
    rintro D ys W hD rfl ⟨⟨hle, ⟨hc, hf⟩, hce, hfe⟩, hB⟩ hK
    rw [hor_upto ds _ (Nat.le_refl _), Nat.sub_self, List.drop_zero] at hle hc
    have hv : numV (ds.map bv) = (num (ds.map bv) : Int) := by unfold numV; rw [if_pos hle]
    have he : numE (ds.map bv) = 0 := by unfold numE; rw [if_pos hle]
    have HVE := hid (And.intro hv he)
    clear hv he
    gi_wp2
    have hnB : (⟨w.heap.size, 0, none⟩ : Addr) ≠ ⟨w.heap.size + 1, 0, none⟩ := fun e => by have := congrArg Addr.block e; simp at this
    have hnA : (⟨w.heap.size + 1, 0, none⟩ : Addr) ≠ ⟨w.heap.size, 0, none⟩ := fun e => hnB e.symm
    obtain ⟨V, hV⟩ : ∃ V, V = num (ds.map bv) := ⟨_, rfl⟩
    have hK' := ((KeepsOthers.setCell W ⟨w.heap.size, 0, none⟩ (.int .i64 (num (ds.map bv) : Int))).trans (KeepsOthers.setCell _ ⟨w.heap.size + 1, 0, none⟩ (.int .i64 0))).same D _ hK rfl
    refine ⟨by simp, .inl ⟨_, _, rfl, run_takeDeferred hK', ?_⟩⟩
    have hc4 : ((W.setCell ⟨w.heap.size, 0, none⟩ (.int .i64 (num (ds.map bv) : Int))).setCell ⟨w.heap.size + 1, 0, none⟩ (.int .i64 0)).cell? ⟨w.heap.size, 0, none⟩ = some (.int .i64 (num (ds.map bv) : Int)) := by
      rw [World.cell?_setCell_other _ _ _ _ hnA]; exact World.cell?_setCell_same _ _ _ hc
    have hc5 : ((W.setCell ⟨w.heap.size, 0, none⟩ (.int .i64 (num (ds.map bv) : Int))).setCell ⟨w.heap.size + 1, 0, none⟩ (.int .i64 0)).cell? ⟨w.heap.size + 1, 0, none⟩ = some (.int .i64 0) := by
      refine World.cell?_setCell_same (u := .int .i64 0) _ _ _ ?_
      rw [World.cell?_setCell_other _ _ _ _ hnB]; exact hce
    have hc6 := cell_kept hc4 (grownBy_putObj' _ D (.deferred none)) (fun r e => by cases e; exact ⟨_, hK', rfl⟩)
    have hc7 := cell_kept hc5 (grownBy_putObj' _ D (.deferred none)) (fun r e => by cases e; exact ⟨_, hK', rfl⟩)
    refine ⟨.tuple #[.int .i64 (num (ds.map bv) : Int), .int .i64 0], ?_, by rw [HVE.out.1, HVE.out.2], ((hB.setCell (p := ⟨w.heap.size, 0, none⟩) (Nat.le_refl _) _).setCell (p := ⟨w.heap.size + 1, 0, none⟩) (Nat.le_succ _) _).trans (belowK_b (w := w) (Nat.le_refl _) _ D _ _ (by simp at hD; omega) hK' rfl rfl)⟩
    simp [results, Tryz.f49, go_sem, hc6, hc7]
  case stop =>
    rintro D c pre W hD ⟨k, hk, rfl⟩ ⟨⟨rfl, hlt, hc, hce⟩, hB⟩ hK
    rw [hor_upto ds _ hk] at hlt
    have hge : num ((ds.drop (ds.length - k)).map bv) ≤ num (ds.map bv) := by rw [List.map_drop]; exact num_drop_le _ _
    have hv : numV (ds.map bv) = 0 := by unfold numV; rw [if_neg (by omega)]
    have he : numE (ds.map bv) = 4 := by unfold numE; rw [if_neg (by omega)]
    have HVE := hid (And.intro hv he)
    clear hv he
    gi_wp2
    refine ⟨by simp, .inl ⟨_, _, rfl, run_takeDeferred hK, ?_⟩⟩
    have hc6 := cell_kept hc (grownBy_putObj' _ D (.deferred none)) (fun r e => by cases e; exact ⟨_, hK, rfl⟩)
    have hc7 := cell_kept hce (grownBy_putObj' _ D (.deferred none)) (fun r e => by cases e; exact ⟨_, hK, rfl⟩)
    refine ⟨.tuple #[.int .i64 0, .int .i64 4], ?_, by rw [HVE.out.1, HVE.out.2], hB.trans (belowK_b (w := w) (Nat.le_refl _) W D _ _ (by simp at hD; omega) hK rfl rfl)⟩
    simp [results, Tryz.f49, go_sem, hc6, hc7]

theorem number_any (v : Value) (d : List Int) (w : World) (hr : RdI w v d) (hlen : d.length ≤ 1000000) (hd : ∀ x ∈ d, x = 0 ∨ x = 1) :
    Calls Tryz.prog 49 #[v] w fun e w' => e = .returned (.tuple #[.int .i64 (numV d), .int .i64 (numE d)]) ∧ Below w.heap.size w w' := by
  obtain ⟨ds, rfl⟩ : ∃ ds : List Bool, d = ds.map bv := by
    refine ⟨d.map (fun x => decide (x = 1)), ?_⟩
    rw [List.map_map]
    rw [List.map_congr_left (g := id) (fun x hx => by rcases hd x hx with rfl | rfl <;> rfl), List.map_id]
  obtain ⟨a, cap, rfl, h1, h2, h3⟩ := hr.open
  rw [List.length_map] at hr hlen h3 h1 ⊢
  refine callsIn_wide.1 (number_in 3 (Nat.le_refl _) a cap ds hlen w hr ?_)
  rcases Nat.eq_zero_or_pos ds.length with h0 | h0
  · exact .inl ⟨a, cap, by rw [h0], List.eq_nil_of_length_eq_zero h0⟩
  · obtain ⟨b, off, rfl, hb, hc⟩ := h3 h0
    exact .inr ⟨b, off, cap, rfl, hb, fun j hj => hc j _ (by rw [List.getElem?_map, List.getElem?_eq_getElem hj]; simp)⟩

end Go.Proofs.YthjmpiekjfnoiaaGreatDoor
