/-
  The walk of the document's own Order, by insertion.
-/
import Derived.Test.YthjmpiekjfnoiaaW13g
import Derived.Test.YthjmpiekjfnoiaaM13d
import Derived.Deep.RegionHeld3
namespace Go.Proofs.Ythjmpiekjfnoiaa
open Go.RowKit

theorem stepAppI {ops : Array Oper} {o : Oper} {a : Act} {K : Act → World → Prop} {Q : Exit → Act → World → Prop} {E : Prop} {w : World} (hgd : o.guard = none) (s x : Operand)
    (ho : o.op = .call { callee := .builtin .append, args := #[s, x], argTypes := #[22, 22] }) (base : Nat) (v : Value) (l : List Int) (hs : a.eval s = v) (hown : OwI w base v l)
    (ad : Addr) (m c : Nat) (new : List Int) (hx : a.eval x = .slice (some ad) m c) (hl : new.length = m) (hnews : ∀ j y, new[j]? = some y → w.cell? (ad.add j) = some (.int .i64 y)) (hroom : (l.length + m) * 8 ≤ 140737488355328) (hbase : base ≤ w.heap.size)
    (h : ∀ v' w', OwI w' base v' (l ++ new) → Below base w w' → w.grownBy w' v.ownBlock → K (a.put o.dst v') w') : if Region.wanted o (yielded ops a.tmps) = true then Oper.wp Try.prog o a w K Q else E := by
  have hw : Region.wanted o (yielded ops a.tmps) = true := by simp [Region.wanted, hgd]
  rw [if_pos hw]
  obtain ⟨i, hi, hz, h2, h3⟩ := elInt.info
  have h4 : (Value.int .i64 0).cells.size = 1 := by rw [elInt.cells]; rfl
  have hown' : w.ownsRow base 3 1 v l.length (l.map (Value.int .i64)) := by have := hown; unfold OwI Ow at this; rwa [List.length_map] at this
  refine wp_append_own w s x _ ho base 3 i _ 1 8 elInt.under hi hz h2 h3 h4 (by decide) v l.length _ hs hown' ad m c (new.map (Value.int .i64)) hx (by simp [hl]) ?_ ?_ (by simp only [maxLen]; omega) hroom hbase (fun v' w' q1 q2 _ => h v' w' ?_ (own_grown hown' q2 hbase) q2)
  · intro j u hu
    rw [List.getElem?_map] at hu
    cases hn : new[j]? with
    | none => rw [hn] at hu; simp at hu
    | some y => rw [hn] at hu; simp at hu; subst hu; exact hnews j y hn
  · intro u hu
    obtain ⟨y, _, rfl⟩ := List.mem_map.1 hu
    rfl
  · unfold OwI Ow
    rw [List.map_append]
    rw [List.length_append, List.length_map, List.length_map, hl]
    exact q1

theorem stepAppN {ops : Array Oper} {o : Oper} {a : Act} {K : Act → World → Prop} {Q : Exit → Act → World → Prop} {E : Prop} {w : World} (hgd : o.guard = none) (s x : Operand)
    (ho : o.op = .call { callee := .builtin .append, args := #[s, x], argTypes := #[22, 22] }) (base : Nat) (v : Value) (l : List Int) (hs : a.eval s = v) (hown : OwI w base v l)
    (hx : a.eval x = .slice none 0 0)
    (h : K (a.put o.dst v) w) : if Region.wanted o (yielded ops a.tmps) = true then Oper.wp Try.prog o a w K Q else E := by
  have hw : Region.wanted o (yielded ops a.tmps) = true := by simp [Region.wanted, hgd]
  rw [if_pos hw]
  obtain ⟨i, hi, _, _, _⟩ := elInt.info
  have hown' : w.ownsRow base 3 1 v l.length (l.map (Value.int .i64)) := by have := hown; unfold OwI Ow at this; rwa [List.length_map] at this
  have hrun := run_append_owned_none (P := Try.prog) (w := w) base _ o.type 3 i 1 elInt.under hi v l.length _ hown'
  unfold Oper.wp
  simp [execOp, ho, resolve, invoke, builtin, hs, hx, hrun, Result.andThen]
  exact h

theorem addr_add (b off j : Nat) : (⟨b, off, none⟩ : Addr).add j = ⟨b, off + j, none⟩ := by unfold Addr.add; split <;> simp_all

theorem newsAt {wr w : World} {b off : Nat} {L : List Int} (hb : b < wr.heap.size) (hc : ∀ j x, L[j]? = some x → wr.cell? ⟨b, off + j, none⟩ = some (.int .i64 x)) (h : Below wr.heap.size wr w ∧ wr.heap.size ≤ w.heap.size) (n : Nat) :
    (∀ j y, (L.take n)[j]? = some y → w.cell? ((⟨b, off, none⟩ : Addr).add j) = some (.int .i64 y)) ∧ (∀ j y, (L.drop n)[j]? = some y → w.cell? ((⟨b, off + n, none⟩ : Addr).add j) = some (.int .i64 y)) := by
  refine ⟨fun j y hy => ?_, fun j y hy => ?_⟩
  · rw [addr_add, h.1.cell (p := ⟨b, off + j, none⟩) hb]
    by_cases hj : j < n
    · rw [List.getElem?_take_of_lt hj] at hy; exact hc j y hy
    · rw [List.getElem?_take_eq_none (by omega)] at hy; simp at hy
  · rw [addr_add, h.1.cell (p := ⟨b, off + n + j, none⟩) hb]
    rw [List.getElem?_drop] at hy
    rw [Nat.add_assoc]; exact hc _ y hy
theorem keepT {B : Nat} {w0 w1 w2 : World} (h : Below B w0 w1 ∧ B ≤ w1.heap.size) (hb : Below B w1 w2) : Below B w0 w2 ∧ B ≤ w2.heap.size := ⟨h.1.trans hb, Nat.le_trans h.2 hb.size⟩
theorem keepTA {B : Nat} {w0 w1 : World} (h : Below B w0 w1 ∧ B ≤ w1.heap.size) (o : Obj) : Below B w0 (w1.alloc o) ∧ B ≤ (w1.alloc o).heap.size := ⟨h.1.alloc h.2 o, Nat.le_trans h.2 (by simp)⟩
theorem startS {B : Nat} {w0 w1 : World} (h : Below B w0 w1) (hB : B ≤ w1.heap.size) (n : Nat) : Below B w0 (w1.drewN n).drew ∧ B ≤ (w1.drewN n).drew.heap.size := ⟨(bDrewN h n).drew, hB⟩
theorem startSA {B : Nat} {w0 w1 : World} (h : Below B w0 w1) (hB : B ≤ w1.heap.size) (n : Nat) (o : Obj) : Below B w0 ((w1.drewN n).alloc o) ∧ B ≤ ((w1.drewN n).alloc o).heap.size := keepTA ⟨bDrewN h n, hB⟩ o
theorem cellKept {W w' : World} {p : Addr} {v : Value} (hg : W.grownBy w' none) (hc : W.cell? p = some v) : w'.cell? p = some v := by
  rw [← hc]; exact World.cell?_of_block (w := W) (hg.block p.block (World.block_lt_of_cell? W p hc) (by simp))
theorem one_new {w : World} {g : Nat} {x : Int} (h : w.cell? ⟨g, 0, none⟩ = some (.int .i64 x)) : ∀ j y, [x][j]? = some y → w.cell? ((⟨g, 0, none⟩ : Addr).add j) = some (.int .i64 y) := by
  intro j y hy
  cases j with
  | zero => simp at hy; subst hy; simpa [Addr.add] using h
  | succ j => simp at hy

set_option maxRecDepth 100000 in
set_option maxHeartbeats 1600000 in
theorem refOrder_any (s : ByteArray) (w : World) (hn : s.size ≤ 1000000) :
    Calls Try.prog 29 #[.string s] w fun e w' => ∃ v o, e = .returned v ∧ Ord (cycf s) s.size s.size o ∧ OwI w' w.heap.size v (outL s.size o) ∧ Below w.heap.size w w' := by
  go_enter Try.func29, Try.ntmps29
  go_wp2_with fail
  go_loopg [3, 4, 5] s.size (fun gh s3 s4 _s5 wr => ∃ (k : Nat) (L : List Int), k ≤ s.size ∧ gh = s.size - k ∧ s4 = .int .i64 k ∧ OwI wr w.heap.size s3 L ∧ Hid (L.length = k ∧ (∀ x ∈ L, 0 ≤ x ∧ x < (k : Int)) ∧ L.Pairwise (bef (cycf s) s.size)) ∧ (k = 0 → s3 = .slice none 0 0) ∧ Below w.heap.size w wr)
  case atStart => exact ⟨0, [], Nat.zero_le _, rfl, rfl, OwI.nil _ _, hid ⟨rfl, fun x hx => by simp at hx, List.Pairwise.nil⟩, fun _ => rfl, Below.refl _ _⟩
  case round =>
    obtain ⟨k, L, hk, hg, rfl, hown, HL, hnil, hbel⟩ := hrel
    have HG := hid hg
    have HNIL := hid hnil
    clear hg hnil
    by_cases hlt : k < s.size
    · obtain ⟨va, cap, rfl, hca, hma, hA⟩ := hown.rd.open
      rw [HL.out.1] at hca hA ⊢
      unfold maxLen at hma
      have HA := hid hA
      have HOWN := hid hown
      clear hA hown
      obtain ⟨wo, rfl⟩ : ∃ wo : World, wo = wr := ⟨_, rfl⟩
      go_wp2_with fail
      go_loopg [5] k (fun gh s5 wr => ∃ j : Nat, j ≤ k ∧ gh = j ∧ s5 = .int .i64 j ∧ Hid (∀ x ∈ L.drop j, bef (cycf s) s.size (k : Int) x) ∧ Below wo.heap.size wo wr)
      case atStart => exact ⟨k, Nat.le_refl _, rfl, rfl, hid (fun x hx => by rw [List.drop_of_length_le (by rw [HL.out.1]; exact Nat.le_refl _)] at hx; simp at hx), Below.refl _ _⟩
      case round =>
        obtain ⟨j, hj, hg, rfl, HD, hbel1⟩ := hrel
        have HG2 := hid hg
        clear hg
        rcases Nat.eq_zero_or_pos j with h0 | h0
        · have t1 : decide (0 < j) = false := decide_eq_false (by omega)
          have HT := hid (show ∀ x ∈ L.take j, bef (cycf s) s.size x (k : Int) from fun x hx => by rw [h0] at hx; simp at hx)
          have HJ0 := hid h0
          clear h0
          go_wp2_with fail
          go_quiet (fail)
          go_wp2_with fail
          rcases Nat.eq_zero_or_pos k with hk0 | hk0
          · have hsl := HNIL.out hk0
            rw [Value.slice.injEq] at hsl
            obtain ⟨rfl, _, rfl⟩ := hsl
            have hL0 : L = [] := List.eq_nil_of_length_eq_zero (by rw [HL.out.1]; exact hk0)
            subst hk0
            have hj0 : j = 0 := HJ0.out
            subst hj0
            go_region_held3 (fun w' => Below wo.heap.size wo w' ∧ wo.heap.size ≤ w'.heap.size)
              (first
                | with_reducible assumption
                | with_reducible exact keepTA (by assumption) _
                | with_reducible exact keepT (by assumption) (by assumption)
                | with_reducible exact startS hbel1 hbel1.size _
                | with_reducible exact startSA hbel1 hbel1.size _ _)
              (first
                | (refine stepAppN rfl _ _ rfl wo.heap.size (.slice none 0 0) [] rfl (OwI.nil _ _) rfl ?_)
                | (refine stepAppI rfl _ _ rfl wo.heap.size _ [] rfl (OwI.nil _ _) ⟨_, 0, none⟩ 1 1 [((0 : Nat) : Int)] rfl rfl ?_ ?_ ?_ ?_; (first | exact one_new (newc _ _ _) | exact one_new (cellKept (by assumption) (by exact newc _ _ _))); (simp only [List.length_nil]; omega); (exact (show Below wo.heap.size wo _ ∧ wo.heap.size ≤ _ by assumption).2); intro v2 w2 hown2 hB2 hg2)
                | (refine stepAppN rfl _ _ rfl wo.heap.size _ ([] ++ [((0 : Nat) : Int)]) rfl (by assumption) rfl ?_))
            all_goals go_wp2_with fail
            all_goals
              have hg := HG.out
              go_roundg (s.size - (0 + 1))
              case measure => omega
              case rel =>
                have hS : Below wo.heap.size wo _ ∧ wo.heap.size ≤ _ := (show Below wo.heap.size wo w2 ∧ wo.heap.size ≤ w2.heap.size by assumption)
                refine ⟨0 + 1, [((0 : Nat) : Int)], by omega, rfl, by go_num, ?_, hid ⟨rfl, fun x hx => by simp at hx; omega, List.pairwise_singleton _ _⟩, fun e => by omega, hbel.trans (hS.1.mono hbel.size)⟩
                exact Ow.base hown2 hbel.size
          · obtain ⟨b, off, rfl, hbl, hc⟩ := HA.out hk0
            have HC := hid hc
            have HLL := hid HL.out.1
            clear hc
            have hjk1 : (j : Int) ≤ (k : Int) := by omega
            have hjc : j ≤ cap := by omega
            have hcj : ¬ cap = j := by have := HJ0.out; omega
            go_region_held3 (fun w' => Below wo.heap.size wo w' ∧ wo.heap.size ≤ w'.heap.size)
              (first
                | with_reducible assumption
                | with_reducible exact keepTA (by assumption) _
                | with_reducible exact keepT (by assumption) (by assumption)
                | with_reducible exact startS hbel1 hbel1.size _
                | with_reducible exact startSA hbel1 hbel1.size _ _)
              (first
                | (refine stepAppI rfl _ _ rfl wo.heap.size (.slice none 0 0) [] rfl (OwI.nil _ _) ⟨b, off, none⟩ j cap (L.take j) rfl ?_ ?_ ?_ ?_ ?_; (rw [List.length_take, HLL.out]; omega); (exact (newsAt hbl HC.out (by assumption) j).1); (simp only [List.length_nil]; omega); (exact (show Below wo.heap.size wo _ ∧ wo.heap.size ≤ _ by assumption).2); intro v1 w1 hown1 hB1 hg1)
                | (refine stepAppI rfl _ _ rfl wo.heap.size _ ([] ++ L.take j) rfl (by first | assumption | exact OwI.alloc (by assumption) _) ⟨_, 0, none⟩ 1 1 [(k : Int)] rfl rfl ?_ ?_ ?_ ?_; (first | exact one_new (newc _ _ _) | exact one_new (cellKept (by assumption) (by exact newc _ _ _))); (simp only [List.length_append, List.length_nil, List.length_take]; omega); (exact (show Below wo.heap.size wo _ ∧ wo.heap.size ≤ _ by assumption).2); intro v2 w2 hown2 hB2 hg2)
                | (refine stepAppI rfl _ _ rfl wo.heap.size _ (([] ++ L.take j) ++ [(k : Int)]) rfl (by assumption) ⟨b, off + j, none⟩ (k - j) (cap - j) (L.drop j) rfl ?_ ?_ ?_ ?_ ?_; (rw [List.length_drop, HLL.out]); (exact (newsAt hbl HC.out (by assumption) j).2); (simp only [List.length_append, List.length_nil, List.length_take, List.length_cons]; omega); (exact (show Below wo.heap.size wo _ ∧ wo.heap.size ≤ _ by assumption).2); intro v3 w3 hown3 hB3 hg3))
            all_goals go_wp2_with fail
            all_goals
              have hg := HG.out
              go_roundg (s.size - (k + 1))
              case measure => omega
              case rel =>
                obtain ⟨q1, q2, q3⟩ := HL.out
                have hS : Below wo.heap.size wo _ ∧ wo.heap.size ≤ _ := (show Below wo.heap.size wo w3 ∧ wo.heap.size ≤ w3.heap.size by assumption)
                refine ⟨k + 1, insL L j k, by omega, rfl, by go_num, ?_, hid ⟨by rw [insL_length, q1], insL_rng q2, insL_sorted q3 HT.out HD.out⟩, fun e => by omega, hbel.trans (hS.1.mono hbel.size)⟩
                have e : ([] ++ L.take j ++ [(k : Int)]) ++ L.drop j = insL L j k := by simp [insL]
                rw [← e]
                exact Ow.base hown3 hbel.size
        · have t1 : decide (0 < j) = true := decide_eq_true h0
          obtain ⟨b, off, rfl, hbl, hc⟩ := HA.out (by omega)
          obtain ⟨h1, h2, h3⟩ := HL.out
          have hjl : j - 1 < L.length := by omega
          have hget : L[j - 1]? = some (L.getD (j - 1) 0) := by simp [List.getD, List.getElem?_eq_getElem hjl]
          have hrg := h2 _ (List.mem_of_getElem? hget)
          obtain ⟨y, hy⟩ : ∃ y : Nat, L.getD (j - 1) 0 = (y : Int) := ⟨(L.getD (j - 1) 0).toNat, by omega⟩
          have hyk : y < k := by omega
          have c1 := (hbel1.cell (p := ⟨b, off + (j - 1), none⟩) hbl).trans (hc (j - 1) _ hget)
          rw [hy] at c1
          have HY := hid hy
          have s1 : IntKind.i64.wrap ((j : Int) - 1) = (j : Int) - 1 := IntWalk.i64_in _ (by omega)
          have s2 : ((j : Int) - 1).toNat = j - 1 := by omega
          have s3 : (0 : Int) ≤ (j : Int) - 1 := by omega
          have s4 : (j : Int) - 1 < (k : Int) := by omega
          have s6 : (1 : Int) ≤ (j : Int) := by omega
          have s9 : (j : Int) ≤ (k : Int) := by omega
          obtain ⟨A, hA⟩ : ∃ A, A = mkS (rot s k) := ⟨_, rfl⟩
          obtain ⟨B, hB⟩ : ∃ B, B = mkS (rot s y) := ⟨_, rfl⟩
          have qa : ∀ W, Calls Try.prog 32 #[.string s, .int .i64 (k : Int)] W fun e w' => e = .returned (.string A) ∧ ∃ m, w' = W.drewN m := fun W => by rw [hA]; exact refTurnQ s k W hn (by omega)
          have qb : ∀ W, Calls Try.prog 32 #[.string s, .int .i64 (y : Int)] W fun e w' => e = .returned (.string B) ∧ ∃ m, w' = W.drewN m := fun W => by rw [hB]; exact refTurnQ s y W hn (by omega)
          have QA := hid qa
          have QB := hid qb
          have hAl : A.toList = rot s k := by rw [ByteArray.toList_eq, hA]; rfl
          have hBl : B.toList = rot s y := by rw [ByteArray.toList_eq, hB]; rfl
          have hiff : Op.bytesLess A.toList B.toList = true ↔ ltm (cycf s) s.size k y := by rw [hAl, hBl]; exact rot_less s hlt (by omega)
          have HIFF := hid hiff
          have HC := hid hc
          clear qa qb hAl hBl hiff hA hB hy hrg hget h1 h2 h3 hc
          by_cases hlm : Op.bytesLess A.toList B.toList = true
          · go_wp2_with fail
            go_quiet (first | (go_at_call_of 32 (Value.int .i64 (k : Int)); refine Calls.quiet_of (QA.out _)) | (go_at_call_of 32 (Value.int .i64 (y : Int)); refine Calls.quiet_of (QB.out _)))
            go_wp2_with fail
            have hg2 := HG2.out
            go_roundg (j - 1)
            case measure => omega
            case rel =>
              refine ⟨j - 1, by omega, rfl, congrArg _ (by omega), hid (fun x hx => ?_), bDrewN hbel1 _⟩
              rw [List.drop_eq_getElem_cons hjl, List.mem_cons] at hx
              rcases hx with rfl | hx
              · have e : L[j - 1] = (y : Int) := by rw [← HY.out]; simp [List.getD, List.getElem?_eq_getElem hjl]
                rw [e]
                exact .inl (by simpa using HIFF.out.1 hlm)
              · rw [show j - 1 + 1 = j by omega] at hx
                exact HD.out x hx
          · have hfl : Op.bytesLess A.toList B.toList = false := by simpa using hlm
            have HLL := hid HL.out.1
            have hjc : j ≤ cap := by omega
            have HT := hid (show ∀ x ∈ L.take j, bef (cycf s) s.size x (k : Int) from take_before (y := (y : Int)) HL.out.2.2 h0 (by simp [← HY.out, List.getD, List.getElem?_eq_getElem hjl]) (by
              rcases ltm_or (cycf s) y k s.size with p | p | p
              · exact .inl (by simpa using p)
              · exact .inr ⟨by simpa using p, by omega⟩
              · exact absurd (HIFF.out.2 p) hlm))
            go_wp2_with fail
            go_quiet (first | (go_at_call_of 32 (Value.int .i64 (k : Int)); refine Calls.quiet_of (QA.out _)) | (go_at_call_of 32 (Value.int .i64 (y : Int)); refine Calls.quiet_of (QB.out _)))
            clear hlm hfl c1 s1 s2 s3 s4 s6 hyk
            go_wp2_with fail
            obtain ⟨wq, hwq⟩ : ∃ wq : World, wq = wr := ⟨_, rfl⟩
            by_cases hcj : cap = j
            · obtain rfl : cap = j := hcj
              obtain rfl : k = cap := by omega
              go_region_held3 (fun w' => Below wo.heap.size wo w' ∧ wo.heap.size ≤ w'.heap.size)
                (first
                  | with_reducible assumption
                  | with_reducible exact keepTA (by assumption) _
                  | with_reducible exact keepT (by assumption) (by assumption)
                  | with_reducible exact startS hbel1 hbel1.size _
                  | with_reducible exact startSA hbel1 hbel1.size _ _)
                (first
                  | (refine stepAppI rfl _ _ rfl wo.heap.size (.slice none 0 0) [] rfl (OwI.nil _ _) ⟨b, off, none⟩ k k (L.take k) rfl ?_ ?_ ?_ ?_ ?_; (rw [List.length_take, HLL.out]; omega); (exact (newsAt hbl HC.out (by assumption) k).1); (simp only [List.length_nil]; omega); (exact (show Below wo.heap.size wo _ ∧ wo.heap.size ≤ _ by assumption).2); intro v1 w1 hown1 hB1 hg1)
                  | (refine stepAppI rfl _ _ rfl wo.heap.size _ ([] ++ L.take k) rfl (by first | assumption | exact OwI.alloc (by assumption) _) ⟨_, 0, none⟩ 1 1 [(k : Int)] rfl rfl ?_ ?_ ?_ ?_; (first | exact one_new (newc _ _ _) | exact one_new (cellKept (by assumption) (by exact newc _ _ _))); (simp only [List.length_append, List.length_nil, List.length_take]; omega); (exact (show Below wo.heap.size wo _ ∧ wo.heap.size ≤ _ by assumption).2); intro v2 w2 hown2 hB2 hg2)
                  | (refine stepAppI rfl _ _ rfl wo.heap.size _ (([] ++ L.take k) ++ [(k : Int)]) rfl (by assumption) ⟨b, off, none⟩ 0 0 (L.drop k) rfl ?_ ?_ ?_ ?_ ?_; (rw [List.length_drop, HLL.out]; omega); (intro j y hy; rw [List.drop_of_length_le (by rw [HLL.out]; exact Nat.le_refl _)] at hy; simp at hy); (simp only [List.length_append, List.length_nil, List.length_take, List.length_cons]; omega); (exact (show Below wo.heap.size wo _ ∧ wo.heap.size ≤ _ by assumption).2); intro v3 w3 hown3 hB3 hg3))
              all_goals go_wp2_with fail
              all_goals
                have hg := HG.out
                go_roundg (s.size - (k + 1))
                case measure => omega
                case rel =>
                  obtain ⟨q1, q2, q3⟩ := HL.out
                  have hS : Below wo.heap.size wo _ ∧ wo.heap.size ≤ _ := (show Below wo.heap.size wo w3 ∧ wo.heap.size ≤ w3.heap.size by assumption)
                  refine ⟨k + 1, insL L k k, by omega, rfl, by go_num, ?_, hid ⟨by rw [insL_length, q1], insL_rng q2, insL_sorted q3 HT.out HD.out⟩, fun e => by omega, hbel.trans (hS.1.mono hbel.size)⟩
                  have e : ([] ++ L.take k ++ [(k : Int)]) ++ L.drop k = insL L k k := by simp [insL]
                  rw [← e]
                  exact Ow.base hown3 hbel.size
            · go_region_held3 (fun w' => Below wo.heap.size wo w' ∧ wo.heap.size ≤ w'.heap.size)
                (first
                  | with_reducible assumption
                  | with_reducible exact keepTA (by assumption) _
                  | with_reducible exact keepT (by assumption) (by assumption)
                  | with_reducible exact startS hbel1 hbel1.size _
                  | with_reducible exact startSA hbel1 hbel1.size _ _)
                (first
                  | (refine stepAppI rfl _ _ rfl wo.heap.size (.slice none 0 0) [] rfl (OwI.nil _ _) ⟨b, off, none⟩ j cap (L.take j) rfl ?_ ?_ ?_ ?_ ?_; (rw [List.length_take, HLL.out]; omega); (exact (newsAt hbl HC.out (by assumption) j).1); (simp only [List.length_nil]; omega); (exact (show Below wo.heap.size wo _ ∧ wo.heap.size ≤ _ by assumption).2); intro v1 w1 hown1 hB1 hg1)
                  | (refine stepAppI rfl _ _ rfl wo.heap.size _ ([] ++ L.take j) rfl (by first | assumption | exact OwI.alloc (by assumption) _) ⟨_, 0, none⟩ 1 1 [(k : Int)] rfl rfl ?_ ?_ ?_ ?_; (first | exact one_new (newc _ _ _) | exact one_new (cellKept (by assumption) (by exact newc _ _ _))); (simp only [List.length_append, List.length_nil, List.length_take]; omega); (exact (show Below wo.heap.size wo _ ∧ wo.heap.size ≤ _ by assumption).2); intro v2 w2 hown2 hB2 hg2)
                  | (refine stepAppI rfl _ _ rfl wo.heap.size _ (([] ++ L.take j) ++ [(k : Int)]) rfl (by assumption) ⟨b, off + j, none⟩ (k - j) (cap - j) (L.drop j) rfl ?_ ?_ ?_ ?_ ?_; (rw [List.length_drop, HLL.out]); (exact (newsAt hbl HC.out (by assumption) j).2); (simp only [List.length_append, List.length_nil, List.length_take, List.length_cons]; omega); (exact (show Below wo.heap.size wo _ ∧ wo.heap.size ≤ _ by assumption).2); intro v3 w3 hown3 hB3 hg3))
              all_goals go_wp2_with fail
              all_goals
                have hg := HG.out
                go_roundg (s.size - (k + 1))
                case measure => omega
                case rel =>
                  obtain ⟨q1, q2, q3⟩ := HL.out
                  have hS : Below wo.heap.size wo _ ∧ wo.heap.size ≤ _ := (show Below wo.heap.size wo w3 ∧ wo.heap.size ≤ w3.heap.size by assumption)
                  refine ⟨k + 1, insL L j k, by omega, rfl, by go_num, ?_, hid ⟨by rw [insL_length, q1], insL_rng q2, insL_sorted q3 HT.out HD.out⟩, fun e => by omega, hbel.trans (hS.1.mono hbel.size)⟩
                  have e : ([] ++ L.take j ++ [(k : Int)]) ++ L.drop j = insL L j k := by simp [insL]
                  rw [← e]
                  exact Ow.base hown3 hbel.size
    · have hke : k = s.size := by omega
      subst hke
      go_wp2_with fail
      go_ret
      obtain ⟨h1, h2, h3⟩ := HL.out
      refine ⟨_, _, rfl, ord_of_list h1 h2 h3, ?_, hbel⟩
      have e := outL_of L
      rw [h1] at e
      rw [e]; exact hown

end Go.Proofs.Ythjmpiekjfnoiaa
