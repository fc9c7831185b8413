/-
  The walk of the statement StreamNone.
-/
import Derived.Test.YtpgmbhpbgkljdaaGreatDoorLaw17nZ
set_option linter.unusedVariables false
set_option linter.unusedSimpArgs false
namespace Go.Proofs.YtpgmbhpbgkljdaaGreatDoor
open Go.RowKit Go Go.Shelf

set_option maxRecDepth 100000 in
set_option maxHeartbeats 3200000 in
theorem streamNone_any (s : ByteArray) (v : Value) (raw : List (Int × Int)) (t : ByteArray) (level other : Int) (w : World) (hE : iF w) (_hs : s.size ≤ maxLen) (hr : RdP w v raw) (hwf : WfP raw) (_ht : t.size ≤ maxLen) (hl1 : -9223372036854775808 ≤ level) (hl2 : level ≤ 9223372036854775807) (ho1 : -9223372036854775808 ≤ other) (ho2 : other ≤ 9223372036854775807) :
    Calls Tryz.prog 4 #[.string s, v, .string t, .int .i64 level, .int .i64 other] w fun e w' => e = .returned (.bool true) ∧ Below w.heap.size w w' := by
  obtain ⟨qa, Ra, ra1, ra2, ma, ma', pka⟩ := lev_any level hl1 hl2
  obtain ⟨qb, Rb, rb1, rb2, mb, mb', pkb⟩ := lev_any other ho1 ho2
  obtain ⟨D, hD⟩ : ∃ D, D = other.tdiv 9 := ⟨_, rfl⟩
  have hDt := tdiv_bd other 9 (by decide) ho1 ho2
  rw [show ((9 : Nat) : Int) = 9 from rfl, ← hD] at hDt
  have hDb : -9223372036854775808 ≤ D ∧ D ≤ 9223372036854775807 := ⟨hDt.1, hDt.2.1⟩
  have mD := hDt.2.2
  clear hDt
  obtain ⟨qc, Rc, rc1, rc2, mc, mc', pkc⟩ := lev_any D hDb.1 hDb.2
  have hD' := hD.symm
  clear hD
  go_enter Tryz.func4, Tryz.ntmps4
  go_wp2_with fail
  refine (awake17_any _ hE).mono ?_
  rintro e w1 ⟨rfl, h1⟩
  have hE1 := hE.below h1
  have hr1 := hr.below h1
  clear hr hE
  go_wp2_with fail
  refine (texts_any s v raw _ hr1 hwf).mono ?_
  rintro e w2 ⟨u, x, rfl, hx, hx5, hxf, h2⟩
  have hE2 := hE1.below h2
  have h02 := bV h1 h2
  clear h1 h2 hE1 hr1 hwf
  go_wp2_with fail
  refine (texts_any t (.slice none 0 0) [] _ (RdP.nil _) WfP.nil).mono ?_
  rintro e w3 ⟨u', y, rfl, hy, hy5, hyf, h3⟩
  have hE3 := hE2.below h3
  have hx3 := hx.below h3
  have h03 := bV h02 h3
  clear h02 h3 hE2 hx
  go_wp2_with fail
  refine (pka _).mono ?_
  rintro e w' ⟨rfl, rfl⟩
  go_wp2_with fail
  refine (write_fine Ra u x _ hx3 hx5 hxf ra1 ra2).mono ?_
  rintro e w4 ⟨rfl, oa, h4⟩
  have hE4 := hE3.below h4
  have hx4 := hx3.below h4
  have hy4 := hy.below h4
  have h04 := bV h03 h4
  have hsa := arcS_size oa
  obtain ⟨A, hA⟩ : ∃ A, A = arcS [(Ra, x)] := ⟨_, rfl⟩
  rw [← hA] at hsa ⊢
  have HA := hid hA
  clear hA
  clear h03 h4 hE3 hx3 hy
  go_wp2_with fail
  refine (pkb _).mono ?_
  rintro e w' ⟨rfl, rfl⟩
  go_wp2_with fail
  refine (write_fine Rb u' y _ hy4 hy5 hyf rb1 rb2).mono ?_
  rintro e w5 ⟨rfl, ob, h5⟩
  have hE5 := hE4.below h5
  have hx5' := hx4.below h5
  have hy5' := hy4.below h5
  have h05 := bV h04 h5
  have hsb := arcS_size ob
  obtain ⟨Bb, hB⟩ : ∃ Bb, Bb = arcS [(Rb, y)] := ⟨_, rfl⟩
  rw [← hB] at hsb ⊢
  have HB := hid hB
  clear hB
  clear h04 h5 hE4 hx4 hy4
  go_wp2_with fail
  with_reducible refine (pkc _).mono ?_
  rintro e w' ⟨rfl, rfl⟩
  go_wp2_with fail
  refine (write_fine Rc (.slice none 0 0) [] _ (RdT.nil _) (by decide) (fun u hu => by simp at hu) rc1 rc2).mono ?_
  rintro e w6 ⟨rfl, oc, h6⟩
  have hE6 := hE5.below h6
  have hx6 := hx5'.below h6
  have hy6 := hy5'.below h6
  have h06 := bV h05 h6
  have hsc := arcS_none Rc
  obtain ⟨O, hO⟩ : ∃ O, O = arcS [(Rc, [])] := ⟨_, rfl⟩
  rw [← hO] at hsc ⊢
  have HO := hid hO
  clear hO
  clear h05 h6 hE5 hx5' hy5'
  go_wp2_with fail
  refine (write_fine 9 u x _ hx6 hx5 hxf (by decide) (by decide)).mono ?_
  rintro e w7 ⟨rfl, og, h7⟩
  have hE7 := hE6.below h7
  have hx7 := hx6.below h7
  have hy7 := hy6.below h7
  have h07 := bV h06 h7
  have hsg := arcS_size og
  obtain ⟨G, hG⟩ : ∃ G, G = arcS [(9, x)] := ⟨_, rfl⟩
  rw [← hG] at hsg ⊢
  have HG := hid hG
  clear hG
  clear h06 h7 hE6 hx6 hy6
  have ea : (allT [(Ra, x)]).length = x.length := by unfold allT; simp
  have eb : (allT [(Rb, y)]).length = y.length := by unfold allT; simp
  have eg : (allT [(9, x)]).length = x.length := by unfold allT; simp
  rw [ea, List.length_singleton] at hsa
  rw [eb, List.length_singleton] at hsb
  rw [eg, List.length_singleton] at hsg
  have hcx := catT_size hxf
  have hcy := catT_size hyf
  clear ea eb eg
  obtain ⟨C1, hC1⟩ : ∃ C1, C1 = O ++ A := ⟨_, rfl⟩
  obtain ⟨C2, hC2⟩ : ∃ C2, C2 = C1 ++ O := ⟨_, rfl⟩
  obtain ⟨C3, hC3⟩ : ∃ C3, C3 = C2 ++ O := ⟨_, rfl⟩
  obtain ⟨C4, hC4⟩ : ∃ C4, C4 = C3 ++ Bb := ⟨_, rfl⟩
  obtain ⟨C5, hC5⟩ : ∃ C5, C5 = C4 ++ O := ⟨_, rfl⟩
  obtain ⟨H, hH⟩ : ∃ H, H = G ++ Bb := ⟨_, rfl⟩
  have s1 : C1.size = O.size + A.size := by rw [hC1, ByteArray.size_append]
  have s2 : C2.size = C1.size + O.size := by rw [hC2, ByteArray.size_append]
  have s3 : C3.size = C2.size + O.size := by rw [hC3, ByteArray.size_append]
  have s4 : C4.size = C3.size + Bb.size := by rw [hC4, ByteArray.size_append]
  have s5 : C5.size = C4.size + O.size := by rw [hC5, ByteArray.size_append]
  have s6 : H.size = G.size + Bb.size := by rw [hH, ByteArray.size_append]
  have b1 : C1.size ≤ 20000 := by omega
  have b2 : C2.size ≤ 20000 := by omega
  have b3 : C3.size ≤ 20000 := by omega
  have b4 : C4.size ≤ 40000 := by omega
  have b5 : C5.size ≤ 40000 := by omega
  have b6 : H.size ≤ 40000 := by omega
  have x1 : ¬ 9223372036854775807 < O.size + A.size := by omega
  have x2 : ¬ 9223372036854775807 < C1.size + O.size := by omega
  have x3 : ¬ 9223372036854775807 < C2.size + O.size := by omega
  have x4 : ¬ 9223372036854775807 < C3.size + Bb.size := by omega
  have x5 : ¬ 9223372036854775807 < C4.size + O.size := by omega
  have x6 : ¬ 9223372036854775807 < G.size + Bb.size := by omega
  have hr5 : ∀ W, iF W → Calls Tryz.prog 19 #[.string C5] W fun e w' => e = .returned (.tuple #[.string (catT (x ++ y)), .int .i64 0]) ∧ Below W.heap.size W w' := fun W h => by
    have e5 : C5 = arcS ([(Rc, [])] ++ [(Ra, x)] ++ [(Rc, [])] ++ [(Rc, [])] ++ [(Rb, y)] ++ [(Rc, [])]) := by
      rw [← arcS_join, ← arcS_join, ← arcS_join, ← arcS_join, ← arcS_join, ← HO.out, ← HA.out, ← HB.out, ← hC1, ← hC2, ← hC3, ← hC4, ← hC5]
    have k := read_arc (l := [(Rc, [])] ++ [(Ra, x)] ++ [(Rc, [])] ++ [(Rc, [])] ++ [(Rb, y)] ++ [(Rc, [])]) (by simp) (okA_append (okA_append (okA_append (okA_append (okA_append oc oa) oc) oc) ob) oc) (by rw [← e5]; omega) W h
    rw [← e5] at k
    have et : allT ([(Rc, ([] : List ByteArray))] ++ [(Ra, x)] ++ [(Rc, [])] ++ [(Rc, [])] ++ [(Rb, y)] ++ [(Rc, [])]) = x ++ y := by unfold allT; simp
    rw [et] at k
    exact k
  have hrH : ∀ W, iF W → Calls Tryz.prog 19 #[.string H] W fun e w' => e = .returned (.tuple #[.string (catT (x ++ y)), .int .i64 0]) ∧ Below W.heap.size W w' := fun W h => by
    have e5 : H = arcS ([(9, x)] ++ [(Rb, y)]) := by rw [← arcS_join, ← HG.out, ← HB.out, ← hH]
    have k := read_arc (l := [(9, x)] ++ [(Rb, y)]) (by simp) (okA_append og ob) (by rw [← e5]; omega) W h
    rw [← e5] at k
    have et : allT ([(9, x)] ++ [(Rb, y)]) = x ++ y := by unfold allT; simp
    rw [et] at k
    exact k
  have hm2 : ∀ W, iF W → Calls Tryz.prog 22 #[.string C2] W fun e w' => ∃ v, e = .returned (.tuple #[v, .int .i64 0]) ∧ RdI w' v (x.map (fun _ => 40 * (Ra : Int))) ∧ Below W.heap.size W w' := fun W h => by
    have e5 : C2 = arcS ([(Rc, [])] ++ [(Ra, x)] ++ [(Rc, [])]) := by rw [← arcS_join, ← arcS_join, ← HO.out, ← HA.out, ← hC1, ← hC2]
    have k := rooms_arc (l := [(Rc, [])] ++ [(Ra, x)] ++ [(Rc, [])]) (by simp) (okA_append (okA_append oc oa) oc) (by rw [← e5]; omega) W h
    rw [← e5] at k
    have et : (([(Rc, ([] : List ByteArray))] ++ [(Ra, x)] ++ [(Rc, [])]).map (fun (p : Nat × List ByteArray) => p.2.map (fun _ => 40 * (p.1 : Int)))).flatten = x.map (fun _ => 40 * (Ra : Int)) := by simp
    rw [et] at k
    exact k
  have c1 := hC1.symm
  have c2 := hC2.symm
  have c3 := hC3.symm
  have c4 := hC4.symm
  have c5 := hC5.symm
  have c6 := hH.symm
  obtain ⟨J, hJ⟩ : ∃ J, J = catT (x ++ y) := ⟨_, rfl⟩
  rw [← hJ] at hr5 hrH
  have hJe : catT x ++ catT y = J := by rw [hJ, catT_join]
  have hjx := fun W h => joined17_any u x W h (by omega)
  have hjy := fun W h => joined17_any u' y W h (by omega)
  obtain ⟨jx, hjx'⟩ : ∃ jx, jx = catT x := ⟨_, rfl⟩
  obtain ⟨jy, hjy'⟩ : ∃ jy, jy = catT y := ⟨_, rfl⟩
  rw [← hjx'] at hjx hJe hcx
  rw [← hjy'] at hjy hJe hcy
  have x7 : ¬ 9223372036854775807 < jx.size + jy.size := by omega
  have hJJ : (J.toList == J.toList) = true := by simp
  clear hC1 hC2 hC3 hC4 hC5 hH s1 s2 s3 s4 s5 s6 hJ hjx' hjy' oa ob oc og hsa hsb hsg hsc
  go_wp2_with fail
  refine (hr5 _ hE7).mono ?_
  rintro e w8 ⟨rfl, h8⟩
  have hE8 := hE7.below h8
  have hx8 := hx7.below h8
  have hy8 := hy7.below h8
  have h08 := bV h07 h8
  clear h07 h8 hE7 hx7 hy7 hr5
  go_wp2_with fail
  refine (hrH _ hE8).mono ?_
  rintro e w9 ⟨rfl, h9⟩
  have hE9 := hE8.below h9
  have hx9 := hx8.below h9
  have hy9 := hy8.below h9
  have h09 := bV h08 h9
  clear h08 h9 hE8 hx8 hy8 hrH
  go_wp2_with fail
  refine (hm2 _ hE9).mono ?_
  rintro e w10 ⟨vr, rfl, hvr, h10⟩
  have hx10 := hx9.below h10
  have hy10 := hy9.below h10
  have h010 := bV h09 h10
  clear h09 h10 hE9 hx9 hy9 hm2
  obtain ⟨xa, xc, rfl, hxc1, hxc2, -⟩ := hx10.open
  obtain ⟨va, vc, rfl, hvc1, hvc2, hvA⟩ := hvr.open
  rw [List.length_map] at hvc1 hvA ⊢
  clear hvr
  obtain ⟨Q, hQ⟩ : ∃ Q : Nat, Q = 40 * Ra := ⟨_, rfl⟩
  have mQ : IntKind.i64.wrap (40 * (Ra : Int)) = (Q : Int) := by rw [show 40 * (Ra : Int) = (Q : Int) by omega]; exact nat_wI Q (by omega)
  have mQ' : 40 * (Ra : Int) = (Q : Int) := by omega
  have hget : ∀ k, k < x.length → (x.map (fun _ => 40 * (Ra : Int)))[k]? = some (Q : Int) := fun k hk => by
    rw [List.getElem?_map, List.getElem?_eq_getElem hk, Option.map_some, mQ']
  have hQQ : ((Q : Int) != (Q : Int)) = false := by simp
  have hxl : ((x.length : Int) != (x.length : Int)) = false := by simp
  clear hQ
  go_wp2_with fail
  go_loopg [28] x.length (fun g i wr => ∃ k : Nat, k ≤ x.length ∧ g = x.length - k ∧ i = .int .i64 k ∧ Below w10.heap.size w10 wr)
  case atStart => exact ⟨0, Nat.zero_le _, rfl, rfl, Below.refl _ _⟩
  case round =>
    obtain ⟨k, hk, hg, rfl, hbel⟩ := hrel
    have HG := hid hg
    clear hg
    by_cases hlt : k < x.length
    · have t1 : decide ((k : Int) < (x.length : Int)) = true := decide_eq_true (by omega)
      obtain ⟨b1, o1, rfl, hb1, hc1⟩ := hvA (by omega)
      have c1 : wr.cell? ⟨b1, o1 + k, none⟩ = some (.int .i64 (Q : Int)) := by rw [hbel.cell (p := ⟨b1, o1 + k, none⟩) hb1]; exact hc1 k _ (hget k hlt)
      clear hc1 hvA
      go_wp2_with fail
      go_quiet (first | (go_at_call 18; exact Calls.quiet_of_same ((pka _).mono fun _ _ h => ⟨h.1, h.2.symm⟩)))
      go_wp2_with fail
      have hg := HG.out
      go_roundg (x.length - (k + 1))
      case measure => omega
      case rel => exact ⟨k + 1, by omega, rfl, by go_num, below_drewN hbel _⟩
    · have t1 : decide ((k : Int) < (x.length : Int)) = false := decide_eq_false (by omega)
      have hxr := hx10.below hbel
      have hyr := hy10.below hbel
      go_wp2_with fail
      refine (hjx _ hxr).mono ?_
      rintro e w' ⟨rfl, rfl⟩
      go_wp2_with fail
      refine (hjy _ hyr).mono ?_
      rintro e w' ⟨rfl, rfl⟩
      go_wp2_with fail
      go_ret
      exact ⟨rfl, bV h010 hbel⟩

end Go.Proofs.YtpgmbhpbgkljdaaGreatDoor
