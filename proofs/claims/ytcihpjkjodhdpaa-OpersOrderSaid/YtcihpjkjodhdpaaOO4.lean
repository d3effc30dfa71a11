/- A part of the proof. -/
import Derived.Test.YtcihpjkjodhdpaaOO3
import Derived.Deep.Slices
import Derived.ChangeSlices
import Derived.WideShapes
namespace Go.Proofs.Ytcihpjkjodhdpaa.X
open Go.RowKit Go.Proofs.YtcihpjkjodhdpaaW.PrintWords Go.Proofs.YtcihpjkjodhdpaaW.PrintLast Go.Proofs.YtcihpjkjodhdpaaW.PrintMore
attribute [local go_sem] max2_int min2_int max_two min_two
set_option linter.unusedVariables false
set_option linter.unusedSimpArgs false
mutual
def tailracelaw13_OpersOrder.j0 : Nat → List (S36) → List (S36) → Int → Bool → Int → Int → Int → Int → List Int → Option (Bool)
  | 0, _, _, _, _, _, _, _, _, _ => none
  | k + 1, x1, x2, x3, x23, x139000, x139001, x139002, x139003, x139004 => if x23 = true then ((tailracelaw13_works.f).bind fun t139 => (some t139)) else (tailracelaw13_OpersOrder.l0 k x1 x2 x3 ([] : List (S36)) (wrap64 ((x1.length : Int) - 1)) x139000 x139001 x139002 x139003 x139004)
def tailracelaw13_OpersOrder.l0 : Nat → List (S36) → List (S36) → Int → List (S36) → Int → Int → Int → Int → Int → List Int → Option (Bool)
  | 0, _, _, _, _, _, _, _, _, _, _ => none
  | k + 1, x1, x2, x3, x9, x10, x139000, x139001, x139002, x139003, x139004 => if x10 ≥ 0 then (if 0 ≤ x10 then (if x10 < (x1.length : Int) then (if x9.length < 8796093022208 then (tailracelaw13_OpersOrder.l0 k x1 x2 x3 (x9 ++ [(⟨(rd_T36 x1 x10).f0, (rd_T36 x1 x10).f1⟩ : S36)]) (wrap64 (x10 - 1)) x139000 x139001 x139002 x139003 x139004) else (none)) else (none)) else (none)) else (if (x1.length : Int) > 0 then (tailracelaw13_OpersOrder.j2 k x1 x2 x3 x9 0 (decide (x3 ≥ 0)) x139000 x139001 x139002 x139003 x139004) else (tailracelaw13_OpersOrder.j2 k x1 x2 x3 x9 0 false x139000 x139001 x139002 x139003 x139004))
def tailracelaw13_OpersOrder.j2 : Nat → List (S36) → List (S36) → Int → List (S36) → Int → Bool → Int → Int → Int → Int → List Int → Option (Bool)
  | 0, _, _, _, _, _, _, _, _, _, _, _ => none
  | k + 1, x1, x2, x3, x9, x11, x45, x139000, x139001, x139002, x139003, x139004 => if x45 = true then (if (wrap64 ((x1.length : Int) + 1)) = 0 then (none) else (tailracelaw13_OpersOrder.j3 k x1 x2 x9 (Int.tmod x3 (wrap64 ((x1.length : Int) + 1))) x139000 x139001 x139002 x139003 x139004)) else (tailracelaw13_OpersOrder.j3 k x1 x2 x9 x11 x139000 x139001 x139002 x139003 x139004)
def tailracelaw13_OpersOrder.j3 : Nat → List (S36) → List (S36) → List (S36) → Int → Int → Int → Int → Int → List Int → Option (Bool)
  | 0, _, _, _, _, _, _, _, _, _ => none
  | k + 1, x1, x2, x9, x11, x139000, x139001, x139002, x139003, x139004 => if x139000 = 1 then ((tailracelaw13_works.f).bind fun t144 => (some t144)) else (if x139000 = 4 then (tailracelaw13_OpersOrder.j4 k x1 x2 x9 x11 (x139000 == 4) x139000 x139001 x139002 x139003 x139004) else (tailracelaw13_OpersOrder.j4 k x1 x2 x9 x11 (x139000 == 6) x139000 x139001 x139002 x139003 x139004))
def tailracelaw13_OpersOrder.j5 : Nat → List (S36) → List (S36) → List (S36) → List (S36) → Int → Int → Int → Int → List Int → Option (Bool)
  | 0, _, _, _, _, _, _, _, _, _ => none
  | k + 1, x12, x13, x14, x15, x139000, x139001, x139002, x139003, x139004 => (tailraceref12_Alike.f k x12 x13).bind fun t193 => (if t193 = true then ((opers_Waits.f x139000).bind fun t194 => (if t194 = true then ((tailracelaw13_works.f).bind fun t195 => (some t195)) else ((value_Add2.f x14 x15).bind fun t196 => ((tailraceref12_Alike.f k x12 t196).bind fun t199 => (if t199 = true then ((tailracelaw13_works.f).bind fun t200 => (some t200)) else (some false)))))) else (some false))
def tailracelaw13_OpersOrder.j4 : Nat → List (S36) → List (S36) → List (S36) → Int → Bool → Int → Int → Int → Int → List Int → Option (Bool)
  | 0, _, _, _, _, _, _, _, _, _, _ => none
  | k + 1, x1, x2, x9, x11, x88, x139000, x139001, x139002, x139003, x139004 => if x88 = true then ((opers_Run2.f x139000 x139001 x139002 x139003 x139004 x1 x2).bind fun bt145 => ((opers_Run2.f x139000 x139001 x139002 x139003 x139004 x9 x2).bind fun bt149 => (if 0 ≤ x11 then (if x11 ≤ (x1.length : Int) then ((opers_Run2.f x139000 x139001 x139002 x139003 x139004 (x1.take (x11 : Int).toNat) x2).bind fun bt157 => ((opers_Run2.f x139000 x139001 x139002 x139003 x139004 (x1.drop (x11 : Int).toNat) ([] : List (S36))).bind fun bt165 => (tailracelaw13_OpersOrder.j5 k bt145.1 bt149.1 bt157.1 bt165.1 x139000 x139001 x139002 x139003 x139004))) else (none)) else (none)))) else ((opers_Run1.f x139000 x139001 x139002 x139003 x139004 x1).bind fun bt169 => ((opers_Run1.f x139000 x139001 x139002 x139003 x139004 x9).bind fun bt173 => (if 0 ≤ x11 then (if x11 ≤ (x1.length : Int) then ((opers_Run1.f x139000 x139001 x139002 x139003 x139004 (x1.take (x11 : Int).toNat)).bind fun bt181 => ((opers_Run1.f x139000 x139001 x139002 x139003 x139004 (x1.drop (x11 : Int).toNat)).bind fun bt189 => (tailracelaw13_OpersOrder.j5 k bt169.1 bt173.1 bt181.1 bt189.1 x139000 x139001 x139002 x139003 x139004))) else (none)) else (none))))
end
def tailracelaw13_OpersOrder.f (k : Nat) (a0_0 : Int) (a0_1 : Int) (a0_2 : Int) (a0_3 : Int) (l0_4 : List Int) (l1 : List (S36)) (l2 : List (S36)) (a3 : Int) : Option (Bool) := if (l1.length : Int) > 60 then (tailracelaw13_OpersOrder.j0 k l1 l2 a3 true a0_0 a0_1 a0_2 a0_3 l0_4) else (tailracelaw13_OpersOrder.j0 k l1 l2 a3 (decide ((l2.length : Int) > 60)) a0_0 a0_1 a0_2 a0_3 l0_4)
def tailracelaw13_OpersOrder.T15 : Bool × List (List Nat × List Nat) := (true, [([], []), ([], []), ([], []), ([1, 2], [1, 2]), ([3], [3]), ([0, 4], [0, 4]), ([5], [5]), ([6], [6]), ([6], [6]), ([7, 5, 0, 1, 2, 3, 4, 5, 6, 7], [7])])
def tailracelaw13_OpersOrder.B15 : List Nat := [0, 0, 0, 6, 14, 31, 63, 127, 127, 255]
theorem tailracelaw13_OpersOrder.tab15 : rtab .any (opsOf Try.f6 15) = tailracelaw13_OpersOrder.T15 := by kernel_rfl
theorem tailracelaw13_OpersOrder.bits15 : waitsOk tailracelaw13_OpersOrder.T15.2 tailracelaw13_OpersOrder.B15 = true := by kernel_rfl
def tailracelaw13_OpersOrder.T16 : Bool × List (List Nat × List Nat) := (true, [([], []), ([], []), ([], []), ([1, 2], [1, 2]), ([3], [3]), ([0, 4], [0, 4]), ([5], [5]), ([6], [6]), ([6], [6]), ([7, 5, 0, 1, 2, 3, 4, 5, 6, 7], [7])])
def tailracelaw13_OpersOrder.B16 : List Nat := [0, 0, 0, 6, 14, 31, 63, 127, 127, 255]
theorem tailracelaw13_OpersOrder.tab16 : rtab .any (opsOf Try.f6 16) = tailracelaw13_OpersOrder.T16 := by kernel_rfl
theorem tailracelaw13_OpersOrder.bits16 : waitsOk tailracelaw13_OpersOrder.T16.2 tailracelaw13_OpersOrder.B16 = true := by kernel_rfl
def tailracelaw13_OpersOrder.T23 : Bool × List (List Nat × List Nat) := (true, [([], []), ([], []), ([], []), ([1, 2], [1, 2]), ([], []), ([3, 4], [3, 4]), ([0, 5], [0, 5]), ([6], [6]), ([7], [7]), ([7], [7]), ([8, 6, 0, 1, 2, 3, 4, 5, 6, 7, 8], [8])])
def tailracelaw13_OpersOrder.B23 : List Nat := [0, 0, 0, 6, 0, 30, 63, 127, 255, 255, 511]
theorem tailracelaw13_OpersOrder.tab23 : rtab .any (opsOf Try.f6 23) = tailracelaw13_OpersOrder.T23 := by kernel_rfl
theorem tailracelaw13_OpersOrder.bits23 : waitsOk tailracelaw13_OpersOrder.T23.2 tailracelaw13_OpersOrder.B23 = true := by kernel_rfl
def tailracelaw13_OpersOrder.T24 : Bool × List (List Nat × List Nat) := (true, [([], []), ([], []), ([], []), ([1, 2], [1, 2]), ([3], [3]), ([0, 4], [0, 4]), ([5], [5]), ([6], [6]), ([6], [6]), ([7, 5, 0, 1, 2, 3, 4, 5, 6, 7], [7])])
def tailracelaw13_OpersOrder.B24 : List Nat := [0, 0, 0, 6, 14, 31, 63, 127, 127, 255]
theorem tailracelaw13_OpersOrder.tab24 : rtab .any (opsOf Try.f6 24) = tailracelaw13_OpersOrder.T24 := by kernel_rfl
theorem tailracelaw13_OpersOrder.bits24 : waitsOk tailracelaw13_OpersOrder.T24.2 tailracelaw13_OpersOrder.B24 = true := by kernel_rfl
set_option maxHeartbeats 8000000 in
set_option maxRecDepth 100000 in
theorem tailracelaw13_OpersOrder.calls (k : Nat) (a0_0 : Int) (a0_1 : Int) (a0_2 : Int) (a0_3 : Int) (A0_4 : Option Addr) (c0_4 : Nat) (l0_4 : List Int) (A1 : Option Addr) (c1 : Nat) (l1 : List (S36)) (A2 : Option Addr) (c2 : Nat) (l2 : List (S36)) (a3 : Int) (r : Bool) (w : World) (hr0_4 : Kd.C (Kd.int .i64) w A0_4 l0_4.length l0_4) (hc0_4 : l0_4.length ≤ c0_4) (hr1 : Kd.C k36 w A1 l1.length l1) (hc1 : l1.length ≤ c1) (hr2 : Kd.C k36 w A2 l2.length l2) (hc2 : l2.length ≤ c2) (h : tailracelaw13_OpersOrder.f k a0_0 a0_1 a0_2 a0_3 l0_4 l1 l2 a3 = some r) :
    Calls Try.prog 6 #[.agg #[.int .u8 a0_0, .int .u8 a0_1, .int .i64 a0_2, .int .i64 a0_3, .slice A0_4 l0_4.length c0_4], .slice A1 l1.length c1, .slice A2 l2.length c2, .int .i64 a3] w fun e w' => e = .returned (.bool r) ∧ Below w.heap.size w w' := by
  have hu24 := Try.underlying24
  have hu36 := Try.underlying36
  have HR0_4 := Aside0.mk hr0_4
  have HC0_4 := Aside0.mk hc0_4
  clear hr0_4 hc0_4
  have HR1 := Aside0.mk hr1
  have HC1 := Aside0.mk hc1
  clear hr1 hc1
  have HR2 := Aside0.mk hr2
  have HC2 := Aside0.mk hc2
  clear hr2 hc2
  have HB := Aside0.mk (Below.refl w.heap.size w)
  have H : (if (l1.length : Int) > 60 then (tailracelaw13_OpersOrder.j0 k l1 l2 a3 true a0_0 a0_1 a0_2 a0_3 l0_4) else (tailracelaw13_OpersOrder.j0 k l1 l2 a3 (decide ((l2.length : Int) > 60)) a0_0 a0_1 a0_2 a0_3 l0_4)) = some r := h
  clear h
  have HC5 := Aside0.mk H
  clear H
  go_enter Try.func6, Try.ntmps6
  go_upto_region 1 with (first | ((with_reducible refine gate_dst (N := 4) rfl ?_); (try (refine gate_guard (by rfl) ?_; dsimp only)); refine box_event ?hg (N := 4) ?hd (cs := #[.int .u8 a0_0, .int .u8 a0_1, .int .i64 a0_2, .int .i64 a0_3, .slice A0_4 l0_4.length c0_4]) (t := 24) ?hr ?_; (case hd => rfl); (case hg => rfl); (case hr => first | (go_simp; done) | (go_simp; rfl)); intro gb138 hg w6 hbox hb; have n0_ := Aside0.mk (below_step (by repeat (first | (with_reducible first | exact HB.out | apply below_alloc | apply pw_below_drewN | apply below_drew1) | exact HB.out)) hb); have n1_ := Aside0.mk (hbox); have n2_ := Aside0.mk ((by rw [hg]; exact (below_size (by repeat (first | (with_reducible first | exact HB.out | apply below_alloc | apply pw_below_drewN | apply below_drew1) | exact HB.out))) : w.heap.size ≤ gb138)); have n3_ := Aside0.mk ((by rw [hg]; exact (below_size (by repeat (first | (with_reducible first | exact HB.out | apply below_alloc | apply pw_below_drewN | apply below_drew1) | exact HB.out))) : w.heap.size ≤ gb138)); clear HB; have HB := n0_; have BK138 := n1_; have GW138 := n2_; have GE138 := n3_; clear n0_ n1_ n2_ n3_; clear hb hbox hg))
  (try simp only [Act.put, List.setIfInBounds_toArray, List.set_cons_zero, List.set_cons_succ])
  go_cut [23] (fun v23 wc => ∃ (kq : Nat) (x23_4 : Bool), v23 = .bool x23_4 ∧ Aside0 (tailracelaw13_OpersOrder.j0 kq l1 l2 a3 x23_4 a0_0 a0_1 a0_2 a0_3 l0_4 = some r) ∧ Aside0 (kq ≤ k) ∧ Aside0 (wc.heap[gb138]? = some (.cells #[.int .u8 a0_0, .int .u8 a0_1, .int .i64 a0_2, .int .i64 a0_3, (.slice A0_4 l0_4.length c0_4)] 24 (0, 0))) ∧ Aside0 (Below w.heap.size w wc))
  case first =>
    have H := HC5.out
    clear HC5
    by_cases c7 : (l1.length : Int) > 60
    · rw [if_pos c7] at H
      have c7b0 : decide (60 < (l1.length : Int)) = true := decide_eq_true c7
      have c7b1 : decide (60 < l1.length) = true := decide_eq_true (by omega)
      clear c7
      (first | rw [c7b0] | (simp only [i64_w, i32_w]; rw [c7b0]) | skip)
      have H' := Aside0.mk H
      clear H
      go_wp2
      go_meet
      case rel => exact ⟨_, (true), (by first | rfl | (simp; done) | (simp [*]; done)), H', ⟨by first | omega | exact Nat.le_refl _⟩, ⟨by (with_reducible repeat (first | refine blk_drewN ?_ _ | refine blk_drew ?_ | refine blk_alloc ?_ _)); exact BK138.out⟩, ⟨by repeat (first | (with_reducible first | exact HB.out | apply below_alloc | apply pw_below_drewN | apply below_drew1 | refine below_set ?_ GE138.out) | exact HB.out)⟩⟩
    · rw [if_neg c7] at H
      have c7b0 : decide (60 < (l1.length : Int)) = false := decide_eq_false c7
      have c7b1 : decide (60 < l1.length) = false := decide_eq_false (by omega)
      clear c7
      (first | rw [c7b0] | (simp only [i64_w, i32_w]; rw [c7b0]) | skip)
      have H' := Aside0.mk H
      clear H
      go_wp2
      go_meet
      case rel => exact ⟨_, (decide ((l2.length : Int) > 60)), (by first | rfl | (simp; done) | (simp [*]; done)), H', ⟨by first | omega | exact Nat.le_refl _⟩, ⟨by (with_reducible repeat (first | refine blk_drewN ?_ _ | refine blk_drew ?_ | refine blk_alloc ?_ _)); exact BK138.out⟩, ⟨by repeat (first | (with_reducible first | exact HB.out | apply below_alloc | apply pw_below_drewN | apply below_drew1 | refine below_set ?_ GE138.out) | exact HB.out)⟩⟩
  case rest =>
    as_aux_lemma =>
    clear HC5
    try clear c1
    try clear c2
    try clear p2
    try clear c6
    try clear c7
    try clear c7b0
    try clear c7b1
    obtain ⟨kq, x23_4, rfl, HA, HJ4, BK138, HB⟩ := hcut
    cases kq with
    | zero => exact absurd HA.out (by simp [tailracelaw13_OpersOrder.j0])
    | succ kj4 =>
      have H := HA.out
      clear HA
      simp only [tailracelaw13_OpersOrder.j0] at H
      by_cases c8 : x23_4 = true
      · subst c8
        have H1 : ((tailracelaw13_works.f).bind fun t139 => (some t139)) = some r := by rw [if_pos rfl] at H; exact H
        clear H
        have H := H1
        clear H1
        replace H := Option.bind_eq_some_iff.mp H
        obtain ⟨t139, A90, H⟩ := H
        replace H : (some t139) = some r := H
        have A9 := Aside0.mk A90
        clear A90
        obtain rfl := Option.some.inj H
        go_wp2_with (first | ((with_reducible refine gate_callee (f := 11) rfl ?_); refine goesL_ (some 24) rfl rfl Try.func11 (by kernel_rfl) rfl #[] rfl (by (try simp only [List.map_toArray, List.map_cons, List.map_nil]); first | done | rfl | (simp only [List.length_drop, List.length_take]; rfl)) ?_; (with_reducible refine (tailracelaw13_works.calls  t139 _ A9.out).mono ?_); rintro e w10 ⟨rfl, hb⟩; refine ⟨_, rfl, ?_⟩; have n0_ := Aside0.mk (blk_below (g := gb138) (o := .cells #[.int .u8 a0_0, .int .u8 a0_1, .int .i64 a0_2, .int .i64 a0_3, .slice A0_4 l0_4.length c0_4] 24 (0, 0)) (by (with_reducible repeat (first | refine blk_drewN ?_ _ | refine blk_drew ?_ | refine blk_alloc ?_ _)); exact BK138.out) hb); have n1_ := Aside0.mk (below_step (by repeat (first | (with_reducible first | exact HB.out | apply below_alloc | apply pw_below_drewN | apply below_drew1 | refine below_set ?_ GE138.out) | exact HB.out)) hb); clear BK138; clear HB; have BK138 := n0_; have HB := n1_; clear n0_ n1_; (try clear hb); (try clear hb2); (try clear hk); (try clear hi)))
        go_ret
        exact ⟨by first | rfl | (simp [errW_none, errW_some] <;> rfl) | (simp [*, errW_none, errW_some] <;> rfl), by repeat (first | (with_reducible first | exact HB.out | apply below_alloc | apply pw_below_drewN | apply below_drew1 | refine below_set ?_ GE138.out) | exact HB.out)⟩
      · replace c8 := Bool.eq_false_iff.mpr c8
        subst c8
        have H1 : (tailracelaw13_OpersOrder.l0 kj4 l1 l2 a3 ([] : List (S36)) (wrap64 ((l1.length : Int) - 1)) a0_0 a0_1 a0_2 a0_3 l0_4) = some r := by rw [if_neg (show ¬ (false = true) by decide)] at H; exact H
        clear H
        have H := H1
        clear H1
        have H' := Aside0.mk H
        clear H
        go_wp2
        go_loopg [9, 10] kj4 (fun kq v9 v10 w' => ∃ (x9_2 : List (S36)) (x10_2 : Int), v10 = .int .i64 x10_2 ∧ Aside0 (tailracelaw13_OpersOrder.l0 kq l1 l2 a3 x9_2 x10_2 a0_0 a0_1 a0_2 a0_3 l0_4 = some r) ∧ Aside0 (kq ≤ kj4) ∧ Aside0 (Kd.R k36 36 w' w.heap.size (fun _ => True) v9 x9_2) ∧ Aside0 (w'.heap[gb138]? = some (.cells #[.int .u8 a0_0, .int .u8 a0_1, .int .i64 a0_2, .int .i64 a0_3, (.slice A0_4 l0_4.length c0_4)] 24 (0, 0))) ∧ Aside0 (Below w.heap.size w w'))
        case atStart => exact ⟨(([] : List (S36))), (wrap64 ((l1.length : Int) - 1)), (by first | rfl | (simp; done) | (simp [*]; done)), H', ⟨Nat.le_refl _⟩, ⟨by first | exact Kd.R_nil _ _ _ _ _ | exact Kd.N_nil _ _ _ _ _ | exact Kd.V_nil _ _ _ _ _ | exact Kd.Q_nil _ _ _ _ _ | exact Kd.S_nil _ _ _ _ _⟩, ⟨by (with_reducible repeat (first | refine blk_drewN ?_ _ | refine blk_drew ?_ | refine blk_alloc ?_ _)); exact BK138.out⟩, ⟨by repeat (first | (with_reducible first | exact HB.out | apply below_alloc | apply pw_below_drewN | apply below_drew1 | refine below_set ?_ GE138.out) | exact HB.out)⟩⟩
        case round =>
          as_aux_lemma =>
          clear H'
          try clear c1
          try clear c2
          try clear p2
          try clear c6
          try clear p6
          try clear c7
          try clear c7b0
          try clear c7b1
          try clear c8
          try clear p2
          obtain ⟨x9_2, x10_2, rfl, HA, HK2, HO_9, BK138, HB⟩ := hrel
          cases gk with
          | zero => exact absurd HA.out (by simp [tailracelaw13_OpersOrder.l0])
          | succ k2 =>
            have H := HA.out
            clear HA
            simp only [tailracelaw13_OpersOrder.l0] at H
            by_cases c11 : x10_2 ≥ 0
            · rw [if_pos c11] at H
              have c11b0 : decide (0 ≤ x10_2) = true := decide_eq_true c11
              clear c11
              by_cases c12 : 0 ≤ x10_2
              · rw [if_pos c12] at H
                have c12b0 : decide (0 ≤ x10_2) = true := decide_eq_true c12
                clear c12
                by_cases c13 : x10_2 < (l1.length : Int)
                · rw [if_pos c13] at H
                  have c13b0 : decide (x10_2 < (l1.length : Int)) = true := decide_eq_true c13
                  clear c13
                  by_cases c14 : x9_2.length < 8796093022208
                  · as_aux_lemma =>
                    rw [if_pos c14] at H
                    have LMc14 := Aside0.mk c14
                    clear c14
                    obtain ⟨y141, hy141⟩ : ∃ y_ : List (S36), y_ = (x9_2 ++ [(⟨(rd_T36 l1 x10_2).f0, (rd_T36 l1 x10_2).f1⟩ : S36)]) := ⟨_, rfl⟩
                    replace H : (tailracelaw13_OpersOrder.l0 k2 l1 l2 a3 y141 (wrap64 (x10_2 - 1)) a0_0 a0_1 a0_2 a0_3 l0_4) = some r := by first | (rw [hy141]; with_reducible exact H) | (have H2_ := (Option.bind_some _ _).symm.trans H; rw [hy141]; with_reducible exact H2_) | (have H2_ := (Option.bind_some _ _).symm.trans H; with_reducible exact H2_) | with_reducible exact H | (rw [hy141]; exact H) | exact H
                    have Ny141 := Aside0.mk hy141
                    clear hy141
                    have H' := Aside0.mk H
                    clear H
                    have p140 : 0 ≤ (x10_2 : Int) := of_decide_eq_true (by first | (with_reducible assumption) | assumption)
                    have q140 : x10_2 < (l1.length : Int) := of_decide_eq_true (by first | (with_reducible assumption) | assumption)
                    obtain ⟨ad140, e140, hx140_0, hx140_1⟩ := at_T36 HR1.out x10_2 p140 q140
                    cases e140
                    replace hx140_0 := (HB.out.cell (World.block_lt_of_cell? w _ hx140_0)).trans hx140_0
                    replace hx140_1 := (HB.out.cell (World.block_lt_of_cell? w _ hx140_1)).trans hx140_1
                    replace p140 := eq_true p140
                    replace q140 := eq_true q140
                    go_wp2_with (first | ((with_reducible refine gate_builtin (b := .append) (xs := #[.tmp 32, .tmp 37]) rfl ?_); (try (refine gate_guard (by rfl) ?_; dsimp only)); at_builtin; refine Kd.R_append k36 (w0 := w) w.heap.size rfl (.tmp 32) (.tmp 37) 28 36 (.agg #[(.int .i64 0), (.int .i64 0)]) 16 rfl Try.underlying28 info36 rfl (by decide) (by omega) u9 x9_2 (⟨(rd_T36 l1 x10_2).f0, (rd_T36 l1 x10_2).f1⟩ : S36) [.int .i64 ((rd_T36 l1 x10_2).f0), .int .i64 ((rd_T36 l1 x10_2).f1)] (fun _ => True) (fun _ => False) rfl rfl ?aP (fun _ hk => hk.elim) ?aF ?aO ?aB ?aS ?aL ?_; (case aP => exact k36_mkM _ _ _ (⟨(rd_T36 l1 x10_2).f0, (rd_T36 l1 x10_2).f1⟩ : S36)); (case aB => exact (by repeat (first | (with_reducible first | exact HB.out | apply below_alloc | apply pw_below_drewN | apply below_drew1 | refine below_set ?_ GE138.out) | exact HB.out))); (case aF => exact (fun _ _ => trivial)); (case aO => exact (by (with_reducible repeat (first | apply Kd.R_alloc | apply Kd.R_drewN | apply Kd.R_drew)); exact HO_9.out)); (case aS => exact (below_size (by repeat (first | (with_reducible first | exact HB.out | apply below_alloc | apply pw_below_drewN | apply below_drew1 | refine below_set ?_ GE138.out) | exact HB.out)))); (case aL => have := LMc14.out; omega); intro v142 w15 ho hb hg hat; rw [← Ny141.out] at ho; have n0_ := Aside0.mk (blk_grown (g := gb138) (o := .cells #[.int .u8 a0_0, .int .u8 a0_1, .int .i64 a0_2, .int .i64 a0_3, .slice A0_4 l0_4.length c0_4] 24 (0, 0)) (by (with_reducible repeat (first | refine blk_drewN ?_ _ | refine blk_drew ?_ | refine blk_alloc ?_ _)); exact BK138.out) hg (Kd.R_ne HO_9.out BK138.out (by decide))); have n1_ := Aside0.mk (hb); have n2_ := Aside0.mk (ho); clear BK138; clear HB; clear HO_9; have BK138 := n0_; have HB := n1_; have HO143 := n2_; clear n0_ n1_ n2_; clear ho hb hg hat))
                    go_roundg k2
                    case measure => have := HJ4.out; have := HK2.out; omega
                    case rel => exact ⟨(y141), (wrap64 (x10_2 - 1)), (by first | rfl | (simp; done) | (simp [*]; done)), H', ⟨by have := HJ4.out; have := HK2.out; omega⟩, ⟨by (with_reducible repeat (first | apply Kd.R_alloc | apply Kd.R_drewN | apply Kd.R_drew)); exact HO143.out⟩, ⟨by (with_reducible repeat (first | refine blk_drewN ?_ _ | refine blk_drew ?_ | refine blk_alloc ?_ _)); exact BK138.out⟩, ⟨by repeat (first | (with_reducible first | exact HB.out | apply below_alloc | apply pw_below_drewN | apply below_drew1 | refine below_set ?_ GE138.out) | exact HB.out)⟩⟩
                  · rw [if_neg c14] at H
                    exact absurd H (by simp)
                · rw [if_neg c13] at H
                  exact absurd H (by simp)
              · rw [if_neg c12] at H
                exact absurd H (by simp)
            · rw [if_neg c11] at H
              have c11b0 : decide (0 ≤ x10_2) = false := decide_eq_false c11
              clear c11
              have HC16 := Aside0.mk H
              clear H
              go_upto_region 9 with (fail)
              go_cut [45] (fun v45 wc => ∃ (kq : Nat) (x45_15 : Bool), v45 = .bool x45_15 ∧ Aside0 (tailracelaw13_OpersOrder.j2 kq l1 l2 a3 x9_2 0 x45_15 a0_0 a0_1 a0_2 a0_3 l0_4 = some r) ∧ Aside0 (kq ≤ k2) ∧ Aside0 (Kd.R k36 36 wc w.heap.size (fun _ => True) u9 x9_2) ∧ Aside0 (wc.heap[gb138]? = some (.cells #[.int .u8 a0_0, .int .u8 a0_1, .int .i64 a0_2, .int .i64 a0_3, (.slice A0_4 l0_4.length c0_4)] 24 (0, 0))) ∧ Aside0 (Below w.heap.size w wc))
              case first =>
                have H := HC16.out
                clear HC16
                by_cases c17 : (l1.length : Int) > 0
                · rw [if_pos c17] at H
                  have c17b0 : decide (0 < (l1.length : Int)) = true := decide_eq_true c17
                  have c17b1 : decide (0 < l1.length) = true := decide_eq_true (by omega)
                  clear c17
                  (first | rw [c17b0] | (simp only [i64_w, i32_w]; rw [c17b0]) | skip)
                  have H' := Aside0.mk H
                  clear H
                  go_wp2
                  go_meet
                  case rel => exact ⟨_, (decide (a3 ≥ 0)), (by first | rfl | (simp; done) | (simp [*]; done)), H', ⟨by have := HJ4.out; have := HK2.out; first | omega | exact Nat.le_refl _⟩, ⟨by (with_reducible repeat (first | apply Kd.R_alloc | apply Kd.R_drewN | apply Kd.R_drew)); exact HO_9.out⟩, ⟨by (with_reducible repeat (first | refine blk_drewN ?_ _ | refine blk_drew ?_ | refine blk_alloc ?_ _)); exact BK138.out⟩, ⟨by repeat (first | (with_reducible first | exact HB.out | apply below_alloc | apply pw_below_drewN | apply below_drew1 | refine below_set ?_ GE138.out) | exact HB.out)⟩⟩
                · rw [if_neg c17] at H
                  have c17b0 : decide (0 < (l1.length : Int)) = false := decide_eq_false c17
                  have c17b1 : decide (0 < l1.length) = false := decide_eq_false (by omega)
                  clear c17
                  (first | rw [c17b0] | (simp only [i64_w, i32_w]; rw [c17b0]) | skip)
                  have H' := Aside0.mk H
                  clear H
                  go_wp2
                  go_meet
                  case rel => exact ⟨_, (false), (by first | rfl | (simp; done) | (simp [*]; done)), H', ⟨by have := HJ4.out; have := HK2.out; first | omega | exact Nat.le_refl _⟩, ⟨by (with_reducible repeat (first | apply Kd.R_alloc | apply Kd.R_drewN | apply Kd.R_drew)); exact HO_9.out⟩, ⟨by (with_reducible repeat (first | refine blk_drewN ?_ _ | refine blk_drew ?_ | refine blk_alloc ?_ _)); exact BK138.out⟩, ⟨by repeat (first | (with_reducible first | exact HB.out | apply below_alloc | apply pw_below_drewN | apply below_drew1 | refine below_set ?_ GE138.out) | exact HB.out)⟩⟩
              case rest =>
                as_aux_lemma =>
                clear HC16
                try clear c1
                try clear p1
                try clear q1
                try clear hx1
                try clear c2
                try clear p2
                try clear c6
                try clear p6
                try clear c7
                try clear c7b0
                try clear c7b1
                try clear c8
                try clear c11
                try clear c11b0
                try clear c12
                try clear c12b0
                try clear c13
                try clear c13b0
                try clear c14
                try clear p14
                try clear q14
                try clear hx14
                try clear c17
                try clear c17b0
                try clear c17b1
                try clear hx140_0
                try clear hx140_1
                try clear p140
                try clear p2
                try clear p6
                try clear q140
                obtain ⟨kq, x45_15, rfl, HA, HJ15, HO_9, BK138, HB⟩ := hcut
                cases kq with
                | zero => exact absurd HA.out (by simp [tailracelaw13_OpersOrder.j2])
                | succ kj15 =>
                  have H := HA.out
                  clear HA
                  simp only [tailracelaw13_OpersOrder.j2] at H
                  have HC18 := Aside0.mk H
                  clear H
                  go_upto_if 45 with (fail)
                  go_cut [11] (fun v11 wc => ∃ (kq : Nat) (x11_17 : Int), v11 = .int .i64 x11_17 ∧ Aside0 (tailracelaw13_OpersOrder.j3 kq l1 l2 x9_2 x11_17 a0_0 a0_1 a0_2 a0_3 l0_4 = some r) ∧ Aside0 (kq ≤ kj15) ∧ Aside0 (Kd.R k36 36 wc w.heap.size (fun _ => True) u9 x9_2) ∧ Aside0 (wc.heap[gb138]? = some (.cells #[.int .u8 a0_0, .int .u8 a0_1, .int .i64 a0_2, .int .i64 a0_3, (.slice A0_4 l0_4.length c0_4)] 24 (0, 0))) ∧ Aside0 (Below w.heap.size w wc))
                  case first =>
                    have H := HC18.out
                    clear HC18
                    by_cases c19 : x45_15 = true
                    · subst c19
                      have H1 : (if (wrap64 ((l1.length : Int) + 1)) = 0 then (none) else (tailracelaw13_OpersOrder.j3 kj15 l1 l2 x9_2 (Int.tmod a3 (wrap64 ((l1.length : Int) + 1))) a0_0 a0_1 a0_2 a0_3 l0_4)) = some r := by rw [if_pos rfl] at H; exact H
                      clear H
                      have H := H1
                      clear H1
                      by_cases c20 : (wrap64 ((l1.length : Int) + 1)) = 0
                      · rw [if_pos c20] at H
                        exact absurd H (by simp)
                      · rw [if_neg c20] at H
                        have c20b0 : ((wrap64 ((l1.length : Int) + 1)) == 0) = false := beq_eq_false_iff_ne.mpr c20
                        have c20b1 : ((wrap64 ((l1.length : Int) + 1)) != 0) = true := bne_iff_ne.mpr c20
                        (first | rw [c20b0] | (simp only [i64_w, i32_w]; rw [c20b0]) | skip)
                        have H' := Aside0.mk H
                        clear H
                        go_wp2
                        go_meet
                        case rel => exact ⟨_, (Int.tmod a3 (wrap64 ((l1.length : Int) + 1))), (by first | rfl | (simp; done) | (simp [*]; done)), H', ⟨by have := HJ4.out; have := HK2.out; have := HJ15.out; first | omega | exact Nat.le_refl _⟩, ⟨by (with_reducible repeat (first | apply Kd.R_alloc | apply Kd.R_drewN | apply Kd.R_drew)); exact HO_9.out⟩, ⟨by (with_reducible repeat (first | refine blk_drewN ?_ _ | refine blk_drew ?_ | refine blk_alloc ?_ _)); exact BK138.out⟩, ⟨by repeat (first | (with_reducible first | exact HB.out | apply below_alloc | apply pw_below_drewN | apply below_drew1 | refine below_set ?_ GE138.out) | exact HB.out)⟩⟩
                    · replace c19 := Bool.eq_false_iff.mpr c19
                      subst c19
                      have H1 : (tailracelaw13_OpersOrder.j3 kj15 l1 l2 x9_2 0 a0_0 a0_1 a0_2 a0_3 l0_4) = some r := by rw [if_neg (show ¬ (false = true) by decide)] at H; exact H
                      clear H
                      have H := H1
                      clear H1
                      have H' := Aside0.mk H
                      clear H
                      go_wp2
                      go_meet
                      case rel => exact ⟨_, (0), (by first | rfl | (simp; done) | (simp [*]; done)), H', ⟨by have := HJ4.out; have := HK2.out; have := HJ15.out; first | omega | exact Nat.le_refl _⟩, ⟨by (with_reducible repeat (first | apply Kd.R_alloc | apply Kd.R_drewN | apply Kd.R_drew)); exact HO_9.out⟩, ⟨by (with_reducible repeat (first | refine blk_drewN ?_ _ | refine blk_drew ?_ | refine blk_alloc ?_ _)); exact BK138.out⟩, ⟨by repeat (first | (with_reducible first | exact HB.out | apply below_alloc | apply pw_below_drewN | apply below_drew1 | refine below_set ?_ GE138.out) | exact HB.out)⟩⟩
                  case rest =>
                    as_aux_lemma =>
                    clear HC18
                    try clear c1
                    try clear p1
                    try clear q1
                    try clear hx1
                    try clear c2
                    try clear p2
                    try clear c6
                    try clear p6
                    try clear c7
                    try clear c7b0
                    try clear c7b1
                    try clear c8
                    try clear c11
                    try clear c11b0
                    try clear c12
                    try clear c12b0
                    try clear c13
                    try clear c13b0
                    try clear c14
                    try clear p14
                    try clear q14
                    try clear hx14
                    try clear c17
                    try clear c17b0
                    try clear c17b1
                    try clear c19
                    try clear c20
                    try clear c20b0
                    try clear c20b1
                    try clear hx140_0
                    try clear hx140_1
                    try clear p1
                    try clear p14
                    try clear p140
                    try clear p2
                    try clear p6
                    try clear q1
                    try clear q14
                    try clear q140
                    obtain ⟨kq, x11_17, rfl, HA, HJ17, HO_9, BK138, HB⟩ := hcut
                    cases kq with
                    | zero => exact absurd HA.out (by simp [tailracelaw13_OpersOrder.j3])
                    | succ kj17 =>
                      have H := HA.out
                      clear HA
                      simp only [tailracelaw13_OpersOrder.j3] at H
                      have HC21 := Aside0.mk H
                      clear H
                      have hcz22_0 : wc.cell? ⟨gb138, 0, none⟩ = some (.int .u8 a0_0) := (blk_cell BK138.out 0).trans rfl
                      have hcz22_1 : wc.cell? ⟨gb138, 1, none⟩ = some (.int .u8 a0_1) := (blk_cell BK138.out 1).trans rfl
                      have hcz22_2 : wc.cell? ⟨gb138, 2, none⟩ = some (.int .i64 a0_2) := (blk_cell BK138.out 2).trans rfl
                      have hcz22_3 : wc.cell? ⟨gb138, 3, none⟩ = some (.int .i64 a0_3) := (blk_cell BK138.out 3).trans rfl
                      have hcz22_4 : wc.cell? ⟨gb138, 4, none⟩ = some (.slice A0_4 l0_4.length c0_4) := (blk_cell BK138.out 4).trans rfl
                      have hfz22_0 := blk_frozen BK138.out 0
                      have hfz22_1 := blk_frozen BK138.out 1
                      have hfz22_2 := blk_frozen BK138.out 2
                      have hfz22_3 := blk_frozen BK138.out 3
                      have hfz22_4 := blk_frozen BK138.out 4
                      go_upto_block 2 with (fail)
                      go_cut [12, 13, 14, 15] (fun v12 v13 v14 v15 wc => ∃ (kq : Nat) (x12_20 : List (S36)) (x13_20 : List (S36)) (x14_20 : List (S36)) (x15_20 : List (S36)), Aside0 (tailracelaw13_OpersOrder.j5 kq x12_20 x13_20 x14_20 x15_20 a0_0 a0_1 a0_2 a0_3 l0_4 = some r) ∧ Aside0 (kq ≤ kj17) ∧ Aside0 (Kd.R k36 36 wc w.heap.size (fun k_ => some k_ ≠ (v13 : Value).ownBlock ∧ some k_ ≠ (v14 : Value).ownBlock ∧ some k_ ≠ (v15 : Value).ownBlock) v12 x12_20) ∧ Aside0 (Kd.R k36 36 wc w.heap.size (fun k_ => some k_ ≠ (v12 : Value).ownBlock ∧ some k_ ≠ (v14 : Value).ownBlock ∧ some k_ ≠ (v15 : Value).ownBlock) v13 x13_20) ∧ Aside0 (Kd.R k36 36 wc w.heap.size (fun k_ => some k_ ≠ (v12 : Value).ownBlock ∧ some k_ ≠ (v13 : Value).ownBlock ∧ some k_ ≠ (v15 : Value).ownBlock) v14 x14_20) ∧ Aside0 (Kd.R k36 36 wc w.heap.size (fun k_ => some k_ ≠ (v12 : Value).ownBlock ∧ some k_ ≠ (v13 : Value).ownBlock ∧ some k_ ≠ (v14 : Value).ownBlock) v15 x15_20) ∧ Aside0 (wc.heap[gb138]? = some (.cells #[.int .u8 a0_0, .int .u8 a0_1, .int .i64 a0_2, .int .i64 a0_3, (.slice A0_4 l0_4.length c0_4)] 24 (0, 0))) ∧ Aside0 (Below w.heap.size w wc))
                      case first =>
                        as_aux_lemma =>
                        have H := HC21.out
                        clear HC21
                        by_cases c23 : a0_0 = 1
                        · rw [if_pos c23] at H
                          have c23b0 : (a0_0 == 1) = true := beq_iff_eq.mpr c23
                          have c23b1 : (a0_0 != 1) = false := bne_eq_false_iff_eq.mpr c23
                          clear c23
                          (first | rw [c23b0] | (simp only [i64_w, i32_w]; rw [c23b0]) | skip)
                          replace H := Option.bind_eq_some_iff.mp H
                          obtain ⟨t144, A240, H⟩ := H
                          replace H : (some t144) = some r := H
                          have A24 := Aside0.mk A240
                          clear A240
                          obtain rfl := Option.some.inj H
                          go_wp2_with (first | ((with_reducible refine gate_callee (f := 11) rfl ?_); refine goesL_ (some 87) rfl rfl Try.func11 (by kernel_rfl) rfl #[] rfl (by (try simp only [List.map_toArray, List.map_cons, List.map_nil]); first | done | rfl | (simp only [List.length_drop, List.length_take]; rfl)) ?_; (with_reducible refine (tailracelaw13_works.calls  t144 _ A24.out).mono ?_); rintro e w25 ⟨rfl, hb⟩; refine ⟨_, rfl, ?_⟩; have n0_ := Aside0.mk (Kd.R_below (by (with_reducible repeat (first | apply Kd.R_alloc | apply Kd.R_drewN | apply Kd.R_drew)); exact HO_9.out) hb); have n1_ := Aside0.mk (blk_below (g := gb138) (o := .cells #[.int .u8 a0_0, .int .u8 a0_1, .int .i64 a0_2, .int .i64 a0_3, .slice A0_4 l0_4.length c0_4] 24 (0, 0)) (by (with_reducible repeat (first | refine blk_drewN ?_ _ | refine blk_drew ?_ | refine blk_alloc ?_ _)); exact BK138.out) hb); have n2_ := Aside0.mk (below_step (by repeat (first | (with_reducible first | exact HB.out | apply below_alloc | apply pw_below_drewN | apply below_drew1 | refine below_set ?_ GE138.out) | exact HB.out)) hb); clear HO_9; clear BK138; clear HB; have HO_9 := n0_; have BK138 := n1_; have HB := n2_; clear n0_ n1_ n2_; (try clear hb); (try clear hb2); (try clear hk); (try clear hi)))
                          go_ret
                          exact ⟨by first | rfl | (simp [errW_none, errW_some] <;> rfl) | (simp [*, errW_none, errW_some] <;> rfl), by repeat (first | (with_reducible first | exact HB.out | apply below_alloc | apply pw_below_drewN | apply below_drew1 | refine below_set ?_ GE138.out) | exact HB.out)⟩
                        · rw [if_neg c23] at H
                          have c23b0 : (a0_0 == 1) = false := beq_eq_false_iff_ne.mpr c23
                          have c23b1 : (a0_0 != 1) = true := bne_iff_ne.mpr c23
                          (first | rw [c23b0] | (simp only [i64_w, i32_w]; rw [c23b0]) | skip)
                          have HC26 := Aside0.mk H
                          clear H
                          go_upto_if 88 with (fail)
                          go_cut [88] (fun v88 wc => ∃ (kq : Nat) (x88_25 : Bool), v88 = .bool x88_25 ∧ Aside0 (tailracelaw13_OpersOrder.j4 kq l1 l2 x9_2 x11_17 x88_25 a0_0 a0_1 a0_2 a0_3 l0_4 = some r) ∧ Aside0 (kq ≤ kj17) ∧ Aside0 (Kd.R k36 36 wc w.heap.size (fun _ => True) u9 x9_2) ∧ Aside0 (wc.heap[gb138]? = some (.cells #[.int .u8 a0_0, .int .u8 a0_1, .int .i64 a0_2, .int .i64 a0_3, (.slice A0_4 l0_4.length c0_4)] 24 (0, 0))) ∧ Aside0 (Below w.heap.size w wc))
                          case first =>
                            have H := HC26.out
                            clear HC26
                            by_cases c27 : a0_0 = 4
                            · rw [if_pos c27] at H
                              have c27b0 : (a0_0 == 4) = true := beq_iff_eq.mpr c27
                              have c27b1 : (a0_0 != 4) = false := bne_eq_false_iff_eq.mpr c27
                              clear c27
                              (first | rw [c27b0] | (simp only [i64_w, i32_w]; rw [c27b0]) | skip)
                              have H' := Aside0.mk H
                              clear H
                              go_wp2
                              go_meet
                              case rel => exact ⟨_, ((a0_0 == 4)), (by first | rfl | (simp; done) | (simp [*]; done)), H', ⟨by have := HJ4.out; have := HK2.out; have := HJ15.out; have := HJ17.out; first | omega | exact Nat.le_refl _⟩, ⟨by (with_reducible repeat (first | apply Kd.R_alloc | apply Kd.R_drewN | apply Kd.R_drew)); exact HO_9.out⟩, ⟨by (with_reducible repeat (first | refine blk_drewN ?_ _ | refine blk_drew ?_ | refine blk_alloc ?_ _)); exact BK138.out⟩, ⟨by repeat (first | (with_reducible first | exact HB.out | apply below_alloc | apply pw_below_drewN | apply below_drew1 | refine below_set ?_ GE138.out) | exact HB.out)⟩⟩
                            · rw [if_neg c27] at H
                              have c27b0 : (a0_0 == 4) = false := beq_eq_false_iff_ne.mpr c27
                              have c27b1 : (a0_0 != 4) = true := bne_iff_ne.mpr c27
                              (first | rw [c27b0] | (simp only [i64_w, i32_w]; rw [c27b0]) | skip)
                              have H' := Aside0.mk H
                              clear H
                              go_wp2
                              go_meet
                              case rel => exact ⟨_, ((a0_0 == 6)), (by first | rfl | (simp; done) | (simp [*]; done)), H', ⟨by have := HJ4.out; have := HK2.out; have := HJ15.out; have := HJ17.out; first | omega | exact Nat.le_refl _⟩, ⟨by (with_reducible repeat (first | apply Kd.R_alloc | apply Kd.R_drewN | apply Kd.R_drew)); exact HO_9.out⟩, ⟨by (with_reducible repeat (first | refine blk_drewN ?_ _ | refine blk_drew ?_ | refine blk_alloc ?_ _)); exact BK138.out⟩, ⟨by repeat (first | (with_reducible first | exact HB.out | apply below_alloc | apply pw_below_drewN | apply below_drew1 | refine below_set ?_ GE138.out) | exact HB.out)⟩⟩
                          case rest =>
                            as_aux_lemma =>
                            clear HC26
                            try clear c1
                            try clear p1
                            try clear q1
                            try clear hx1
                            try clear c2
                            try clear p2
                            try clear c6
                            try clear p6
                            try clear c7
                            try clear c7b0
                            try clear c7b1
                            try clear c8
                            try clear c11
                            try clear c11b0
                            try clear c12
                            try clear c12b0
                            try clear c13
                            try clear c13b0
                            try clear c14
                            try clear p14
                            try clear q14
                            try clear hx14
                            try clear c17
                            try clear c17b0
                            try clear c17b1
                            try clear c19
                            try clear c20
                            try clear c20b0
                            try clear c20b1
                            try clear c23
                            try clear c23b0
                            try clear c23b1
                            try clear c27
                            try clear c27b0
                            try clear c27b1
                            try clear hcz22_0
                            try clear hcz22_1
                            try clear hcz22_2
                            try clear hcz22_3
                            try clear hcz22_4
                            try clear hfz22_0
                            try clear hfz22_1
                            try clear hfz22_2
                            try clear hfz22_3
                            try clear hfz22_4
                            try clear hx140_0
                            try clear hx140_1
                            try clear p1
                            try clear p14
                            try clear p140
                            try clear p2
                            try clear p6
                            try clear q1
                            try clear q14
                            try clear q140
                            obtain ⟨kq, x88_25, rfl, HA, HJ25, HO_9, BK138, HB⟩ := hcut
                            cases kq with
                            | zero => exact absurd HA.out (by simp [tailracelaw13_OpersOrder.j4])
                            | succ kj25 =>
                              have H := HA.out
                              clear HA
                              simp only [tailracelaw13_OpersOrder.j4] at H
                              by_cases c28 : x88_25 = true
                              · subst c28
                                have H1 : ((opers_Run2.f a0_0 a0_1 a0_2 a0_3 l0_4 l1 l2).bind fun bt145 => ((opers_Run2.f a0_0 a0_1 a0_2 a0_3 l0_4 x9_2 l2).bind fun bt149 => (if 0 ≤ x11_17 then (if x11_17 ≤ (l1.length : Int) then ((opers_Run2.f a0_0 a0_1 a0_2 a0_3 l0_4 (l1.take (x11_17 : Int).toNat) l2).bind fun bt157 => ((opers_Run2.f a0_0 a0_1 a0_2 a0_3 l0_4 (l1.drop (x11_17 : Int).toNat) ([] : List (S36))).bind fun bt165 => (tailracelaw13_OpersOrder.j5 kj25 bt145.1 bt149.1 bt157.1 bt165.1 a0_0 a0_1 a0_2 a0_3 l0_4))) else (none)) else (none)))) = some r := by rw [if_pos rfl] at H; exact H
                                clear H
                                have H := H1
                                clear H1
                                replace H := Option.bind_eq_some_iff.mp H
                                obtain ⟨⟨t145, t148⟩, A290, H⟩ := H
                                replace H : ((opers_Run2.f a0_0 a0_1 a0_2 a0_3 l0_4 x9_2 l2).bind fun bt149 => (if 0 ≤ x11_17 then (if x11_17 ≤ (l1.length : Int) then ((opers_Run2.f a0_0 a0_1 a0_2 a0_3 l0_4 (l1.take (x11_17 : Int).toNat) l2).bind fun bt157 => ((opers_Run2.f a0_0 a0_1 a0_2 a0_3 l0_4 (l1.drop (x11_17 : Int).toNat) ([] : List (S36))).bind fun bt165 => (tailracelaw13_OpersOrder.j5 kj25 t145 bt149.1 bt157.1 bt165.1 a0_0 a0_1 a0_2 a0_3 l0_4))) else (none)) else (none))) = some r := H
                                have A29 := Aside0.mk A290
                                clear A290
                                replace H := Option.bind_eq_some_iff.mp H
                                obtain ⟨⟨t149, t152⟩, A300, H⟩ := H
                                replace H : (if 0 ≤ x11_17 then (if x11_17 ≤ (l1.length : Int) then ((opers_Run2.f a0_0 a0_1 a0_2 a0_3 l0_4 (l1.take (x11_17 : Int).toNat) l2).bind fun bt157 => ((opers_Run2.f a0_0 a0_1 a0_2 a0_3 l0_4 (l1.drop (x11_17 : Int).toNat) ([] : List (S36))).bind fun bt165 => (tailracelaw13_OpersOrder.j5 kj25 t145 t149 bt157.1 bt165.1 a0_0 a0_1 a0_2 a0_3 l0_4))) else (none)) else (none)) = some r := H
                                have A30 := Aside0.mk A300
                                clear A300
                                by_cases c31 : 0 ≤ x11_17
                                · rw [if_pos c31] at H
                                  have c31b0 := eq_true c31
                                  have c31b1 : decide (0 ≤ x11_17) = true := decide_eq_true c31
                                  clear c31
                                  by_cases c32 : x11_17 ≤ (l1.length : Int)
                                  · as_aux_lemma =>
                                    rw [if_pos c32] at H
                                    have c32b0 := eq_true c32
                                    have c32b1 : decide (x11_17 ≤ (l1.length : Int)) = true := decide_eq_true c32
                                    clear c32
                                    obtain ⟨y153, hy153⟩ : ∃ y_ : List (S36), y_ = (l1.take (x11_17 : Int).toNat) := ⟨_, rfl⟩
                                    replace H : ((opers_Run2.f a0_0 a0_1 a0_2 a0_3 l0_4 y153 l2).bind fun bt157 => ((opers_Run2.f a0_0 a0_1 a0_2 a0_3 l0_4 (l1.drop (x11_17 : Int).toNat) ([] : List (S36))).bind fun bt165 => (tailracelaw13_OpersOrder.j5 kj25 t145 t149 bt157.1 bt165.1 a0_0 a0_1 a0_2 a0_3 l0_4))) = some r := by first | (rw [hy153]; with_reducible exact H) | (have H2_ := (Option.bind_some _ _).symm.trans H; rw [hy153]; with_reducible exact H2_) | (have H2_ := (Option.bind_some _ _).symm.trans H; with_reducible exact H2_) | with_reducible exact H | (rw [hy153]; exact H) | exact H
                                    have Ny153 := Aside0.mk hy153
                                    clear hy153
                                    replace H := Option.bind_eq_some_iff.mp H
                                    obtain ⟨⟨t157, t160⟩, A330, H⟩ := H
                                    replace H : ((opers_Run2.f a0_0 a0_1 a0_2 a0_3 l0_4 (l1.drop (x11_17 : Int).toNat) ([] : List (S36))).bind fun bt165 => (tailracelaw13_OpersOrder.j5 kj25 t145 t149 t157 bt165.1 a0_0 a0_1 a0_2 a0_3 l0_4)) = some r := H
                                    have A33 := Aside0.mk A330
                                    clear A330
                                    have c34b0 := eq_true (of_decide_eq_true (by first | (with_reducible assumption) | assumption) : 0 ≤ x11_17)
                                    have c35b0 := eq_true (of_decide_eq_true (by first | (with_reducible assumption) | assumption) : x11_17 ≤ (l1.length : Int))
                                    obtain ⟨y161, hy161⟩ : ∃ y_ : List (S36), y_ = (l1.drop (x11_17 : Int).toNat) := ⟨_, rfl⟩
                                    replace H : ((opers_Run2.f a0_0 a0_1 a0_2 a0_3 l0_4 y161 ([] : List (S36))).bind fun bt165 => (tailracelaw13_OpersOrder.j5 kj25 t145 t149 t157 bt165.1 a0_0 a0_1 a0_2 a0_3 l0_4)) = some r := by first | (rw [hy161]; with_reducible exact H) | (have H2_ := (Option.bind_some _ _).symm.trans H; rw [hy161]; with_reducible exact H2_) | (have H2_ := (Option.bind_some _ _).symm.trans H; with_reducible exact H2_) | with_reducible exact H | (rw [hy161]; exact H) | exact H
                                    have Ny161 := Aside0.mk hy161
                                    clear hy161
                                    replace H := Option.bind_eq_some_iff.mp H
                                    obtain ⟨⟨t165, t168⟩, A360, H⟩ := H
                                    replace H : (tailracelaw13_OpersOrder.j5 kj25 t145 t149 t157 t165 a0_0 a0_1 a0_2 a0_3 l0_4) = some r := H
                                    have A36 := Aside0.mk A360
                                    clear A360
                                    have H' := Aside0.mk H
                                    clear H
                                    have hcz37_0 : wc.cell? ⟨gb138, 0, none⟩ = some (.int .u8 a0_0) := (blk_cell BK138.out 0).trans rfl
                                    have hcz37_1 : wc.cell? ⟨gb138, 1, none⟩ = some (.int .u8 a0_1) := (blk_cell BK138.out 1).trans rfl
                                    have hcz37_2 : wc.cell? ⟨gb138, 2, none⟩ = some (.int .i64 a0_2) := (blk_cell BK138.out 2).trans rfl
                                    have hcz37_3 : wc.cell? ⟨gb138, 3, none⟩ = some (.int .i64 a0_3) := (blk_cell BK138.out 3).trans rfl
                                    have hcz37_4 : wc.cell? ⟨gb138, 4, none⟩ = some (.slice A0_4 l0_4.length c0_4) := (blk_cell BK138.out 4).trans rfl
                                    have hfz37_0 := blk_frozen BK138.out 0
                                    have hfz37_1 := blk_frozen BK138.out 1
                                    have hfz37_2 := blk_frozen BK138.out 2
                                    have hfz37_3 := blk_frozen BK138.out 3
                                    have hfz37_4 := blk_frozen BK138.out 4
                                    try go_wp2_with (first | (go_at_call 12; (with_reducible show Calls Try.prog 12 #[.agg #[.int .u8 _, .int .u8 _, .int .i64 _, .int .i64 _, _], _] (World.alloc _ (.cells #[.slice _ (List.length l1) _, .slice _ (List.length l2) _] 28)) _); (refine (opers_Run2.calls a0_0 a0_1 a0_2 a0_3 _ _ l0_4 _ _ l1 _ _ l2 t145 t148 _ ?side1 ?side2 ?side3 ?side4 ?side5 ?side6 A29.out).mono ?_); (case side1 => repeat (first | exact (Kd.C_below HR0_4.out HB.out) | (with_reducible refine Kd.C_alloc ?_ _) | (with_reducible refine Kd.C_drewN ?_ _) | (with_reducible refine Kd.C_drew ?_))); (case side2 => exact HC0_4.out); (case side3 => repeat (first | exact (Kd.C_below HR1.out HB.out) | (with_reducible refine Kd.C_alloc ?_ _) | (with_reducible refine Kd.C_drewN ?_ _) | (with_reducible refine Kd.C_drew ?_))); (case side4 => exact HC1.out); (case side5 => repeat (first | exact (Kd.C_below HR2.out HB.out) | (with_reducible refine Kd.C_alloc ?_ _) | (with_reducible refine Kd.C_drewN ?_ _) | (with_reducible refine Kd.C_drew ?_))); (case side6 => exact HC2.out); rintro e w38 ⟨v146, rfl, ho0, hb⟩; have n0_ := Aside0.mk (Kd.R_elder' (by (with_reducible repeat (first | apply Kd.R_alloc | apply Kd.R_drewN | apply Kd.R_drew)); exact HO_9.out) (Kd.R_base ho0) hb); have n1_ := Aside0.mk (Kd.R_lower (Kd.R_new' ho0 (Kd.R_lt (by (with_reducible repeat (first | apply Kd.R_alloc | apply Kd.R_drewN | apply Kd.R_drew)); exact HO_9.out))) (below_size (by repeat (first | (with_reducible first | exact HB.out | apply below_alloc | apply pw_below_drewN | apply below_drew1 | refine below_set ?_ GE138.out) | exact HB.out)))); have n2_ := Aside0.mk (blk_below (g := gb138) (o := .cells #[.int .u8 a0_0, .int .u8 a0_1, .int .i64 a0_2, .int .i64 a0_3, .slice A0_4 l0_4.length c0_4] 24 (0, 0)) (by (with_reducible repeat (first | refine blk_drewN ?_ _ | refine blk_drew ?_ | refine blk_alloc ?_ _)); exact BK138.out) hb); have n3_ := Aside0.mk (below_step (by repeat (first | (with_reducible first | exact HB.out | apply below_alloc | apply pw_below_drewN | apply below_drew1 | refine below_set ?_ GE138.out) | exact HB.out)) hb); clear HO_9; clear BK138; clear HB; have HO_9 := n0_; have HO147 := n1_; have BK138 := n2_; have HB := n3_; clear n0_ n1_ n2_ n3_; (try clear hb); (try clear hb2); (try clear hk); (try clear hi); (try clear ho0); have hcz39_0 : w38.cell? ⟨gb138, 0, none⟩ = some (.int .u8 a0_0) := (blk_cell BK138.out 0).trans rfl; have hcz39_1 : w38.cell? ⟨gb138, 1, none⟩ = some (.int .u8 a0_1) := (blk_cell BK138.out 1).trans rfl; have hcz39_2 : w38.cell? ⟨gb138, 2, none⟩ = some (.int .i64 a0_2) := (blk_cell BK138.out 2).trans rfl; have hcz39_3 : w38.cell? ⟨gb138, 3, none⟩ = some (.int .i64 a0_3) := (blk_cell BK138.out 3).trans rfl; have hcz39_4 : w38.cell? ⟨gb138, 4, none⟩ = some (.slice A0_4 l0_4.length c0_4) := (blk_cell BK138.out 4).trans rfl; have hfz39_0 := blk_frozen BK138.out 0; have hfz39_1 := blk_frozen BK138.out 1; have hfz39_2 := blk_frozen BK138.out 2; have hfz39_3 := blk_frozen BK138.out 3; have hfz39_4 := blk_frozen BK138.out 4; obtain ⟨Ao40, co40, eo40⟩ := Kd.R_slice HO_9.out; subst eo40) | (go_at_call 12; (with_reducible show Calls Try.prog 12 #[.agg #[.int .u8 _, .int .u8 _, .int .i64 _, .int .i64 _, _], _] (World.alloc _ (.cells #[.slice _ (List.length x9_2) _, .slice _ (List.length l2) _] 28)) _); (refine (opers_Run2.calls a0_0 a0_1 a0_2 a0_3 _ _ l0_4 _ _ x9_2 _ _ l2 t149 t152 _ ?side1 ?side2 ?side3 ?side4 ?side5 ?side6 A30.out).mono ?_); (case side1 => repeat (first | exact (Kd.C_below HR0_4.out HB.out) | (with_reducible refine Kd.C_alloc ?_ _) | (with_reducible refine Kd.C_drewN ?_ _) | (with_reducible refine Kd.C_drew ?_))); (case side2 => exact HC0_4.out); (case side3 => repeat (first | exact (Kd.R_reads' HO_9.out).2.2 | (with_reducible refine Kd.C_alloc ?_ _) | (with_reducible refine Kd.C_drewN ?_ _) | (with_reducible refine Kd.C_drew ?_))); (case side4 => exact (Kd.R_reads' HO_9.out).2.1); (case side5 => repeat (first | exact (Kd.C_below HR2.out HB.out) | (with_reducible refine Kd.C_alloc ?_ _) | (with_reducible refine Kd.C_drewN ?_ _) | (with_reducible refine Kd.C_drew ?_))); (case side6 => exact HC2.out); rintro e w41 ⟨v150, rfl, ho0, hb⟩; have n0_ := Aside0.mk (Kd.R_elder' (by (with_reducible repeat (first | apply Kd.R_alloc | apply Kd.R_drewN | apply Kd.R_drew)); exact HO_9.out) (Kd.R_base ho0) hb); have n1_ := Aside0.mk (Kd.R_elder' (by (with_reducible repeat (first | apply Kd.R_alloc | apply Kd.R_drewN | apply Kd.R_drew)); exact HO147.out) (Kd.R_base ho0) hb); have n2_ := Aside0.mk (Kd.R_lower (Kd.R_new' (Kd.R_new' ho0 (Kd.R_lt (by (with_reducible repeat (first | apply Kd.R_alloc | apply Kd.R_drewN | apply Kd.R_drew)); exact HO_9.out))) (Kd.R_lt (by (with_reducible repeat (first | apply Kd.R_alloc | apply Kd.R_drewN | apply Kd.R_drew)); exact HO147.out))) (below_size (by repeat (first | (with_reducible first | exact HB.out | apply below_alloc | apply pw_below_drewN | apply below_drew1 | refine below_set ?_ GE138.out) | exact HB.out)))); have n3_ := Aside0.mk (blk_below (g := gb138) (o := .cells #[.int .u8 a0_0, .int .u8 a0_1, .int .i64 a0_2, .int .i64 a0_3, .slice A0_4 l0_4.length c0_4] 24 (0, 0)) (by (with_reducible repeat (first | refine blk_drewN ?_ _ | refine blk_drew ?_ | refine blk_alloc ?_ _)); exact BK138.out) hb); have n4_ := Aside0.mk (below_step (by repeat (first | (with_reducible first | exact HB.out | apply below_alloc | apply pw_below_drewN | apply below_drew1 | refine below_set ?_ GE138.out) | exact HB.out)) hb); clear HO_9; clear HO147; clear BK138; clear HB; have HO_9 := n0_; have HO147 := n1_; have HO151 := n2_; have BK138 := n3_; have HB := n4_; clear n0_ n1_ n2_ n3_ n4_; (try clear hb); (try clear hb2); (try clear hk); (try clear hi); (try clear ho0)))
                                    have n0_ := Aside0.mk (Kd.R_drew HO_9.out)
                                    have n1_ := Aside0.mk (Kd.R_drew HO147.out)
                                    have n2_ := Aside0.mk (Kd.R_drew HO151.out)
                                    have n3_ := Aside0.mk (blk_drew BK138.out)
                                    have n4_ := Aside0.mk (below_drew1 HB.out)
                                    clear HO_9
                                    clear HO147
                                    clear HO151
                                    clear BK138
                                    clear HB
                                    have HO_9 := n0_
                                    have HO147 := n1_
                                    have HO151 := n2_
                                    have BK138 := n3_
                                    have HB := n4_
                                    clear n0_ n1_ n2_ n3_ n4_
                                    have q43 : (x11_17 : Int) ≤ ((l1.length : Int) : Int) := of_decide_eq_true (by first | (with_reducible assumption) | assumption)
                                    obtain ⟨i043, hi043, _, hsz43, _⟩ := info_parts info36
                                    have hroom43 : l1.length ≤ c1 := HC1.out
                                    have hC43 : Kd.C k36 _ A1 l1.length l1 := HR1.out
                                    have hcut43 := cut_to (P := Try.prog) 28 36 .i64 Try.underlying28 hi043 A1 l1.length c1 x11_17 (of_decide_eq_true (by first | (with_reducible assumption) | assumption)) q43 hroom43
                                    have hr43 := Kd.C_take (m := (x11_17 : Int).toNat) hC43 (by omega)
                                    have hy43 : y153.length = (x11_17 : Int).toNat := (by rw [Ny153.out, List.length_take]; omega)
                                    rw [← Ny153.out] at hr43
                                    rw [← hy43] at hcut43
                                    have HR156 := Aside0.mk hr43
                                    have HC156 := Aside0.mk (show y153.length ≤ c1 from by omega)
                                    clear hr43 hC43 hroom43 hi043 hsz43
                                    have KY43 := Aside0.mk hy43
                                    clear hy43
                                    replace q43 := eq_true q43
                                    refine start_ (n := 11) (S := fun w' => w'.cell? ⟨gb138, 0, none⟩ = some (.int .u8 a0_0) ∧ w'.cell? ⟨gb138, 1, none⟩ = some (.int .u8 a0_1) ∧ w'.cell? ⟨gb138, 2, none⟩ = some (.int .i64 a0_2) ∧ w'.cell? ⟨gb138, 3, none⟩ = some (.int .i64 a0_3) ∧ w'.cell? ⟨gb138, 4, none⟩ = some (.slice A0_4 l0_4.length c0_4)) (ds := []) #[false, false, false, false, false, false, false, false, false, false, false] (by kernel_rfl) rfl rfl ⟨(blk_cell BK138.out 0).trans rfl, (blk_cell BK138.out 1).trans rfl, (blk_cell BK138.out 2).trans rfl, (blk_cell BK138.out 3).trans rfl, (blk_cell BK138.out 4).trans rfl⟩ (fun hHeld => ?_); refine with_tabW tailracelaw13_OpersOrder.tab23 tailracelaw13_OpersOrder.bits23 (fun HT_ HW_ => ?_)
                                    generalize w41.drew = w42 at HO_9 HO147 HO151 BK138 HB HR156 hHeld ⊢
                                    refine pure_ (i := 1) (N := some 109) (v := ?_) (a' := ?_) #[false, true, false, false, false, false, false, false, false, false, false] rfl rfl (any_of HT_.out (by kernel_rfl)) (fun _ _ _ h => h) (Or.inl ⟨by rfl, ?_⟩) ?_ ?_
                                    rotate_left
                                    · intro w'
                                      go_simp
                                      with_reducible rfl
                                    rotate_left
                                    · simp only [Act.put, List.setIfInBounds_toArray, List.set_cons_zero, List.set_cons_succ, i64_w, i32_w]
                                      rfl
                                    refine pure_ (i := 2) (N := some 110) (v := ?_) (a' := ?_) #[false, true, true, false, false, false, false, false, false, false, false] rfl rfl (any_of HT_.out (by kernel_rfl)) (fun _ _ _ h => h) (Or.inl ⟨by rfl, ?_⟩) ?_ ?_
                                    rotate_left
                                    · intro w'
                                      go_simp
                                      with_reducible rfl
                                    rotate_left
                                    · simp only [Act.put, List.setIfInBounds_toArray, List.set_cons_zero, List.set_cons_succ, i64_w, i32_w]
                                      rfl
                                    refine pure_ (i := 3) (N := some 111) (v := ?_) (a' := ?_) #[false, true, true, true, false, false, false, false, false, false, false] rfl rfl (any_of HT_.out (by kernel_rfl)) (fun _ _ _ h => h) (Or.inl ⟨by rfl, ?_⟩) ?_ ?_
                                    rotate_left
                                    · intro w'
                                      go_simp
                                      with_reducible rfl
                                    rotate_left
                                    · simp only [Act.put, List.setIfInBounds_toArray, List.set_cons_zero, List.set_cons_succ, i64_w, i32_w]
                                      rfl
                                    refine pure_ (i := 4) (N := some 112) (v := ?_) (a' := ?_) #[false, true, true, true, true, false, false, false, false, false, false] rfl rfl (any_of HT_.out (by kernel_rfl)) (fun _ _ _ h => h) (Or.inl ⟨by rfl, ?_⟩) ?_ ?_
                                    rotate_left
                                    · intro w'
                                      go_simp
                                      with_reducible rfl
                                    rotate_left
                                    · simp only [Act.put, List.setIfInBounds_toArray, List.set_cons_zero, List.set_cons_succ, i64_w, i32_w]
                                      rfl
                                    refine take_ (i := 0) (N := some 108) (v := ?_) (a' := ?_) #[true, true, true, true, true, false, false, false, false, false, false] rfl rfl (take_ofW HT_.out HW_.out (by kernel_rfl)) (fun _ _ _ h => h) (Or.inl ⟨by rfl, ?_⟩) hHeld ?_ ?_
                                    rotate_left
                                    · rintro w' ⟨s0, s1, s2, s3, s4⟩
                                      go_simp
                                      with_reducible rfl
                                    rotate_left
                                    · simp only [Act.put, List.setIfInBounds_toArray, List.set_cons_zero, List.set_cons_succ, i64_w, i32_w]
                                      rfl
                                    refine one_ (i := 5) (N := some 113) #[true, true, true, true, true, true, false, false, false, false, false] rfl rfl (one_of HT_.out (by kernel_rfl)) (by decide) (fun K hK => ?_)
                                    refine lit_ (by rfl) rfl (by go_simp; exact ⟨rfl, rfl⟩) ?_
                                    refine hK.out _ _ ⟨(blk_cell (blk_alloc BK138.out _) 0).trans rfl, (blk_cell (blk_alloc BK138.out _) 1).trans rfl, (blk_cell (blk_alloc BK138.out _) 2).trans rfl, (blk_cell (blk_alloc BK138.out _) 3).trans rfl, (blk_cell (blk_alloc BK138.out _) 4).trans rfl⟩ (fun hHeld => ?_)
                                    clear hK K
                                    refine norm_ (a' := ?_) ?_ ?_
                                    rotate_left
                                    · show Act.put _ (some 113) _ = _
                                      simp only [Act.put, List.setIfInBounds_toArray, List.set_cons_zero, List.set_cons_succ, i64_w, i32_w]
                                      rfl
                                    refine one_ (i := 6) (N := some 114) #[true, true, true, true, true, true, true, false, false, false, false] rfl rfl (one_of HT_.out (by kernel_rfl)) (by decide) (fun K hK => ?_)
                                    refine goes_ Try.func12 (by kernel_rfl) rfl #[.agg #[.int .u8 a0_0, .int .u8 a0_1, .int .i64 a0_2, .int .i64 a0_3, .slice A0_4 l0_4.length c0_4], .slice (some ⟨w42.heap.size, 0, none⟩) 2 2] (by rfl) rfl rfl (by (try simp only [List.map_toArray, List.map_cons, List.map_nil]); first | done | rfl | (simp only [List.length_drop, List.length_take]; rfl)) ?_
                                    with_reducible refine (opers_Run2.calls a0_0 a0_1 a0_2 a0_3 _ _ l0_4 _ _ y153 _ _ l2 t157 t160 _ ?side1 ?side2 ?side3 ?side4 ?side5 ?side6 A33.out).mono ?_
                                    (case side1 => repeat (first | exact (Kd.C_below HR0_4.out HB.out) | (with_reducible refine Kd.C_alloc ?_ _) | (with_reducible refine Kd.C_drewN ?_ _) | (with_reducible refine Kd.C_drew ?_)))
                                    (case side2 => exact HC0_4.out)
                                    (case side3 => repeat (first | exact (Kd.C_below HR156.out HB.out) | (with_reducible refine Kd.C_alloc ?_ _) | (with_reducible refine Kd.C_drewN ?_ _) | (with_reducible refine Kd.C_drew ?_)))
                                    (case side4 => exact HC156.out)
                                    (case side5 => repeat (first | exact (Kd.C_below HR2.out HB.out) | (with_reducible refine Kd.C_alloc ?_ _) | (with_reducible refine Kd.C_drewN ?_ _) | (with_reducible refine Kd.C_drew ?_)))
                                    (case side6 => exact HC2.out)
                                    rintro e w44 ⟨v158, rfl, ho0, hb⟩
                                    refine ⟨_, rfl, ?_⟩
                                    have n0_ := Aside0.mk (Kd.R_elder' (by (with_reducible repeat (first | apply Kd.R_alloc | apply Kd.R_drewN | apply Kd.R_drew)); exact HO_9.out) (Kd.R_base ho0) hb)
                                    have n1_ := Aside0.mk (Kd.R_elder' (by (with_reducible repeat (first | apply Kd.R_alloc | apply Kd.R_drewN | apply Kd.R_drew)); exact HO147.out) (Kd.R_base ho0) hb)
                                    have n2_ := Aside0.mk (Kd.R_elder' (by (with_reducible repeat (first | apply Kd.R_alloc | apply Kd.R_drewN | apply Kd.R_drew)); exact HO151.out) (Kd.R_base ho0) hb)
                                    have n3_ := Aside0.mk (Kd.R_lower (Kd.R_new' (Kd.R_new' (Kd.R_new' ho0 (Kd.R_lt (by (with_reducible repeat (first | apply Kd.R_alloc | apply Kd.R_drewN | apply Kd.R_drew)); exact HO_9.out))) (Kd.R_lt (by (with_reducible repeat (first | apply Kd.R_alloc | apply Kd.R_drewN | apply Kd.R_drew)); exact HO147.out))) (Kd.R_lt (by (with_reducible repeat (first | apply Kd.R_alloc | apply Kd.R_drewN | apply Kd.R_drew)); exact HO151.out))) (below_size (by repeat (first | (with_reducible first | exact HB.out | apply below_alloc | apply pw_below_drewN | apply below_drew1 | refine below_set ?_ GE138.out) | exact HB.out))))
                                    have n4_ := Aside0.mk (blk_below (g := gb138) (o := .cells #[.int .u8 a0_0, .int .u8 a0_1, .int .i64 a0_2, .int .i64 a0_3, .slice A0_4 l0_4.length c0_4] 24 (0, 0)) (by (with_reducible repeat (first | refine blk_drewN ?_ _ | refine blk_drew ?_ | refine blk_alloc ?_ _)); exact BK138.out) hb)
                                    have n5_ := Aside0.mk (below_step (by repeat (first | (with_reducible first | exact HB.out | apply below_alloc | apply pw_below_drewN | apply below_drew1 | refine below_set ?_ GE138.out) | exact HB.out)) hb)
                                    clear HO_9
                                    clear HO147
                                    clear HO151
                                    clear BK138
                                    clear HB
                                    have HO_9 := n0_
                                    have HO147 := n1_
                                    have HO151 := n2_
                                    have HO159 := n3_
                                    have BK138 := n4_
                                    have HB := n5_
                                    clear n0_ n1_ n2_ n3_ n4_ n5_
                                    (try clear hb)
                                    (try clear hb2)
                                    (try clear hk)
                                    (try clear hi)
                                    (try clear ho0)
                                    refine hK.out _ _ ⟨(blk_cell BK138.out 0).trans rfl, (blk_cell BK138.out 1).trans rfl, (blk_cell BK138.out 2).trans rfl, (blk_cell BK138.out 3).trans rfl, (blk_cell BK138.out 4).trans rfl⟩ (fun hHeld => ?_)
                                    clear hK K
                                    refine norm_ (a' := ?_) ?_ ?_
                                    rotate_left
                                    · show Act.put _ (some 114) _ = _
                                      simp only [Act.put, List.setIfInBounds_toArray, List.set_cons_zero, List.set_cons_succ, i64_w, i32_w]
                                      rfl
                                    refine pure_ (i := 7) (N := some 107) (v := ?_) (a' := ?_) #[true, true, true, true, true, true, true, true, false, false, false] rfl rfl (any_of HT_.out (by kernel_rfl)) (fun _ _ _ h => h) (Or.inl ⟨by rfl, ?_⟩) ?_ ?_
                                    rotate_left
                                    · intro w'
                                      go_simp
                                      with_reducible rfl
                                    rotate_left
                                    · simp only [Act.put, List.setIfInBounds_toArray, List.set_cons_zero, List.set_cons_succ, i64_w, i32_w]
                                      rfl
                                    refine pure_ (i := 8) (N := some 115) (v := ?_) (a' := ?_) #[true, true, true, true, true, true, true, true, true, false, false] rfl rfl (any_of HT_.out (by kernel_rfl)) (fun _ _ _ h => h) (Or.inl ⟨by rfl, ?_⟩) ?_ ?_
                                    rotate_left
                                    · intro w'
                                      go_simp
                                      with_reducible rfl
                                    rotate_left
                                    · simp only [Act.put, List.setIfInBounds_toArray, List.set_cons_zero, List.set_cons_succ, i64_w, i32_w]
                                      rfl
                                    refine pure_ (i := 9) (N := some 116) (v := ?_) (a' := ?_) #[true, true, true, true, true, true, true, true, true, true, false] rfl rfl (any_of HT_.out (by kernel_rfl)) (fun _ _ _ h => h) (Or.inl ⟨by rfl, ?_⟩) ?_ ?_
                                    rotate_left
                                    · intro w'
                                      go_simp
                                      with_reducible rfl
                                    rotate_left
                                    · simp only [Act.put, List.setIfInBounds_toArray, List.set_cons_zero, List.set_cons_succ, i64_w, i32_w]
                                      rfl
                                    refine pure_ (i := 10) (N := some 14) (v := ?_) (a' := ?_) #[true, true, true, true, true, true, true, true, true, true, true] rfl rfl (any_of HT_.out (by kernel_rfl)) (fun _ _ _ h => h) (Or.inl ⟨by rfl, ?_⟩) ?_ ?_
                                    rotate_left
                                    · intro w'
                                      go_simp
                                      with_reducible rfl
                                    rotate_left
                                    · simp only [Act.put, List.setIfInBounds_toArray, List.set_cons_zero, List.set_cons_succ, i64_w, i32_w]
                                      rfl
                                    refine done_ (done_of HT_.out (by kernel_rfl)) ?_
                                    try go_wp2
                                    have n0_ := Aside0.mk (Kd.R_drew HO_9.out)
                                    have n1_ := Aside0.mk (Kd.R_drew HO147.out)
                                    have n2_ := Aside0.mk (Kd.R_drew HO151.out)
                                    have n3_ := Aside0.mk (Kd.R_drew HO159.out)
                                    have n4_ := Aside0.mk (blk_drew BK138.out)
                                    have n5_ := Aside0.mk (below_drew1 HB.out)
                                    clear HO_9
                                    clear HO147
                                    clear HO151
                                    clear HO159
                                    clear BK138
                                    clear HB
                                    have HO_9 := n0_
                                    have HO147 := n1_
                                    have HO151 := n2_
                                    have HO159 := n3_
                                    have BK138 := n4_
                                    have HB := n5_
                                    clear n0_ n1_ n2_ n3_ n4_ n5_
                                    have q46 : (x11_17 : Int) ≤ ((l1.length : Int) : Int) := of_decide_eq_true (by first | (with_reducible assumption) | assumption)
                                    obtain ⟨i046, hi046, _, hsz46, _⟩ := info_parts info36
                                    have hroom46 : l1.length ≤ c1 := HC1.out
                                    have hC46 : Kd.C k36 _ A1 l1.length l1 := HR1.out
                                    have q046 : (0 : Int) ≤ (x11_17 : Int) := of_decide_eq_true (by first | (with_reducible assumption) | assumption)
                                    have hcut46 := cut_from (P := Try.prog) 28 36 .i64 Try.underlying28 hi046 2 hsz46 A1 l1.length c1 x11_17 q046 q46
                                    have hr46 := Kd.C_drop (m := (x11_17 : Int).toNat) (c := c1) hC46 (by omega) hroom46
                                    obtain ⟨A46, hA46⟩ : ∃ Az_, Az_ = (if c1 = (x11_17 : Int).toNat then A1 else (A1 : Option Addr).map (·.add ((x11_17 : Int).toNat * 2))) := ⟨_, rfl⟩
                                    obtain ⟨c46, hc46⟩ : ∃ cz_, cz_ = c1 - (x11_17 : Int).toNat := ⟨_, rfl⟩
                                    have hy46 : y161.length = l1.length - (x11_17 : Int).toNat := (by rw [Ny161.out, List.length_drop] <;> omega)
                                    rw [show (l1).drop (x11_17 : Int).toNat = y161 from Ny161.out.symm] at hr46
                                    replace hr46 : Kd.C k36 _ A46 y161.length y161 := (by rw [hA46]; exact hr46)
                                    rw [← hy46, ← hA46, ← hc46] at hcut46
                                    have HR164 := Aside0.mk hr46
                                    have HC164 := Aside0.mk (show y161.length ≤ c46 from by rw [hy46, hc46]; exact Nat.sub_le_sub_right hroom46 _)
                                    clear hr46 hC46 hroom46 hi046 hsz46 hc46
                                    have KY46 := Aside0.mk hy46
                                    have KA46 := Aside0.mk hA46
                                    clear hy46 hA46
                                    replace q46 := eq_true q46
                                    refine start_ (n := 10) (S := fun w' => w'.cell? ⟨gb138, 0, none⟩ = some (.int .u8 a0_0) ∧ w'.cell? ⟨gb138, 1, none⟩ = some (.int .u8 a0_1) ∧ w'.cell? ⟨gb138, 2, none⟩ = some (.int .i64 a0_2) ∧ w'.cell? ⟨gb138, 3, none⟩ = some (.int .i64 a0_3) ∧ w'.cell? ⟨gb138, 4, none⟩ = some (.slice A0_4 l0_4.length c0_4)) (ds := []) #[false, false, false, false, false, false, false, false, false, false] (by kernel_rfl) rfl rfl ⟨(blk_cell BK138.out 0).trans rfl, (blk_cell BK138.out 1).trans rfl, (blk_cell BK138.out 2).trans rfl, (blk_cell BK138.out 3).trans rfl, (blk_cell BK138.out 4).trans rfl⟩ (fun hHeld => ?_); refine with_tabW tailracelaw13_OpersOrder.tab24 tailracelaw13_OpersOrder.bits24 (fun HT_ HW_ => ?_)
                                    generalize w44.drew = w45 at HO_9 HO147 HO151 HO159 BK138 HB HR164 hHeld ⊢
                                    refine pure_ (i := 1) (N := some 119) (v := ?_) (a' := ?_) #[false, true, false, false, false, false, false, false, false, false] rfl rfl (any_of HT_.out (by kernel_rfl)) (fun _ _ _ h => h) (Or.inl ⟨by rfl, ?_⟩) ?_ ?_
                                    rotate_left
                                    · intro w'
                                      go_simp
                                      with_reducible rfl
                                    rotate_left
                                    · simp only [Act.put, List.setIfInBounds_toArray, List.set_cons_zero, List.set_cons_succ, i64_w, i32_w]
                                      rfl
                                    refine pure_ (i := 2) (N := some 120) (v := ?_) (a' := ?_) #[false, true, true, false, false, false, false, false, false, false] rfl rfl (any_of HT_.out (by kernel_rfl)) (fun _ _ _ h => h) (Or.inl ⟨by rfl, ?_⟩) ?_ ?_
                                    rotate_left
                                    · intro w'
                                      go_simp
                                      with_reducible rfl
                                    rotate_left
                                    · simp only [Act.put, List.setIfInBounds_toArray, List.set_cons_zero, List.set_cons_succ, i64_w, i32_w]
                                      rfl
                                    refine pure_ (i := 3) (N := some 121) (v := ?_) (a' := ?_) #[false, true, true, true, false, false, false, false, false, false] rfl rfl (any_of HT_.out (by kernel_rfl)) (fun _ _ _ h => h) (Or.inl ⟨by rfl, ?_⟩) ?_ ?_
                                    rotate_left
                                    · intro w'
                                      go_simp
                                      with_reducible rfl
                                    rotate_left
                                    · simp only [Act.put, List.setIfInBounds_toArray, List.set_cons_zero, List.set_cons_succ, i64_w, i32_w]
                                      rfl
                                    refine take_ (i := 0) (N := some 118) (v := ?_) (a' := ?_) #[true, true, true, true, false, false, false, false, false, false] rfl rfl (take_ofW HT_.out HW_.out (by kernel_rfl)) (fun _ _ _ h => h) (Or.inl ⟨by rfl, ?_⟩) hHeld ?_ ?_
                                    rotate_left
                                    · rintro w' ⟨s0, s1, s2, s3, s4⟩
                                      go_simp
                                      with_reducible rfl
                                    rotate_left
                                    · simp only [Act.put, List.setIfInBounds_toArray, List.set_cons_zero, List.set_cons_succ, i64_w, i32_w]
                                      rfl
                                    refine one_ (i := 4) (N := some 122) #[true, true, true, true, true, false, false, false, false, false] rfl rfl (one_of HT_.out (by kernel_rfl)) (by decide) (fun K hK => ?_)
                                    refine lit_ (by rfl) rfl (by go_simp; exact ⟨rfl, rfl⟩) ?_
                                    refine hK.out _ _ ⟨(blk_cell (blk_alloc BK138.out _) 0).trans rfl, (blk_cell (blk_alloc BK138.out _) 1).trans rfl, (blk_cell (blk_alloc BK138.out _) 2).trans rfl, (blk_cell (blk_alloc BK138.out _) 3).trans rfl, (blk_cell (blk_alloc BK138.out _) 4).trans rfl⟩ (fun hHeld => ?_)
                                    clear hK K
                                    refine norm_ (a' := ?_) ?_ ?_
                                    rotate_left
                                    · show Act.put _ (some 122) _ = _
                                      simp only [Act.put, List.setIfInBounds_toArray, List.set_cons_zero, List.set_cons_succ, i64_w, i32_w]
                                      rfl
                                    refine one_ (i := 5) (N := some 123) #[true, true, true, true, true, true, false, false, false, false] rfl rfl (one_of HT_.out (by kernel_rfl)) (by decide) (fun K hK => ?_)
                                    refine goes_ Try.func12 (by kernel_rfl) rfl #[.agg #[.int .u8 a0_0, .int .u8 a0_1, .int .i64 a0_2, .int .i64 a0_3, .slice A0_4 l0_4.length c0_4], .slice (some ⟨w45.heap.size, 0, none⟩) 2 2] (by rfl) rfl rfl (by (try simp only [List.map_toArray, List.map_cons, List.map_nil]); first | done | rfl | (simp only [List.length_drop, List.length_take]; rfl)) ?_
                                    refine (opers_Run2.calls a0_0 a0_1 a0_2 a0_3 _ _ l0_4 _ _ y161 _ _ ([] : List (S36)) t165 t168 _ ?side1 ?side2 ?side3 ?side4 ?side5 ?side6 A36.out).mono ?_
                                    (case side1 => repeat (first | exact (Kd.C_below HR0_4.out HB.out) | (with_reducible refine Kd.C_alloc ?_ _) | (with_reducible refine Kd.C_drewN ?_ _) | (with_reducible refine Kd.C_drew ?_)))
                                    (case side2 => exact HC0_4.out)
                                    (case side3 => repeat (first | exact (Kd.C_below HR164.out HB.out) | (with_reducible refine Kd.C_alloc ?_ _) | (with_reducible refine Kd.C_drewN ?_ _) | (with_reducible refine Kd.C_drew ?_)))
                                    (case side4 => exact HC164.out)
                                    (case side5 => exact Kd.C_nil _ _)
                                    (case side6 => exact Nat.le_refl _)
                                    rintro e w47 ⟨v166, rfl, ho0, hb⟩
                                    refine ⟨_, rfl, ?_⟩
                                    have n0_ := Aside0.mk (Kd.R_elder' (by (with_reducible repeat (first | apply Kd.R_alloc | apply Kd.R_drewN | apply Kd.R_drew)); exact HO_9.out) (Kd.R_base ho0) hb)
                                    have n1_ := Aside0.mk (Kd.R_elder' (by (with_reducible repeat (first | apply Kd.R_alloc | apply Kd.R_drewN | apply Kd.R_drew)); exact HO147.out) (Kd.R_base ho0) hb)
                                    have n2_ := Aside0.mk (Kd.R_elder' (by (with_reducible repeat (first | apply Kd.R_alloc | apply Kd.R_drewN | apply Kd.R_drew)); exact HO151.out) (Kd.R_base ho0) hb)
                                    have n3_ := Aside0.mk (Kd.R_elder' (by (with_reducible repeat (first | apply Kd.R_alloc | apply Kd.R_drewN | apply Kd.R_drew)); exact HO159.out) (Kd.R_base ho0) hb)
                                    have n4_ := Aside0.mk (Kd.R_lower (Kd.R_new' (Kd.R_new' (Kd.R_new' (Kd.R_new' ho0 (Kd.R_lt (by (with_reducible repeat (first | apply Kd.R_alloc | apply Kd.R_drewN | apply Kd.R_drew)); exact HO_9.out))) (Kd.R_lt (by (with_reducible repeat (first | apply Kd.R_alloc | apply Kd.R_drewN | apply Kd.R_drew)); exact HO147.out))) (Kd.R_lt (by (with_reducible repeat (first | apply Kd.R_alloc | apply Kd.R_drewN | apply Kd.R_drew)); exact HO151.out))) (Kd.R_lt (by (with_reducible repeat (first | apply Kd.R_alloc | apply Kd.R_drewN | apply Kd.R_drew)); exact HO159.out))) (below_size (by repeat (first | (with_reducible first | exact HB.out | apply below_alloc | apply pw_below_drewN | apply below_drew1 | refine below_set ?_ GE138.out) | exact HB.out))))
                                    have n5_ := Aside0.mk (blk_below (g := gb138) (o := .cells #[.int .u8 a0_0, .int .u8 a0_1, .int .i64 a0_2, .int .i64 a0_3, .slice A0_4 l0_4.length c0_4] 24 (0, 0)) (by (with_reducible repeat (first | refine blk_drewN ?_ _ | refine blk_drew ?_ | refine blk_alloc ?_ _)); exact BK138.out) hb)
                                    have n6_ := Aside0.mk (below_step (by repeat (first | (with_reducible first | exact HB.out | apply below_alloc | apply pw_below_drewN | apply below_drew1 | refine below_set ?_ GE138.out) | exact HB.out)) hb)
                                    clear HO_9
                                    clear HO147
                                    clear HO151
                                    clear HO159
                                    clear BK138
                                    clear HB
                                    have HO_9 := n0_
                                    have HO147 := n1_
                                    have HO151 := n2_
                                    have HO159 := n3_
                                    have HO167 := n4_
                                    have BK138 := n5_
                                    have HB := n6_
                                    clear n0_ n1_ n2_ n3_ n4_ n5_ n6_
                                    (try clear hb)
                                    (try clear hb2)
                                    (try clear hk)
                                    (try clear hi)
                                    (try clear ho0)
                                    refine hK.out _ _ ⟨(blk_cell BK138.out 0).trans rfl, (blk_cell BK138.out 1).trans rfl, (blk_cell BK138.out 2).trans rfl, (blk_cell BK138.out 3).trans rfl, (blk_cell BK138.out 4).trans rfl⟩ (fun hHeld => ?_)
                                    clear hK K
                                    refine norm_ (a' := ?_) ?_ ?_
                                    rotate_left
                                    · show Act.put _ (some 123) _ = _
                                      simp only [Act.put, List.setIfInBounds_toArray, List.set_cons_zero, List.set_cons_succ, i64_w, i32_w]
                                      rfl
                                    refine pure_ (i := 6) (N := some 117) (v := ?_) (a' := ?_) #[true, true, true, true, true, true, true, false, false, false] rfl rfl (any_of HT_.out (by kernel_rfl)) (fun _ _ _ h => h) (Or.inl ⟨by rfl, ?_⟩) ?_ ?_
                                    rotate_left
                                    · intro w'
                                      go_simp
                                      with_reducible rfl
                                    rotate_left
                                    · simp only [Act.put, List.setIfInBounds_toArray, List.set_cons_zero, List.set_cons_succ, i64_w, i32_w]
                                      rfl
                                    refine pure_ (i := 7) (N := some 124) (v := ?_) (a' := ?_) #[true, true, true, true, true, true, true, true, false, false] rfl rfl (any_of HT_.out (by kernel_rfl)) (fun _ _ _ h => h) (Or.inl ⟨by rfl, ?_⟩) ?_ ?_
                                    rotate_left
                                    · intro w'
                                      go_simp
                                      with_reducible rfl
                                    rotate_left
                                    · simp only [Act.put, List.setIfInBounds_toArray, List.set_cons_zero, List.set_cons_succ, i64_w, i32_w]
                                      rfl
                                    refine pure_ (i := 8) (N := some 125) (v := ?_) (a' := ?_) #[true, true, true, true, true, true, true, true, true, false] rfl rfl (any_of HT_.out (by kernel_rfl)) (fun _ _ _ h => h) (Or.inl ⟨by rfl, ?_⟩) ?_ ?_
                                    rotate_left
                                    · intro w'
                                      go_simp
                                      with_reducible rfl
                                    rotate_left
                                    · simp only [Act.put, List.setIfInBounds_toArray, List.set_cons_zero, List.set_cons_succ, i64_w, i32_w]
                                      rfl
                                    refine pure_ (i := 9) (N := some 15) (v := ?_) (a' := ?_) #[true, true, true, true, true, true, true, true, true, true] rfl rfl (any_of HT_.out (by kernel_rfl)) (fun _ _ _ h => h) (Or.inl ⟨by rfl, ?_⟩) ?_ ?_
                                    rotate_left
                                    · intro w'
                                      go_simp
                                      with_reducible rfl
                                    rotate_left
                                    · simp only [Act.put, List.setIfInBounds_toArray, List.set_cons_zero, List.set_cons_succ, i64_w, i32_w]
                                      rfl
                                    refine done_ (done_of HT_.out (by kernel_rfl)) ?_
                                    try go_wp2
                                    go_meet
                                    case rel => exact ⟨_, (t145), (t149), (t157), (t165), H', ⟨by have := HJ4.out; have := HK2.out; have := HJ15.out; have := HJ17.out; have := HJ25.out; first | omega | exact Nat.le_refl _⟩, ⟨by (with_reducible repeat (first | apply Kd.R_alloc | apply Kd.R_drewN | apply Kd.R_drew)); exact Kd.R_mono HO147.out (fun _ hk => ⟨hk.1.1.2, ⟨hk.1.2, hk.2⟩⟩)⟩, ⟨by (with_reducible repeat (first | apply Kd.R_alloc | apply Kd.R_drewN | apply Kd.R_drew)); exact Kd.R_mono HO151.out (fun _ hk => ⟨hk.1.1.2, ⟨hk.1.2, hk.2⟩⟩)⟩, ⟨by (with_reducible repeat (first | apply Kd.R_alloc | apply Kd.R_drewN | apply Kd.R_drew)); exact Kd.R_mono HO159.out (fun _ hk => ⟨hk.1.1.2, ⟨hk.1.2, hk.2⟩⟩)⟩, ⟨by (with_reducible repeat (first | apply Kd.R_alloc | apply Kd.R_drewN | apply Kd.R_drew)); exact Kd.R_mono HO167.out (fun _ hk => ⟨hk.1.1.2, ⟨hk.1.2, hk.2⟩⟩)⟩, ⟨by (with_reducible repeat (first | refine blk_drewN ?_ _ | refine blk_drew ?_ | refine blk_alloc ?_ _)); exact BK138.out⟩, ⟨by repeat (first | (with_reducible first | exact HB.out | apply below_alloc | apply pw_below_drewN | apply below_drew1 | refine below_set ?_ GE138.out) | exact HB.out)⟩⟩
                                  · rw [if_neg c32] at H
                                    exact absurd H (by simp)
                                · rw [if_neg c31] at H
                                  exact absurd H (by simp)
                              · replace c28 := Bool.eq_false_iff.mpr c28
                                subst c28
                                have H1 : ((opers_Run1.f a0_0 a0_1 a0_2 a0_3 l0_4 l1).bind fun bt169 => ((opers_Run1.f a0_0 a0_1 a0_2 a0_3 l0_4 x9_2).bind fun bt173 => (if 0 ≤ x11_17 then (if x11_17 ≤ (l1.length : Int) then ((opers_Run1.f a0_0 a0_1 a0_2 a0_3 l0_4 (l1.take (x11_17 : Int).toNat)).bind fun bt181 => ((opers_Run1.f a0_0 a0_1 a0_2 a0_3 l0_4 (l1.drop (x11_17 : Int).toNat)).bind fun bt189 => (tailracelaw13_OpersOrder.j5 kj25 bt169.1 bt173.1 bt181.1 bt189.1 a0_0 a0_1 a0_2 a0_3 l0_4))) else (none)) else (none)))) = some r := by rw [if_neg (show ¬ (false = true) by decide)] at H; exact H
                                clear H
                                have H := H1
                                clear H1
                                replace H := Option.bind_eq_some_iff.mp H
                                obtain ⟨⟨t169, t172⟩, A480, H⟩ := H
                                replace H : ((opers_Run1.f a0_0 a0_1 a0_2 a0_3 l0_4 x9_2).bind fun bt173 => (if 0 ≤ x11_17 then (if x11_17 ≤ (l1.length : Int) then ((opers_Run1.f a0_0 a0_1 a0_2 a0_3 l0_4 (l1.take (x11_17 : Int).toNat)).bind fun bt181 => ((opers_Run1.f a0_0 a0_1 a0_2 a0_3 l0_4 (l1.drop (x11_17 : Int).toNat)).bind fun bt189 => (tailracelaw13_OpersOrder.j5 kj25 t169 bt173.1 bt181.1 bt189.1 a0_0 a0_1 a0_2 a0_3 l0_4))) else (none)) else (none))) = some r := H
                                have A48 := Aside0.mk A480
                                clear A480
                                replace H := Option.bind_eq_some_iff.mp H
                                obtain ⟨⟨t173, t176⟩, A490, H⟩ := H
                                replace H : (if 0 ≤ x11_17 then (if x11_17 ≤ (l1.length : Int) then ((opers_Run1.f a0_0 a0_1 a0_2 a0_3 l0_4 (l1.take (x11_17 : Int).toNat)).bind fun bt181 => ((opers_Run1.f a0_0 a0_1 a0_2 a0_3 l0_4 (l1.drop (x11_17 : Int).toNat)).bind fun bt189 => (tailracelaw13_OpersOrder.j5 kj25 t169 t173 bt181.1 bt189.1 a0_0 a0_1 a0_2 a0_3 l0_4))) else (none)) else (none)) = some r := H
                                have A49 := Aside0.mk A490
                                clear A490
                                by_cases c50 : 0 ≤ x11_17
                                · rw [if_pos c50] at H
                                  have c50b0 := eq_true c50
                                  have c50b1 : decide (0 ≤ x11_17) = true := decide_eq_true c50
                                  clear c50
                                  by_cases c51 : x11_17 ≤ (l1.length : Int)
                                  · as_aux_lemma =>
                                    rw [if_pos c51] at H
                                    have c51b0 := eq_true c51
                                    have c51b1 : decide (x11_17 ≤ (l1.length : Int)) = true := decide_eq_true c51
                                    clear c51
                                    obtain ⟨y177, hy177⟩ : ∃ y_ : List (S36), y_ = (l1.take (x11_17 : Int).toNat) := ⟨_, rfl⟩
                                    replace H : ((opers_Run1.f a0_0 a0_1 a0_2 a0_3 l0_4 y177).bind fun bt181 => ((opers_Run1.f a0_0 a0_1 a0_2 a0_3 l0_4 (l1.drop (x11_17 : Int).toNat)).bind fun bt189 => (tailracelaw13_OpersOrder.j5 kj25 t169 t173 bt181.1 bt189.1 a0_0 a0_1 a0_2 a0_3 l0_4))) = some r := by first | (rw [hy177]; with_reducible exact H) | (have H2_ := (Option.bind_some _ _).symm.trans H; rw [hy177]; with_reducible exact H2_) | (have H2_ := (Option.bind_some _ _).symm.trans H; with_reducible exact H2_) | with_reducible exact H | (rw [hy177]; exact H) | exact H
                                    have Ny177 := Aside0.mk hy177
                                    clear hy177
                                    replace H := Option.bind_eq_some_iff.mp H
                                    obtain ⟨⟨t181, t184⟩, A520, H⟩ := H
                                    replace H : ((opers_Run1.f a0_0 a0_1 a0_2 a0_3 l0_4 (l1.drop (x11_17 : Int).toNat)).bind fun bt189 => (tailracelaw13_OpersOrder.j5 kj25 t169 t173 t181 bt189.1 a0_0 a0_1 a0_2 a0_3 l0_4)) = some r := H
                                    have A52 := Aside0.mk A520
                                    clear A520
                                    have c53b0 := eq_true (of_decide_eq_true (by first | (with_reducible assumption) | assumption) : 0 ≤ x11_17)
                                    have c54b0 := eq_true (of_decide_eq_true (by first | (with_reducible assumption) | assumption) : x11_17 ≤ (l1.length : Int))
                                    obtain ⟨y185, hy185⟩ : ∃ y_ : List (S36), y_ = (l1.drop (x11_17 : Int).toNat) := ⟨_, rfl⟩
                                    replace H : ((opers_Run1.f a0_0 a0_1 a0_2 a0_3 l0_4 y185).bind fun bt189 => (tailracelaw13_OpersOrder.j5 kj25 t169 t173 t181 bt189.1 a0_0 a0_1 a0_2 a0_3 l0_4)) = some r := by first | (rw [hy185]; with_reducible exact H) | (have H2_ := (Option.bind_some _ _).symm.trans H; rw [hy185]; with_reducible exact H2_) | (have H2_ := (Option.bind_some _ _).symm.trans H; with_reducible exact H2_) | with_reducible exact H | (rw [hy185]; exact H) | exact H
                                    have Ny185 := Aside0.mk hy185
                                    clear hy185
                                    replace H := Option.bind_eq_some_iff.mp H
                                    obtain ⟨⟨t189, t192⟩, A550, H⟩ := H
                                    replace H : (tailracelaw13_OpersOrder.j5 kj25 t169 t173 t181 t189 a0_0 a0_1 a0_2 a0_3 l0_4) = some r := H
                                    have A55 := Aside0.mk A550
                                    clear A550
                                    have H' := Aside0.mk H
                                    clear H
                                    have hcz56_0 : wc.cell? ⟨gb138, 0, none⟩ = some (.int .u8 a0_0) := (blk_cell BK138.out 0).trans rfl
                                    have hcz56_1 : wc.cell? ⟨gb138, 1, none⟩ = some (.int .u8 a0_1) := (blk_cell BK138.out 1).trans rfl
                                    have hcz56_2 : wc.cell? ⟨gb138, 2, none⟩ = some (.int .i64 a0_2) := (blk_cell BK138.out 2).trans rfl
                                    have hcz56_3 : wc.cell? ⟨gb138, 3, none⟩ = some (.int .i64 a0_3) := (blk_cell BK138.out 3).trans rfl
                                    have hcz56_4 : wc.cell? ⟨gb138, 4, none⟩ = some (.slice A0_4 l0_4.length c0_4) := (blk_cell BK138.out 4).trans rfl
                                    have hfz56_0 := blk_frozen BK138.out 0
                                    have hfz56_1 := blk_frozen BK138.out 1
                                    have hfz56_2 := blk_frozen BK138.out 2
                                    have hfz56_3 := blk_frozen BK138.out 3
                                    have hfz56_4 := blk_frozen BK138.out 4
                                    try go_wp2_with (first | (go_at_call 12; (with_reducible show Calls Try.prog 12 #[.agg #[.int .u8 _, .int .u8 _, .int .i64 _, .int .i64 _, _], _] (World.alloc _ (.cells #[.slice _ (List.length l1) _] 28)) _); (refine (opers_Run1.calls a0_0 a0_1 a0_2 a0_3 _ _ l0_4 _ _ l1 t169 t172 _ ?side1 ?side2 ?side3 ?side4 A48.out).mono ?_); (case side1 => repeat (first | exact (Kd.C_below HR0_4.out HB.out) | (with_reducible refine Kd.C_alloc ?_ _) | (with_reducible refine Kd.C_drewN ?_ _) | (with_reducible refine Kd.C_drew ?_))); (case side2 => exact HC0_4.out); (case side3 => repeat (first | exact (Kd.C_below HR1.out HB.out) | (with_reducible refine Kd.C_alloc ?_ _) | (with_reducible refine Kd.C_drewN ?_ _) | (with_reducible refine Kd.C_drew ?_))); (case side4 => exact HC1.out); rintro e w57 ⟨v170, rfl, ho0, hb⟩; have n0_ := Aside0.mk (Kd.R_elder' (by (with_reducible repeat (first | apply Kd.R_alloc | apply Kd.R_drewN | apply Kd.R_drew)); exact HO_9.out) (Kd.R_base ho0) hb); have n1_ := Aside0.mk (Kd.R_lower (Kd.R_new' ho0 (Kd.R_lt (by (with_reducible repeat (first | apply Kd.R_alloc | apply Kd.R_drewN | apply Kd.R_drew)); exact HO_9.out))) (below_size (by repeat (first | (with_reducible first | exact HB.out | apply below_alloc | apply pw_below_drewN | apply below_drew1 | refine below_set ?_ GE138.out) | exact HB.out)))); have n2_ := Aside0.mk (blk_below (g := gb138) (o := .cells #[.int .u8 a0_0, .int .u8 a0_1, .int .i64 a0_2, .int .i64 a0_3, .slice A0_4 l0_4.length c0_4] 24 (0, 0)) (by (with_reducible repeat (first | refine blk_drewN ?_ _ | refine blk_drew ?_ | refine blk_alloc ?_ _)); exact BK138.out) hb); have n3_ := Aside0.mk (below_step (by repeat (first | (with_reducible first | exact HB.out | apply below_alloc | apply pw_below_drewN | apply below_drew1 | refine below_set ?_ GE138.out) | exact HB.out)) hb); clear HO_9; clear BK138; clear HB; have HO_9 := n0_; have HO171 := n1_; have BK138 := n2_; have HB := n3_; clear n0_ n1_ n2_ n3_; (try clear hb); (try clear hb2); (try clear hk); (try clear hi); (try clear ho0); have hcz58_0 : w57.cell? ⟨gb138, 0, none⟩ = some (.int .u8 a0_0) := (blk_cell BK138.out 0).trans rfl; have hcz58_1 : w57.cell? ⟨gb138, 1, none⟩ = some (.int .u8 a0_1) := (blk_cell BK138.out 1).trans rfl; have hcz58_2 : w57.cell? ⟨gb138, 2, none⟩ = some (.int .i64 a0_2) := (blk_cell BK138.out 2).trans rfl; have hcz58_3 : w57.cell? ⟨gb138, 3, none⟩ = some (.int .i64 a0_3) := (blk_cell BK138.out 3).trans rfl; have hcz58_4 : w57.cell? ⟨gb138, 4, none⟩ = some (.slice A0_4 l0_4.length c0_4) := (blk_cell BK138.out 4).trans rfl; have hfz58_0 := blk_frozen BK138.out 0; have hfz58_1 := blk_frozen BK138.out 1; have hfz58_2 := blk_frozen BK138.out 2; have hfz58_3 := blk_frozen BK138.out 3; have hfz58_4 := blk_frozen BK138.out 4; obtain ⟨Ao59, co59, eo59⟩ := Kd.R_slice HO_9.out; subst eo59) | (go_at_call 12; (with_reducible show Calls Try.prog 12 #[.agg #[.int .u8 _, .int .u8 _, .int .i64 _, .int .i64 _, _], _] (World.alloc _ (.cells #[.slice _ (List.length x9_2) _] 28)) _); (refine (opers_Run1.calls a0_0 a0_1 a0_2 a0_3 _ _ l0_4 _ _ x9_2 t173 t176 _ ?side1 ?side2 ?side3 ?side4 A49.out).mono ?_); (case side1 => repeat (first | exact (Kd.C_below HR0_4.out HB.out) | (with_reducible refine Kd.C_alloc ?_ _) | (with_reducible refine Kd.C_drewN ?_ _) | (with_reducible refine Kd.C_drew ?_))); (case side2 => exact HC0_4.out); (case side3 => repeat (first | exact (Kd.R_reads' HO_9.out).2.2 | (with_reducible refine Kd.C_alloc ?_ _) | (with_reducible refine Kd.C_drewN ?_ _) | (with_reducible refine Kd.C_drew ?_))); (case side4 => exact (Kd.R_reads' HO_9.out).2.1); rintro e w60 ⟨v174, rfl, ho0, hb⟩; have n0_ := Aside0.mk (Kd.R_elder' (by (with_reducible repeat (first | apply Kd.R_alloc | apply Kd.R_drewN | apply Kd.R_drew)); exact HO_9.out) (Kd.R_base ho0) hb); have n1_ := Aside0.mk (Kd.R_elder' (by (with_reducible repeat (first | apply Kd.R_alloc | apply Kd.R_drewN | apply Kd.R_drew)); exact HO171.out) (Kd.R_base ho0) hb); have n2_ := Aside0.mk (Kd.R_lower (Kd.R_new' (Kd.R_new' ho0 (Kd.R_lt (by (with_reducible repeat (first | apply Kd.R_alloc | apply Kd.R_drewN | apply Kd.R_drew)); exact HO_9.out))) (Kd.R_lt (by (with_reducible repeat (first | apply Kd.R_alloc | apply Kd.R_drewN | apply Kd.R_drew)); exact HO171.out))) (below_size (by repeat (first | (with_reducible first | exact HB.out | apply below_alloc | apply pw_below_drewN | apply below_drew1 | refine below_set ?_ GE138.out) | exact HB.out)))); have n3_ := Aside0.mk (blk_below (g := gb138) (o := .cells #[.int .u8 a0_0, .int .u8 a0_1, .int .i64 a0_2, .int .i64 a0_3, .slice A0_4 l0_4.length c0_4] 24 (0, 0)) (by (with_reducible repeat (first | refine blk_drewN ?_ _ | refine blk_drew ?_ | refine blk_alloc ?_ _)); exact BK138.out) hb); have n4_ := Aside0.mk (below_step (by repeat (first | (with_reducible first | exact HB.out | apply below_alloc | apply pw_below_drewN | apply below_drew1 | refine below_set ?_ GE138.out) | exact HB.out)) hb); clear HO_9; clear HO171; clear BK138; clear HB; have HO_9 := n0_; have HO171 := n1_; have HO175 := n2_; have BK138 := n3_; have HB := n4_; clear n0_ n1_ n2_ n3_ n4_; (try clear hb); (try clear hb2); (try clear hk); (try clear hi); (try clear ho0)))
                                    have n0_ := Aside0.mk (Kd.R_drew HO_9.out)
                                    have n1_ := Aside0.mk (Kd.R_drew HO171.out)
                                    have n2_ := Aside0.mk (Kd.R_drew HO175.out)
                                    have n3_ := Aside0.mk (blk_drew BK138.out)
                                    have n4_ := Aside0.mk (below_drew1 HB.out)
                                    clear HO_9
                                    clear HO171
                                    clear HO175
                                    clear BK138
                                    clear HB
                                    have HO_9 := n0_
                                    have HO171 := n1_
                                    have HO175 := n2_
                                    have BK138 := n3_
                                    have HB := n4_
                                    clear n0_ n1_ n2_ n3_ n4_
                                    have q62 : (x11_17 : Int) ≤ ((l1.length : Int) : Int) := of_decide_eq_true (by first | (with_reducible assumption) | assumption)
                                    obtain ⟨i062, hi062, _, hsz62, _⟩ := info_parts info36
                                    have hroom62 : l1.length ≤ c1 := HC1.out
                                    have hC62 : Kd.C k36 _ A1 l1.length l1 := HR1.out
                                    have hcut62 := cut_to (P := Try.prog) 28 36 .i64 Try.underlying28 hi062 A1 l1.length c1 x11_17 (of_decide_eq_true (by first | (with_reducible assumption) | assumption)) q62 hroom62
                                    have hr62 := Kd.C_take (m := (x11_17 : Int).toNat) hC62 (by omega)
                                    have hy62 : y177.length = (x11_17 : Int).toNat := (by rw [Ny177.out, List.length_take]; omega)
                                    rw [← Ny177.out] at hr62
                                    rw [← hy62] at hcut62
                                    have HR180 := Aside0.mk hr62
                                    have HC180 := Aside0.mk (show y177.length ≤ c1 from by omega)
                                    clear hr62 hC62 hroom62 hi062 hsz62
                                    have KY62 := Aside0.mk hy62
                                    clear hy62
                                    replace q62 := eq_true q62
                                    refine start_ (n := 10) (S := fun w' => w'.cell? ⟨gb138, 0, none⟩ = some (.int .u8 a0_0) ∧ w'.cell? ⟨gb138, 1, none⟩ = some (.int .u8 a0_1) ∧ w'.cell? ⟨gb138, 2, none⟩ = some (.int .i64 a0_2) ∧ w'.cell? ⟨gb138, 3, none⟩ = some (.int .i64 a0_3) ∧ w'.cell? ⟨gb138, 4, none⟩ = some (.slice A0_4 l0_4.length c0_4)) (ds := []) #[false, false, false, false, false, false, false, false, false, false] (by kernel_rfl) rfl rfl ⟨(blk_cell BK138.out 0).trans rfl, (blk_cell BK138.out 1).trans rfl, (blk_cell BK138.out 2).trans rfl, (blk_cell BK138.out 3).trans rfl, (blk_cell BK138.out 4).trans rfl⟩ (fun hHeld => ?_); refine with_tabW tailracelaw13_OpersOrder.tab15 tailracelaw13_OpersOrder.bits15 (fun HT_ HW_ => ?_)
                                    generalize w60.drew = w61 at HO_9 HO171 HO175 BK138 HB HR180 hHeld ⊢
                                    refine pure_ (i := 1) (N := some 69) (v := ?_) (a' := ?_) #[false, true, false, false, false, false, false, false, false, false] rfl rfl (any_of HT_.out (by kernel_rfl)) (fun _ _ _ h => h) (Or.inl ⟨by rfl, ?_⟩) ?_ ?_
                                    rotate_left
                                    · intro w'
                                      go_simp
                                      with_reducible rfl
                                    rotate_left
                                    · simp only [Act.put, List.setIfInBounds_toArray, List.set_cons_zero, List.set_cons_succ, i64_w, i32_w]
                                      rfl
                                    refine pure_ (i := 2) (N := some 70) (v := ?_) (a' := ?_) #[false, true, true, false, false, false, false, false, false, false] rfl rfl (any_of HT_.out (by kernel_rfl)) (fun _ _ _ h => h) (Or.inl ⟨by rfl, ?_⟩) ?_ ?_
                                    rotate_left
                                    · intro w'
                                      go_simp
                                      with_reducible rfl
                                    rotate_left
                                    · simp only [Act.put, List.setIfInBounds_toArray, List.set_cons_zero, List.set_cons_succ, i64_w, i32_w]
                                      rfl
                                    refine pure_ (i := 3) (N := some 71) (v := ?_) (a' := ?_) #[false, true, true, true, false, false, false, false, false, false] rfl rfl (any_of HT_.out (by kernel_rfl)) (fun _ _ _ h => h) (Or.inl ⟨by rfl, ?_⟩) ?_ ?_
                                    rotate_left
                                    · intro w'
                                      go_simp
                                      with_reducible rfl
                                    rotate_left
                                    · simp only [Act.put, List.setIfInBounds_toArray, List.set_cons_zero, List.set_cons_succ, i64_w, i32_w]
                                      rfl
                                    refine take_ (i := 0) (N := some 68) (v := ?_) (a' := ?_) #[true, true, true, true, false, false, false, false, false, false] rfl rfl (take_ofW HT_.out HW_.out (by kernel_rfl)) (fun _ _ _ h => h) (Or.inl ⟨by rfl, ?_⟩) hHeld ?_ ?_
                                    rotate_left
                                    · rintro w' ⟨s0, s1, s2, s3, s4⟩
                                      go_simp
                                      with_reducible rfl
                                    rotate_left
                                    · simp only [Act.put, List.setIfInBounds_toArray, List.set_cons_zero, List.set_cons_succ, i64_w, i32_w]
                                      rfl
                                    refine one_ (i := 4) (N := some 72) #[true, true, true, true, true, false, false, false, false, false] rfl rfl (one_of HT_.out (by kernel_rfl)) (by decide) (fun K hK => ?_)
                                    refine lit_ (by rfl) rfl (by go_simp; exact ⟨rfl, rfl⟩) ?_
                                    refine hK.out _ _ ⟨(blk_cell (blk_alloc BK138.out _) 0).trans rfl, (blk_cell (blk_alloc BK138.out _) 1).trans rfl, (blk_cell (blk_alloc BK138.out _) 2).trans rfl, (blk_cell (blk_alloc BK138.out _) 3).trans rfl, (blk_cell (blk_alloc BK138.out _) 4).trans rfl⟩ (fun hHeld => ?_)
                                    clear hK K
                                    refine norm_ (a' := ?_) ?_ ?_
                                    rotate_left
                                    · show Act.put _ (some 72) _ = _
                                      simp only [Act.put, List.setIfInBounds_toArray, List.set_cons_zero, List.set_cons_succ, i64_w, i32_w]
                                      rfl
                                    refine one_ (i := 5) (N := some 73) #[true, true, true, true, true, true, false, false, false, false] rfl rfl (one_of HT_.out (by kernel_rfl)) (by decide) (fun K hK => ?_)
                                    refine goes_ Try.func12 (by kernel_rfl) rfl #[.agg #[.int .u8 a0_0, .int .u8 a0_1, .int .i64 a0_2, .int .i64 a0_3, .slice A0_4 l0_4.length c0_4], .slice (some ⟨w61.heap.size, 0, none⟩) 1 1] (by rfl) rfl rfl (by (try simp only [List.map_toArray, List.map_cons, List.map_nil]); first | done | rfl | (simp only [List.length_drop, List.length_take]; rfl)) ?_
                                    with_reducible refine (opers_Run1.calls a0_0 a0_1 a0_2 a0_3 _ _ l0_4 _ _ y177 t181 t184 _ ?side1 ?side2 ?side3 ?side4 A52.out).mono ?_
                                    (case side1 => repeat (first | exact (Kd.C_below HR0_4.out HB.out) | (with_reducible refine Kd.C_alloc ?_ _) | (with_reducible refine Kd.C_drewN ?_ _) | (with_reducible refine Kd.C_drew ?_)))
                                    (case side2 => exact HC0_4.out)
                                    (case side3 => repeat (first | exact (Kd.C_below HR180.out HB.out) | (with_reducible refine Kd.C_alloc ?_ _) | (with_reducible refine Kd.C_drewN ?_ _) | (with_reducible refine Kd.C_drew ?_)))
                                    (case side4 => exact HC180.out)
                                    rintro e w63 ⟨v182, rfl, ho0, hb⟩
                                    refine ⟨_, rfl, ?_⟩
                                    have n0_ := Aside0.mk (Kd.R_elder' (by (with_reducible repeat (first | apply Kd.R_alloc | apply Kd.R_drewN | apply Kd.R_drew)); exact HO_9.out) (Kd.R_base ho0) hb)
                                    have n1_ := Aside0.mk (Kd.R_elder' (by (with_reducible repeat (first | apply Kd.R_alloc | apply Kd.R_drewN | apply Kd.R_drew)); exact HO171.out) (Kd.R_base ho0) hb)
                                    have n2_ := Aside0.mk (Kd.R_elder' (by (with_reducible repeat (first | apply Kd.R_alloc | apply Kd.R_drewN | apply Kd.R_drew)); exact HO175.out) (Kd.R_base ho0) hb)
                                    have n3_ := Aside0.mk (Kd.R_lower (Kd.R_new' (Kd.R_new' (Kd.R_new' ho0 (Kd.R_lt (by (with_reducible repeat (first | apply Kd.R_alloc | apply Kd.R_drewN | apply Kd.R_drew)); exact HO_9.out))) (Kd.R_lt (by (with_reducible repeat (first | apply Kd.R_alloc | apply Kd.R_drewN | apply Kd.R_drew)); exact HO171.out))) (Kd.R_lt (by (with_reducible repeat (first | apply Kd.R_alloc | apply Kd.R_drewN | apply Kd.R_drew)); exact HO175.out))) (below_size (by repeat (first | (with_reducible first | exact HB.out | apply below_alloc | apply pw_below_drewN | apply below_drew1 | refine below_set ?_ GE138.out) | exact HB.out))))
                                    have n4_ := Aside0.mk (blk_below (g := gb138) (o := .cells #[.int .u8 a0_0, .int .u8 a0_1, .int .i64 a0_2, .int .i64 a0_3, .slice A0_4 l0_4.length c0_4] 24 (0, 0)) (by (with_reducible repeat (first | refine blk_drewN ?_ _ | refine blk_drew ?_ | refine blk_alloc ?_ _)); exact BK138.out) hb)
                                    have n5_ := Aside0.mk (below_step (by repeat (first | (with_reducible first | exact HB.out | apply below_alloc | apply pw_below_drewN | apply below_drew1 | refine below_set ?_ GE138.out) | exact HB.out)) hb)
                                    clear HO_9
                                    clear HO171
                                    clear HO175
                                    clear BK138
                                    clear HB
                                    have HO_9 := n0_
                                    have HO171 := n1_
                                    have HO175 := n2_
                                    have HO183 := n3_
                                    have BK138 := n4_
                                    have HB := n5_
                                    clear n0_ n1_ n2_ n3_ n4_ n5_
                                    (try clear hb)
                                    (try clear hb2)
                                    (try clear hk)
                                    (try clear hi)
                                    (try clear ho0)
                                    refine hK.out _ _ ⟨(blk_cell BK138.out 0).trans rfl, (blk_cell BK138.out 1).trans rfl, (blk_cell BK138.out 2).trans rfl, (blk_cell BK138.out 3).trans rfl, (blk_cell BK138.out 4).trans rfl⟩ (fun hHeld => ?_)
                                    clear hK K
                                    refine norm_ (a' := ?_) ?_ ?_
                                    rotate_left
                                    · show Act.put _ (some 73) _ = _
                                      simp only [Act.put, List.setIfInBounds_toArray, List.set_cons_zero, List.set_cons_succ, i64_w, i32_w]
                                      rfl
                                    refine pure_ (i := 6) (N := some 67) (v := ?_) (a' := ?_) #[true, true, true, true, true, true, true, false, false, false] rfl rfl (any_of HT_.out (by kernel_rfl)) (fun _ _ _ h => h) (Or.inl ⟨by rfl, ?_⟩) ?_ ?_
                                    rotate_left
                                    · intro w'
                                      go_simp
                                      with_reducible rfl
                                    rotate_left
                                    · simp only [Act.put, List.setIfInBounds_toArray, List.set_cons_zero, List.set_cons_succ, i64_w, i32_w]
                                      rfl
                                    refine pure_ (i := 7) (N := some 74) (v := ?_) (a' := ?_) #[true, true, true, true, true, true, true, true, false, false] rfl rfl (any_of HT_.out (by kernel_rfl)) (fun _ _ _ h => h) (Or.inl ⟨by rfl, ?_⟩) ?_ ?_
                                    rotate_left
                                    · intro w'
                                      go_simp
                                      with_reducible rfl
                                    rotate_left
                                    · simp only [Act.put, List.setIfInBounds_toArray, List.set_cons_zero, List.set_cons_succ, i64_w, i32_w]
                                      rfl
                                    refine pure_ (i := 8) (N := some 75) (v := ?_) (a' := ?_) #[true, true, true, true, true, true, true, true, true, false] rfl rfl (any_of HT_.out (by kernel_rfl)) (fun _ _ _ h => h) (Or.inl ⟨by rfl, ?_⟩) ?_ ?_
                                    rotate_left
                                    · intro w'
                                      go_simp
                                      with_reducible rfl
                                    rotate_left
                                    · simp only [Act.put, List.setIfInBounds_toArray, List.set_cons_zero, List.set_cons_succ, i64_w, i32_w]
                                      rfl
                                    refine pure_ (i := 9) (N := some 14) (v := ?_) (a' := ?_) #[true, true, true, true, true, true, true, true, true, true] rfl rfl (any_of HT_.out (by kernel_rfl)) (fun _ _ _ h => h) (Or.inl ⟨by rfl, ?_⟩) ?_ ?_
                                    rotate_left
                                    · intro w'
                                      go_simp
                                      with_reducible rfl
                                    rotate_left
                                    · simp only [Act.put, List.setIfInBounds_toArray, List.set_cons_zero, List.set_cons_succ, i64_w, i32_w]
                                      rfl
                                    refine done_ (done_of HT_.out (by kernel_rfl)) ?_
                                    try go_wp2
                                    have n0_ := Aside0.mk (Kd.R_drew HO_9.out)
                                    have n1_ := Aside0.mk (Kd.R_drew HO171.out)
                                    have n2_ := Aside0.mk (Kd.R_drew HO175.out)
                                    have n3_ := Aside0.mk (Kd.R_drew HO183.out)
                                    have n4_ := Aside0.mk (blk_drew BK138.out)
                                    have n5_ := Aside0.mk (below_drew1 HB.out)
                                    clear HO_9
                                    clear HO171
                                    clear HO175
                                    clear HO183
                                    clear BK138
                                    clear HB
                                    have HO_9 := n0_
                                    have HO171 := n1_
                                    have HO175 := n2_
                                    have HO183 := n3_
                                    have BK138 := n4_
                                    have HB := n5_
                                    clear n0_ n1_ n2_ n3_ n4_ n5_
                                    have q65 : (x11_17 : Int) ≤ ((l1.length : Int) : Int) := of_decide_eq_true (by first | (with_reducible assumption) | assumption)
                                    obtain ⟨i065, hi065, _, hsz65, _⟩ := info_parts info36
                                    have hroom65 : l1.length ≤ c1 := HC1.out
                                    have hC65 : Kd.C k36 _ A1 l1.length l1 := HR1.out
                                    have q065 : (0 : Int) ≤ (x11_17 : Int) := of_decide_eq_true (by first | (with_reducible assumption) | assumption)
                                    have hcut65 := cut_from (P := Try.prog) 28 36 .i64 Try.underlying28 hi065 2 hsz65 A1 l1.length c1 x11_17 q065 q65
                                    have hr65 := Kd.C_drop (m := (x11_17 : Int).toNat) (c := c1) hC65 (by omega) hroom65
                                    obtain ⟨A65, hA65⟩ : ∃ Az_, Az_ = (if c1 = (x11_17 : Int).toNat then A1 else (A1 : Option Addr).map (·.add ((x11_17 : Int).toNat * 2))) := ⟨_, rfl⟩
                                    obtain ⟨c65, hc65⟩ : ∃ cz_, cz_ = c1 - (x11_17 : Int).toNat := ⟨_, rfl⟩
                                    have hy65 : y185.length = l1.length - (x11_17 : Int).toNat := (by rw [Ny185.out, List.length_drop] <;> omega)
                                    rw [show (l1).drop (x11_17 : Int).toNat = y185 from Ny185.out.symm] at hr65
                                    replace hr65 : Kd.C k36 _ A65 y185.length y185 := (by rw [hA65]; exact hr65)
                                    rw [← hy65, ← hA65, ← hc65] at hcut65
                                    have HR188 := Aside0.mk hr65
                                    have HC188 := Aside0.mk (show y185.length ≤ c65 from by rw [hy65, hc65]; exact Nat.sub_le_sub_right hroom65 _)
                                    clear hr65 hC65 hroom65 hi065 hsz65 hc65
                                    have KY65 := Aside0.mk hy65
                                    have KA65 := Aside0.mk hA65
                                    clear hy65 hA65
                                    replace q65 := eq_true q65
                                    refine start_ (n := 10) (S := fun w' => w'.cell? ⟨gb138, 0, none⟩ = some (.int .u8 a0_0) ∧ w'.cell? ⟨gb138, 1, none⟩ = some (.int .u8 a0_1) ∧ w'.cell? ⟨gb138, 2, none⟩ = some (.int .i64 a0_2) ∧ w'.cell? ⟨gb138, 3, none⟩ = some (.int .i64 a0_3) ∧ w'.cell? ⟨gb138, 4, none⟩ = some (.slice A0_4 l0_4.length c0_4)) (ds := []) #[false, false, false, false, false, false, false, false, false, false] (by kernel_rfl) rfl rfl ⟨(blk_cell BK138.out 0).trans rfl, (blk_cell BK138.out 1).trans rfl, (blk_cell BK138.out 2).trans rfl, (blk_cell BK138.out 3).trans rfl, (blk_cell BK138.out 4).trans rfl⟩ (fun hHeld => ?_); refine with_tabW tailracelaw13_OpersOrder.tab16 tailracelaw13_OpersOrder.bits16 (fun HT_ HW_ => ?_)
                                    generalize w63.drew = w64 at HO_9 HO171 HO175 HO183 BK138 HB HR188 hHeld ⊢
                                    refine pure_ (i := 1) (N := some 78) (v := ?_) (a' := ?_) #[false, true, false, false, false, false, false, false, false, false] rfl rfl (any_of HT_.out (by kernel_rfl)) (fun _ _ _ h => h) (Or.inl ⟨by rfl, ?_⟩) ?_ ?_
                                    rotate_left
                                    · intro w'
                                      go_simp
                                      with_reducible rfl
                                    rotate_left
                                    · simp only [Act.put, List.setIfInBounds_toArray, List.set_cons_zero, List.set_cons_succ, i64_w, i32_w]
                                      rfl
                                    refine pure_ (i := 2) (N := some 79) (v := ?_) (a' := ?_) #[false, true, true, false, false, false, false, false, false, false] rfl rfl (any_of HT_.out (by kernel_rfl)) (fun _ _ _ h => h) (Or.inl ⟨by rfl, ?_⟩) ?_ ?_
                                    rotate_left
                                    · intro w'
                                      go_simp
                                      with_reducible rfl
                                    rotate_left
                                    · simp only [Act.put, List.setIfInBounds_toArray, List.set_cons_zero, List.set_cons_succ, i64_w, i32_w]
                                      rfl
                                    refine pure_ (i := 3) (N := some 80) (v := ?_) (a' := ?_) #[false, true, true, true, false, false, false, false, false, false] rfl rfl (any_of HT_.out (by kernel_rfl)) (fun _ _ _ h => h) (Or.inl ⟨by rfl, ?_⟩) ?_ ?_
                                    rotate_left
                                    · intro w'
                                      go_simp
                                      with_reducible rfl
                                    rotate_left
                                    · simp only [Act.put, List.setIfInBounds_toArray, List.set_cons_zero, List.set_cons_succ, i64_w, i32_w]
                                      rfl
                                    refine take_ (i := 0) (N := some 77) (v := ?_) (a' := ?_) #[true, true, true, true, false, false, false, false, false, false] rfl rfl (take_ofW HT_.out HW_.out (by kernel_rfl)) (fun _ _ _ h => h) (Or.inl ⟨by rfl, ?_⟩) hHeld ?_ ?_
                                    rotate_left
                                    · rintro w' ⟨s0, s1, s2, s3, s4⟩
                                      go_simp
                                      with_reducible rfl
                                    rotate_left
                                    · simp only [Act.put, List.setIfInBounds_toArray, List.set_cons_zero, List.set_cons_succ, i64_w, i32_w]
                                      rfl
                                    refine one_ (i := 4) (N := some 81) #[true, true, true, true, true, false, false, false, false, false] rfl rfl (one_of HT_.out (by kernel_rfl)) (by decide) (fun K hK => ?_)
                                    refine lit_ (by rfl) rfl (by go_simp; exact ⟨rfl, rfl⟩) ?_
                                    refine hK.out _ _ ⟨(blk_cell (blk_alloc BK138.out _) 0).trans rfl, (blk_cell (blk_alloc BK138.out _) 1).trans rfl, (blk_cell (blk_alloc BK138.out _) 2).trans rfl, (blk_cell (blk_alloc BK138.out _) 3).trans rfl, (blk_cell (blk_alloc BK138.out _) 4).trans rfl⟩ (fun hHeld => ?_)
                                    clear hK K
                                    refine norm_ (a' := ?_) ?_ ?_
                                    rotate_left
                                    · show Act.put _ (some 81) _ = _
                                      simp only [Act.put, List.setIfInBounds_toArray, List.set_cons_zero, List.set_cons_succ, i64_w, i32_w]
                                      rfl
                                    refine one_ (i := 5) (N := some 82) #[true, true, true, true, true, true, false, false, false, false] rfl rfl (one_of HT_.out (by kernel_rfl)) (by decide) (fun K hK => ?_)
                                    refine goes_ Try.func12 (by kernel_rfl) rfl #[.agg #[.int .u8 a0_0, .int .u8 a0_1, .int .i64 a0_2, .int .i64 a0_3, .slice A0_4 l0_4.length c0_4], .slice (some ⟨w64.heap.size, 0, none⟩) 1 1] (by rfl) rfl rfl (by (try simp only [List.map_toArray, List.map_cons, List.map_nil]); first | done | rfl | (simp only [List.length_drop, List.length_take]; rfl)) ?_
                                    with_reducible refine (opers_Run1.calls a0_0 a0_1 a0_2 a0_3 _ _ l0_4 _ _ y185 t189 t192 _ ?side1 ?side2 ?side3 ?side4 A55.out).mono ?_
                                    (case side1 => repeat (first | exact (Kd.C_below HR0_4.out HB.out) | (with_reducible refine Kd.C_alloc ?_ _) | (with_reducible refine Kd.C_drewN ?_ _) | (with_reducible refine Kd.C_drew ?_)))
                                    (case side2 => exact HC0_4.out)
                                    (case side3 => repeat (first | exact (Kd.C_below HR188.out HB.out) | (with_reducible refine Kd.C_alloc ?_ _) | (with_reducible refine Kd.C_drewN ?_ _) | (with_reducible refine Kd.C_drew ?_)))
                                    (case side4 => exact HC188.out)
                                    rintro e w66 ⟨v190, rfl, ho0, hb⟩
                                    refine ⟨_, rfl, ?_⟩
                                    have n0_ := Aside0.mk (Kd.R_elder' (by (with_reducible repeat (first | apply Kd.R_alloc | apply Kd.R_drewN | apply Kd.R_drew)); exact HO_9.out) (Kd.R_base ho0) hb)
                                    have n1_ := Aside0.mk (Kd.R_elder' (by (with_reducible repeat (first | apply Kd.R_alloc | apply Kd.R_drewN | apply Kd.R_drew)); exact HO171.out) (Kd.R_base ho0) hb)
                                    have n2_ := Aside0.mk (Kd.R_elder' (by (with_reducible repeat (first | apply Kd.R_alloc | apply Kd.R_drewN | apply Kd.R_drew)); exact HO175.out) (Kd.R_base ho0) hb)
                                    have n3_ := Aside0.mk (Kd.R_elder' (by (with_reducible repeat (first | apply Kd.R_alloc | apply Kd.R_drewN | apply Kd.R_drew)); exact HO183.out) (Kd.R_base ho0) hb)
                                    have n4_ := Aside0.mk (Kd.R_lower (Kd.R_new' (Kd.R_new' (Kd.R_new' (Kd.R_new' ho0 (Kd.R_lt (by (with_reducible repeat (first | apply Kd.R_alloc | apply Kd.R_drewN | apply Kd.R_drew)); exact HO_9.out))) (Kd.R_lt (by (with_reducible repeat (first | apply Kd.R_alloc | apply Kd.R_drewN | apply Kd.R_drew)); exact HO171.out))) (Kd.R_lt (by (with_reducible repeat (first | apply Kd.R_alloc | apply Kd.R_drewN | apply Kd.R_drew)); exact HO175.out))) (Kd.R_lt (by (with_reducible repeat (first | apply Kd.R_alloc | apply Kd.R_drewN | apply Kd.R_drew)); exact HO183.out))) (below_size (by repeat (first | (with_reducible first | exact HB.out | apply below_alloc | apply pw_below_drewN | apply below_drew1 | refine below_set ?_ GE138.out) | exact HB.out))))
                                    have n5_ := Aside0.mk (blk_below (g := gb138) (o := .cells #[.int .u8 a0_0, .int .u8 a0_1, .int .i64 a0_2, .int .i64 a0_3, .slice A0_4 l0_4.length c0_4] 24 (0, 0)) (by (with_reducible repeat (first | refine blk_drewN ?_ _ | refine blk_drew ?_ | refine blk_alloc ?_ _)); exact BK138.out) hb)
                                    have n6_ := Aside0.mk (below_step (by repeat (first | (with_reducible first | exact HB.out | apply below_alloc | apply pw_below_drewN | apply below_drew1 | refine below_set ?_ GE138.out) | exact HB.out)) hb)
                                    clear HO_9
                                    clear HO171
                                    clear HO175
                                    clear HO183
                                    clear BK138
                                    clear HB
                                    have HO_9 := n0_
                                    have HO171 := n1_
                                    have HO175 := n2_
                                    have HO183 := n3_
                                    have HO191 := n4_
                                    have BK138 := n5_
                                    have HB := n6_
                                    clear n0_ n1_ n2_ n3_ n4_ n5_ n6_
                                    (try clear hb)
                                    (try clear hb2)
                                    (try clear hk)
                                    (try clear hi)
                                    (try clear ho0)
                                    refine hK.out _ _ ⟨(blk_cell BK138.out 0).trans rfl, (blk_cell BK138.out 1).trans rfl, (blk_cell BK138.out 2).trans rfl, (blk_cell BK138.out 3).trans rfl, (blk_cell BK138.out 4).trans rfl⟩ (fun hHeld => ?_)
                                    clear hK K
                                    refine norm_ (a' := ?_) ?_ ?_
                                    rotate_left
                                    · show Act.put _ (some 82) _ = _
                                      simp only [Act.put, List.setIfInBounds_toArray, List.set_cons_zero, List.set_cons_succ, i64_w, i32_w]
                                      rfl
                                    refine pure_ (i := 6) (N := some 76) (v := ?_) (a' := ?_) #[true, true, true, true, true, true, true, false, false, false] rfl rfl (any_of HT_.out (by kernel_rfl)) (fun _ _ _ h => h) (Or.inl ⟨by rfl, ?_⟩) ?_ ?_
                                    rotate_left
                                    · intro w'
                                      go_simp
                                      with_reducible rfl
                                    rotate_left
                                    · simp only [Act.put, List.setIfInBounds_toArray, List.set_cons_zero, List.set_cons_succ, i64_w, i32_w]
                                      rfl
                                    refine pure_ (i := 7) (N := some 83) (v := ?_) (a' := ?_) #[true, true, true, true, true, true, true, true, false, false] rfl rfl (any_of HT_.out (by kernel_rfl)) (fun _ _ _ h => h) (Or.inl ⟨by rfl, ?_⟩) ?_ ?_
                                    rotate_left
                                    · intro w'
                                      go_simp
                                      with_reducible rfl
                                    rotate_left
                                    · simp only [Act.put, List.setIfInBounds_toArray, List.set_cons_zero, List.set_cons_succ, i64_w, i32_w]
                                      rfl
                                    refine pure_ (i := 8) (N := some 84) (v := ?_) (a' := ?_) #[true, true, true, true, true, true, true, true, true, false] rfl rfl (any_of HT_.out (by kernel_rfl)) (fun _ _ _ h => h) (Or.inl ⟨by rfl, ?_⟩) ?_ ?_
                                    rotate_left
                                    · intro w'
                                      go_simp
                                      with_reducible rfl
                                    rotate_left
                                    · simp only [Act.put, List.setIfInBounds_toArray, List.set_cons_zero, List.set_cons_succ, i64_w, i32_w]
                                      rfl
                                    refine pure_ (i := 9) (N := some 15) (v := ?_) (a' := ?_) #[true, true, true, true, true, true, true, true, true, true] rfl rfl (any_of HT_.out (by kernel_rfl)) (fun _ _ _ h => h) (Or.inl ⟨by rfl, ?_⟩) ?_ ?_
                                    rotate_left
                                    · intro w'
                                      go_simp
                                      with_reducible rfl
                                    rotate_left
                                    · simp only [Act.put, List.setIfInBounds_toArray, List.set_cons_zero, List.set_cons_succ, i64_w, i32_w]
                                      rfl
                                    refine done_ (done_of HT_.out (by kernel_rfl)) ?_
                                    try go_wp2
                                    go_meet
                                    case rel => exact ⟨_, (t169), (t173), (t181), (t189), H', ⟨by have := HJ4.out; have := HK2.out; have := HJ15.out; have := HJ17.out; have := HJ25.out; first | omega | exact Nat.le_refl _⟩, ⟨by (with_reducible repeat (first | apply Kd.R_alloc | apply Kd.R_drewN | apply Kd.R_drew)); exact Kd.R_mono HO171.out (fun _ hk => ⟨hk.1.1.2, ⟨hk.1.2, hk.2⟩⟩)⟩, ⟨by (with_reducible repeat (first | apply Kd.R_alloc | apply Kd.R_drewN | apply Kd.R_drew)); exact Kd.R_mono HO175.out (fun _ hk => ⟨hk.1.1.2, ⟨hk.1.2, hk.2⟩⟩)⟩, ⟨by (with_reducible repeat (first | apply Kd.R_alloc | apply Kd.R_drewN | apply Kd.R_drew)); exact Kd.R_mono HO183.out (fun _ hk => ⟨hk.1.1.2, ⟨hk.1.2, hk.2⟩⟩)⟩, ⟨by (with_reducible repeat (first | apply Kd.R_alloc | apply Kd.R_drewN | apply Kd.R_drew)); exact Kd.R_mono HO191.out (fun _ hk => ⟨hk.1.1.2, ⟨hk.1.2, hk.2⟩⟩)⟩, ⟨by (with_reducible repeat (first | refine blk_drewN ?_ _ | refine blk_drew ?_ | refine blk_alloc ?_ _)); exact BK138.out⟩, ⟨by repeat (first | (with_reducible first | exact HB.out | apply below_alloc | apply pw_below_drewN | apply below_drew1 | refine below_set ?_ GE138.out) | exact HB.out)⟩⟩
                                  · rw [if_neg c51] at H
                                    exact absurd H (by simp)
                                · rw [if_neg c50] at H
                                  exact absurd H (by simp)
                      case rest =>
                        as_aux_lemma =>
                        clear HC21
                        try clear c1
                        try clear c2
                        try clear p2
                        try clear c3
                        try clear c4
                        try clear q4
                        try clear c5
                        try clear c6
                        try clear q6
                        try clear c12
                        try clear c25
                        try clear c28
                        try clear c31
                        try clear c32
                        try clear c46
                        try clear q46
                        try clear c50
                        try clear c50b0
                        try clear c50b1
                        try clear c51
                        try clear c51b0
                        try clear c51b1
                        try clear c53
                        try clear c53b0
                        try clear c54
                        try clear c54b0
                        try clear q62
                        try clear c65
                        try clear q65
                        try clear hcz56_0
                        try clear hcz56_1
                        try clear hcz56_2
                        try clear hcz56_3
                        try clear hcz56_4
                        try clear hcz58_0
                        try clear hcz58_1
                        try clear hcz58_2
                        try clear hcz58_3
                        try clear hcz58_4
                        try clear hfz56_0
                        try clear hfz56_1
                        try clear hfz56_2
                        try clear hfz56_3
                        try clear hfz56_4
                        try clear hfz58_0
                        try clear hfz58_1
                        try clear hfz58_2
                        try clear hfz58_3
                        try clear hfz58_4
                        try clear q046
                        try clear q065
                        try clear q46
                        try clear q62
                        try clear q65
                        obtain ⟨kq, x12_20, x13_20, x14_20, x15_20, HA, HJ20, HO_12, HO_13, HO_14, HO_15, BK138, HB⟩ := hcut
                        cases kq with
                        | zero => exact absurd HA.out (by simp [tailracelaw13_OpersOrder.j5])
                        | succ kj20 =>
                          have H := HA.out
                          clear HA
                          simp only [tailracelaw13_OpersOrder.j5] at H
                          replace H := Option.bind_eq_some_iff.mp H
                          obtain ⟨t193, A670, H⟩ := H
                          replace H : (if t193 = true then ((opers_Waits.f a0_0).bind fun t194 => (if t194 = true then ((tailracelaw13_works.f).bind fun t195 => (some t195)) else ((value_Add2.f x14_20 x15_20).bind fun t196 => ((tailraceref12_Alike.f kj20 x12_20 t196).bind fun t199 => (if t199 = true then ((tailracelaw13_works.f).bind fun t200 => (some t200)) else (some false)))))) else (some false)) = some r := H
                          have A67 := Aside0.mk A670
                          clear A670
                          by_cases c68 : t193 = true
                          · subst c68
                            have H1 : ((opers_Waits.f a0_0).bind fun t194 => (if t194 = true then ((tailracelaw13_works.f).bind fun t195 => (some t195)) else ((value_Add2.f x14_20 x15_20).bind fun t196 => ((tailraceref12_Alike.f kj20 x12_20 t196).bind fun t199 => (if t199 = true then ((tailracelaw13_works.f).bind fun t200 => (some t200)) else (some false)))))) = some r := by rw [if_pos rfl] at H; exact H
                            clear H
                            have H := H1
                            clear H1
                            replace H := Option.bind_eq_some_iff.mp H
                            obtain ⟨t194, A690, H⟩ := H
                            replace H : (if t194 = true then ((tailracelaw13_works.f).bind fun t195 => (some t195)) else ((value_Add2.f x14_20 x15_20).bind fun t196 => ((tailraceref12_Alike.f kj20 x12_20 t196).bind fun t199 => (if t199 = true then ((tailracelaw13_works.f).bind fun t200 => (some t200)) else (some false))))) = some r := H
                            have A69 := Aside0.mk A690
                            clear A690
                            by_cases c70 : t194 = true
                            · subst c70
                              have H1 : ((tailracelaw13_works.f).bind fun t195 => (some t195)) = some r := by rw [if_pos rfl] at H; exact H
                              clear H
                              have H := H1
                              clear H1
                              replace H := Option.bind_eq_some_iff.mp H
                              obtain ⟨t195, A710, H⟩ := H
                              replace H : (some t195) = some r := H
                              have A71 := Aside0.mk A710
                              clear A710
                              obtain rfl := Option.some.inj H
                              obtain ⟨Ao72, co72, eo72⟩ := Kd.R_slice HO_12.out
                              subst eo72
                              obtain ⟨Ao73, co73, eo73⟩ := Kd.R_slice HO_13.out
                              subst eo73
                              go_wp2_with (first | ((with_reducible refine gate_callee (f := 14) rfl ?_); refine goesL_ (some 128) rfl rfl Try.func14 (by kernel_rfl) rfl #[.slice Ao72 x12_20.length co72, .slice Ao73 x13_20.length co73] rfl (by (try simp only [List.map_toArray, List.map_cons, List.map_nil]); first | done | rfl | (simp only [List.length_drop, List.length_take]; rfl)) ?_; (with_reducible refine (tailraceref12_Alike.calls kj20 _ _ x12_20 _ _ x13_20 true _ ?side1 ?side2 ?side3 ?side4 A67.out).mono ?_); (case side1 => repeat (first | exact (Kd.R_reads' HO_12.out).2.2 | (with_reducible refine Kd.C_alloc ?_ _) | (with_reducible refine Kd.C_drewN ?_ _) | (with_reducible refine Kd.C_drew ?_))); (case side2 => exact (Kd.R_reads' HO_12.out).2.1); (case side3 => repeat (first | exact (Kd.R_reads' HO_13.out).2.2 | (with_reducible refine Kd.C_alloc ?_ _) | (with_reducible refine Kd.C_drewN ?_ _) | (with_reducible refine Kd.C_drew ?_))); (case side4 => exact (Kd.R_reads' HO_13.out).2.1); rintro e w' ⟨rfl, ⟨nd, rfl⟩⟩; refine ⟨_, rfl, ?_⟩; have hcz74_0 : wc.cell? ⟨gb138, 0, none⟩ = some (.int .u8 a0_0) := (blk_cell BK138.out 0).trans rfl; have hcz74_1 : wc.cell? ⟨gb138, 1, none⟩ = some (.int .u8 a0_1) := (blk_cell BK138.out 1).trans rfl; have hcz74_2 : wc.cell? ⟨gb138, 2, none⟩ = some (.int .i64 a0_2) := (blk_cell BK138.out 2).trans rfl; have hcz74_3 : wc.cell? ⟨gb138, 3, none⟩ = some (.int .i64 a0_3) := (blk_cell BK138.out 3).trans rfl; have hcz74_4 : wc.cell? ⟨gb138, 4, none⟩ = some (.slice A0_4 l0_4.length c0_4) := (blk_cell BK138.out 4).trans rfl; have hfz74_0 := blk_frozen BK138.out 0; have hfz74_1 := blk_frozen BK138.out 1; have hfz74_2 := blk_frozen BK138.out 2; have hfz74_3 := blk_frozen BK138.out 3; have hfz74_4 := blk_frozen BK138.out 4) | ((with_reducible refine gate_callee (f := 15) rfl ?_); refine goesL_ (some 132) rfl rfl Try.func15 (by kernel_rfl) rfl #[.int .u8 a0_0] rfl (by (try simp only [List.map_toArray, List.map_cons, List.map_nil]); first | done | rfl | (simp only [List.length_drop, List.length_take]; rfl)) ?_; (with_reducible refine (opers_Waits.calls a0_0 true _ A69.out).mono ?_); rintro e w' ⟨rfl, ⟨nd, rfl⟩⟩; refine ⟨_, rfl, ?_⟩) | (go_at_call 11; (with_reducible refine (tailracelaw13_works.calls  t195 _ A71.out).mono ?_); rintro e w75 ⟨rfl, hb⟩; have n0_ := Aside0.mk (Kd.R_below (by (with_reducible repeat (first | apply Kd.R_alloc | apply Kd.R_drewN | apply Kd.R_drew)); exact HO_12.out) hb); have n1_ := Aside0.mk (Kd.R_below (by (with_reducible repeat (first | apply Kd.R_alloc | apply Kd.R_drewN | apply Kd.R_drew)); exact HO_13.out) hb); have n2_ := Aside0.mk (Kd.R_below (by (with_reducible repeat (first | apply Kd.R_alloc | apply Kd.R_drewN | apply Kd.R_drew)); exact HO_14.out) hb); have n3_ := Aside0.mk (Kd.R_below (by (with_reducible repeat (first | apply Kd.R_alloc | apply Kd.R_drewN | apply Kd.R_drew)); exact HO_15.out) hb); have n4_ := Aside0.mk (blk_below (g := gb138) (o := .cells #[.int .u8 a0_0, .int .u8 a0_1, .int .i64 a0_2, .int .i64 a0_3, .slice A0_4 l0_4.length c0_4] 24 (0, 0)) (by (with_reducible repeat (first | refine blk_drewN ?_ _ | refine blk_drew ?_ | refine blk_alloc ?_ _)); exact BK138.out) hb); have n5_ := Aside0.mk (below_step (by repeat (first | (with_reducible first | exact HB.out | apply below_alloc | apply pw_below_drewN | apply below_drew1 | refine below_set ?_ GE138.out) | exact HB.out)) hb); clear HO_12; clear HO_13; clear HO_14; clear HO_15; clear BK138; clear HB; have HO_12 := n0_; have HO_13 := n1_; have HO_14 := n2_; have HO_15 := n3_; have BK138 := n4_; have HB := n5_; clear n0_ n1_ n2_ n3_ n4_ n5_; (try clear hb); (try clear hb2); (try clear hk); (try clear hi)))
                              go_ret
                              exact ⟨by first | rfl | (simp [errW_none, errW_some] <;> rfl) | (simp [*, errW_none, errW_some] <;> rfl), by repeat (first | (with_reducible first | exact HB.out | apply below_alloc | apply pw_below_drewN | apply below_drew1 | refine below_set ?_ GE138.out) | exact HB.out)⟩
                            · replace c70 := Bool.eq_false_iff.mpr c70
                              subst c70
                              have H1 : ((value_Add2.f x14_20 x15_20).bind fun t196 => ((tailraceref12_Alike.f kj20 x12_20 t196).bind fun t199 => (if t199 = true then ((tailracelaw13_works.f).bind fun t200 => (some t200)) else (some false)))) = some r := by rw [if_neg (show ¬ (false = true) by decide)] at H; exact H
                              clear H
                              have H := H1
                              clear H1
                              replace H := Option.bind_eq_some_iff.mp H
                              obtain ⟨t196, A760, H⟩ := H
                              replace H : ((tailraceref12_Alike.f kj20 x12_20 t196).bind fun t199 => (if t199 = true then ((tailracelaw13_works.f).bind fun t200 => (some t200)) else (some false))) = some r := H
                              have A76 := Aside0.mk A760
                              clear A760
                              replace H := Option.bind_eq_some_iff.mp H
                              obtain ⟨t199, A770, H⟩ := H
                              replace H : (if t199 = true then ((tailracelaw13_works.f).bind fun t200 => (some t200)) else (some false)) = some r := H
                              have A77 := Aside0.mk A770
                              clear A770
                              by_cases c78 : t199 = true
                              · subst c78
                                have H1 : ((tailracelaw13_works.f).bind fun t200 => (some t200)) = some r := by rw [if_pos rfl] at H; exact H
                                clear H
                                have H := H1
                                clear H1
                                replace H := Option.bind_eq_some_iff.mp H
                                obtain ⟨t200, A790, H⟩ := H
                                replace H : (some t200) = some r := H
                                have A79 := Aside0.mk A790
                                clear A790
                                obtain rfl := Option.some.inj H
                                obtain ⟨Ao80, co80, eo80⟩ := Kd.R_slice HO_12.out
                                subst eo80
                                obtain ⟨Ao81, co81, eo81⟩ := Kd.R_slice HO_13.out
                                subst eo81
                                go_wp2_with (first | ((with_reducible refine gate_callee (f := 14) rfl ?_); refine goesL_ (some 128) rfl rfl Try.func14 (by kernel_rfl) rfl #[.slice Ao80 x12_20.length co80, .slice Ao81 x13_20.length co81] rfl (by (try simp only [List.map_toArray, List.map_cons, List.map_nil]); first | done | rfl | (simp only [List.length_drop, List.length_take]; rfl)) ?_; (with_reducible refine (tailraceref12_Alike.calls kj20 _ _ x12_20 _ _ x13_20 true _ ?side1 ?side2 ?side3 ?side4 A67.out).mono ?_); (case side1 => repeat (first | exact (Kd.R_reads' HO_12.out).2.2 | (with_reducible refine Kd.C_alloc ?_ _) | (with_reducible refine Kd.C_drewN ?_ _) | (with_reducible refine Kd.C_drew ?_))); (case side2 => exact (Kd.R_reads' HO_12.out).2.1); (case side3 => repeat (first | exact (Kd.R_reads' HO_13.out).2.2 | (with_reducible refine Kd.C_alloc ?_ _) | (with_reducible refine Kd.C_drewN ?_ _) | (with_reducible refine Kd.C_drew ?_))); (case side4 => exact (Kd.R_reads' HO_13.out).2.1); rintro e w' ⟨rfl, ⟨nd, rfl⟩⟩; refine ⟨_, rfl, ?_⟩; have hcz82_0 : wc.cell? ⟨gb138, 0, none⟩ = some (.int .u8 a0_0) := (blk_cell BK138.out 0).trans rfl; have hcz82_1 : wc.cell? ⟨gb138, 1, none⟩ = some (.int .u8 a0_1) := (blk_cell BK138.out 1).trans rfl; have hcz82_2 : wc.cell? ⟨gb138, 2, none⟩ = some (.int .i64 a0_2) := (blk_cell BK138.out 2).trans rfl; have hcz82_3 : wc.cell? ⟨gb138, 3, none⟩ = some (.int .i64 a0_3) := (blk_cell BK138.out 3).trans rfl; have hcz82_4 : wc.cell? ⟨gb138, 4, none⟩ = some (.slice A0_4 l0_4.length c0_4) := (blk_cell BK138.out 4).trans rfl; have hfz82_0 := blk_frozen BK138.out 0; have hfz82_1 := blk_frozen BK138.out 1; have hfz82_2 := blk_frozen BK138.out 2; have hfz82_3 := blk_frozen BK138.out 3; have hfz82_4 := blk_frozen BK138.out 4) | ((with_reducible refine gate_callee (f := 15) rfl ?_); refine goesL_ (some 132) rfl rfl Try.func15 (by kernel_rfl) rfl #[.int .u8 a0_0] rfl (by (try simp only [List.map_toArray, List.map_cons, List.map_nil]); first | done | rfl | (simp only [List.length_drop, List.length_take]; rfl)) ?_; (with_reducible refine (opers_Waits.calls a0_0 false _ A69.out).mono ?_); rintro e w' ⟨rfl, ⟨nd, rfl⟩⟩; refine ⟨_, rfl, ?_⟩; obtain ⟨Ao83, co83, eo83⟩ := Kd.R_slice HO_14.out; subst eo83; obtain ⟨Ao84, co84, eo84⟩ := Kd.R_slice HO_15.out; subst eo84) | (go_at_call 21; (with_reducible show Calls Try.prog 21 _ (World.alloc _ (.cells #[.slice _ (List.length x14_20) _, .slice _ (List.length x15_20) _] 28)) _); (refine (value_Add2.calls _ _ x14_20 _ _ x15_20 t196 _ ?side1 ?side2 ?side3 ?side4 A76.out).mono ?_); (case side1 => repeat (first | exact (Kd.R_reads' HO_14.out).2.2 | (with_reducible refine Kd.C_alloc ?_ _) | (with_reducible refine Kd.C_drewN ?_ _) | (with_reducible refine Kd.C_drew ?_))); (case side2 => exact (Kd.R_reads' HO_14.out).2.1); (case side3 => repeat (first | exact (Kd.R_reads' HO_15.out).2.2 | (with_reducible refine Kd.C_alloc ?_ _) | (with_reducible refine Kd.C_drewN ?_ _) | (with_reducible refine Kd.C_drew ?_))); (case side4 => exact (Kd.R_reads' HO_15.out).2.1); rintro e w85 ⟨v197, rfl, ho0, hb⟩; have n0_ := Aside0.mk (Kd.R_elder' (by (with_reducible repeat (first | apply Kd.R_alloc | apply Kd.R_drewN | apply Kd.R_drew)); exact HO_12.out) (Kd.R_base ho0) hb); have n1_ := Aside0.mk (Kd.R_elder' (by (with_reducible repeat (first | apply Kd.R_alloc | apply Kd.R_drewN | apply Kd.R_drew)); exact HO_13.out) (Kd.R_base ho0) hb); have n2_ := Aside0.mk (Kd.R_elder' (by (with_reducible repeat (first | apply Kd.R_alloc | apply Kd.R_drewN | apply Kd.R_drew)); exact HO_14.out) (Kd.R_base ho0) hb); have n3_ := Aside0.mk (Kd.R_elder' (by (with_reducible repeat (first | apply Kd.R_alloc | apply Kd.R_drewN | apply Kd.R_drew)); exact HO_15.out) (Kd.R_base ho0) hb); have n4_ := Aside0.mk (Kd.R_lower (Kd.R_new' (Kd.R_new' (Kd.R_new' (Kd.R_new' ho0 (Kd.R_lt (by (with_reducible repeat (first | apply Kd.R_alloc | apply Kd.R_drewN | apply Kd.R_drew)); exact HO_12.out))) (Kd.R_lt (by (with_reducible repeat (first | apply Kd.R_alloc | apply Kd.R_drewN | apply Kd.R_drew)); exact HO_13.out))) (Kd.R_lt (by (with_reducible repeat (first | apply Kd.R_alloc | apply Kd.R_drewN | apply Kd.R_drew)); exact HO_14.out))) (Kd.R_lt (by (with_reducible repeat (first | apply Kd.R_alloc | apply Kd.R_drewN | apply Kd.R_drew)); exact HO_15.out))) (below_size (by repeat (first | (with_reducible first | exact HB.out | apply below_alloc | apply pw_below_drewN | apply below_drew1 | refine below_set ?_ GE138.out) | exact HB.out)))); have n5_ := Aside0.mk (blk_below (g := gb138) (o := .cells #[.int .u8 a0_0, .int .u8 a0_1, .int .i64 a0_2, .int .i64 a0_3, .slice A0_4 l0_4.length c0_4] 24 (0, 0)) (by (with_reducible repeat (first | refine blk_drewN ?_ _ | refine blk_drew ?_ | refine blk_alloc ?_ _)); exact BK138.out) hb); have n6_ := Aside0.mk (below_step (by repeat (first | (with_reducible first | exact HB.out | apply below_alloc | apply pw_below_drewN | apply below_drew1 | refine below_set ?_ GE138.out) | exact HB.out)) hb); clear HO_12; clear HO_13; clear HO_14; clear HO_15; clear BK138; clear HB; have HO_12 := n0_; have HO_13 := n1_; have HO_14 := n2_; have HO_15 := n3_; have HO198 := n4_; have BK138 := n5_; have HB := n6_; clear n0_ n1_ n2_ n3_ n4_ n5_ n6_; (try clear hb); (try clear hb2); (try clear hk); (try clear hi); (try clear ho0); obtain ⟨Ao86, co86, eo86⟩ := Kd.R_slice HO198.out; subst eo86) | (go_at_call 14; (with_reducible refine (tailraceref12_Alike.calls kj20 _ _ x12_20 _ _ t196 true _ ?side1 ?side2 ?side3 ?side4 A77.out).mono ?_); (case side1 => repeat (first | exact (Kd.R_reads' HO_12.out).2.2 | (with_reducible refine Kd.C_alloc ?_ _) | (with_reducible refine Kd.C_drewN ?_ _) | (with_reducible refine Kd.C_drew ?_))); (case side2 => exact (Kd.R_reads' HO_12.out).2.1); (case side3 => repeat (first | exact (Kd.R_reads' HO198.out).2.2 | (with_reducible refine Kd.C_alloc ?_ _) | (with_reducible refine Kd.C_drewN ?_ _) | (with_reducible refine Kd.C_drew ?_))); (case side4 => exact (Kd.R_reads' HO198.out).2.1); rintro e w' ⟨rfl, ⟨nd, rfl⟩⟩) | (go_at_call 11; (with_reducible refine (tailracelaw13_works.calls  t200 _ A79.out).mono ?_); rintro e w87 ⟨rfl, hb⟩; have n0_ := Aside0.mk (Kd.R_below (by (with_reducible repeat (first | apply Kd.R_alloc | apply Kd.R_drewN | apply Kd.R_drew)); exact HO_12.out) hb); have n1_ := Aside0.mk (Kd.R_below (by (with_reducible repeat (first | apply Kd.R_alloc | apply Kd.R_drewN | apply Kd.R_drew)); exact HO_13.out) hb); have n2_ := Aside0.mk (Kd.R_below (by (with_reducible repeat (first | apply Kd.R_alloc | apply Kd.R_drewN | apply Kd.R_drew)); exact HO_14.out) hb); have n3_ := Aside0.mk (Kd.R_below (by (with_reducible repeat (first | apply Kd.R_alloc | apply Kd.R_drewN | apply Kd.R_drew)); exact HO_15.out) hb); have n4_ := Aside0.mk (Kd.R_below (by (with_reducible repeat (first | apply Kd.R_alloc | apply Kd.R_drewN | apply Kd.R_drew)); exact HO198.out) hb); have n5_ := Aside0.mk (blk_below (g := gb138) (o := .cells #[.int .u8 a0_0, .int .u8 a0_1, .int .i64 a0_2, .int .i64 a0_3, .slice A0_4 l0_4.length c0_4] 24 (0, 0)) (by (with_reducible repeat (first | refine blk_drewN ?_ _ | refine blk_drew ?_ | refine blk_alloc ?_ _)); exact BK138.out) hb); have n6_ := Aside0.mk (below_step (by repeat (first | (with_reducible first | exact HB.out | apply below_alloc | apply pw_below_drewN | apply below_drew1 | refine below_set ?_ GE138.out) | exact HB.out)) hb); clear HO_12; clear HO_13; clear HO_14; clear HO_15; clear HO198; clear BK138; clear HB; have HO_12 := n0_; have HO_13 := n1_; have HO_14 := n2_; have HO_15 := n3_; have HO198 := n4_; have BK138 := n5_; have HB := n6_; clear n0_ n1_ n2_ n3_ n4_ n5_ n6_; (try clear hb); (try clear hb2); (try clear hk); (try clear hi)))
                                go_ret
                                exact ⟨by first | rfl | (simp [errW_none, errW_some] <;> rfl) | (simp [*, errW_none, errW_some] <;> rfl), by repeat (first | (with_reducible first | exact HB.out | apply below_alloc | apply pw_below_drewN | apply below_drew1 | refine below_set ?_ GE138.out) | exact HB.out)⟩
                              · replace c78 := Bool.eq_false_iff.mpr c78
                                subst c78
                                have H1 : (some false) = some r := by rw [if_neg (show ¬ (false = true) by decide)] at H; exact H
                                clear H
                                have H := H1
                                clear H1
                                obtain rfl := Option.some.inj H
                                obtain ⟨Ao88, co88, eo88⟩ := Kd.R_slice HO_12.out
                                subst eo88
                                obtain ⟨Ao89, co89, eo89⟩ := Kd.R_slice HO_13.out
                                subst eo89
                                go_wp2_with (first | ((with_reducible refine gate_callee (f := 14) rfl ?_); refine goesL_ (some 128) rfl rfl Try.func14 (by kernel_rfl) rfl #[.slice Ao88 x12_20.length co88, .slice Ao89 x13_20.length co89] rfl (by (try simp only [List.map_toArray, List.map_cons, List.map_nil]); first | done | rfl | (simp only [List.length_drop, List.length_take]; rfl)) ?_; (with_reducible refine (tailraceref12_Alike.calls kj20 _ _ x12_20 _ _ x13_20 true _ ?side1 ?side2 ?side3 ?side4 A67.out).mono ?_); (case side1 => repeat (first | exact (Kd.R_reads' HO_12.out).2.2 | (with_reducible refine Kd.C_alloc ?_ _) | (with_reducible refine Kd.C_drewN ?_ _) | (with_reducible refine Kd.C_drew ?_))); (case side2 => exact (Kd.R_reads' HO_12.out).2.1); (case side3 => repeat (first | exact (Kd.R_reads' HO_13.out).2.2 | (with_reducible refine Kd.C_alloc ?_ _) | (with_reducible refine Kd.C_drewN ?_ _) | (with_reducible refine Kd.C_drew ?_))); (case side4 => exact (Kd.R_reads' HO_13.out).2.1); rintro e w' ⟨rfl, ⟨nd, rfl⟩⟩; refine ⟨_, rfl, ?_⟩; have hcz90_0 : wc.cell? ⟨gb138, 0, none⟩ = some (.int .u8 a0_0) := (blk_cell BK138.out 0).trans rfl; have hcz90_1 : wc.cell? ⟨gb138, 1, none⟩ = some (.int .u8 a0_1) := (blk_cell BK138.out 1).trans rfl; have hcz90_2 : wc.cell? ⟨gb138, 2, none⟩ = some (.int .i64 a0_2) := (blk_cell BK138.out 2).trans rfl; have hcz90_3 : wc.cell? ⟨gb138, 3, none⟩ = some (.int .i64 a0_3) := (blk_cell BK138.out 3).trans rfl; have hcz90_4 : wc.cell? ⟨gb138, 4, none⟩ = some (.slice A0_4 l0_4.length c0_4) := (blk_cell BK138.out 4).trans rfl; have hfz90_0 := blk_frozen BK138.out 0; have hfz90_1 := blk_frozen BK138.out 1; have hfz90_2 := blk_frozen BK138.out 2; have hfz90_3 := blk_frozen BK138.out 3; have hfz90_4 := blk_frozen BK138.out 4) | ((with_reducible refine gate_callee (f := 15) rfl ?_); refine goesL_ (some 132) rfl rfl Try.func15 (by kernel_rfl) rfl #[.int .u8 a0_0] rfl (by (try simp only [List.map_toArray, List.map_cons, List.map_nil]); first | done | rfl | (simp only [List.length_drop, List.length_take]; rfl)) ?_; (with_reducible refine (opers_Waits.calls a0_0 false _ A69.out).mono ?_); rintro e w' ⟨rfl, ⟨nd, rfl⟩⟩; refine ⟨_, rfl, ?_⟩; obtain ⟨Ao91, co91, eo91⟩ := Kd.R_slice HO_14.out; subst eo91; obtain ⟨Ao92, co92, eo92⟩ := Kd.R_slice HO_15.out; subst eo92) | (go_at_call 21; (with_reducible show Calls Try.prog 21 _ (World.alloc _ (.cells #[.slice _ (List.length x14_20) _, .slice _ (List.length x15_20) _] 28)) _); (refine (value_Add2.calls _ _ x14_20 _ _ x15_20 t196 _ ?side1 ?side2 ?side3 ?side4 A76.out).mono ?_); (case side1 => repeat (first | exact (Kd.R_reads' HO_14.out).2.2 | (with_reducible refine Kd.C_alloc ?_ _) | (with_reducible refine Kd.C_drewN ?_ _) | (with_reducible refine Kd.C_drew ?_))); (case side2 => exact (Kd.R_reads' HO_14.out).2.1); (case side3 => repeat (first | exact (Kd.R_reads' HO_15.out).2.2 | (with_reducible refine Kd.C_alloc ?_ _) | (with_reducible refine Kd.C_drewN ?_ _) | (with_reducible refine Kd.C_drew ?_))); (case side4 => exact (Kd.R_reads' HO_15.out).2.1); rintro e w93 ⟨v197, rfl, ho0, hb⟩; have n0_ := Aside0.mk (Kd.R_elder' (by (with_reducible repeat (first | apply Kd.R_alloc | apply Kd.R_drewN | apply Kd.R_drew)); exact HO_12.out) (Kd.R_base ho0) hb); have n1_ := Aside0.mk (Kd.R_elder' (by (with_reducible repeat (first | apply Kd.R_alloc | apply Kd.R_drewN | apply Kd.R_drew)); exact HO_13.out) (Kd.R_base ho0) hb); have n2_ := Aside0.mk (Kd.R_elder' (by (with_reducible repeat (first | apply Kd.R_alloc | apply Kd.R_drewN | apply Kd.R_drew)); exact HO_14.out) (Kd.R_base ho0) hb); have n3_ := Aside0.mk (Kd.R_elder' (by (with_reducible repeat (first | apply Kd.R_alloc | apply Kd.R_drewN | apply Kd.R_drew)); exact HO_15.out) (Kd.R_base ho0) hb); have n4_ := Aside0.mk (Kd.R_lower (Kd.R_new' (Kd.R_new' (Kd.R_new' (Kd.R_new' ho0 (Kd.R_lt (by (with_reducible repeat (first | apply Kd.R_alloc | apply Kd.R_drewN | apply Kd.R_drew)); exact HO_12.out))) (Kd.R_lt (by (with_reducible repeat (first | apply Kd.R_alloc | apply Kd.R_drewN | apply Kd.R_drew)); exact HO_13.out))) (Kd.R_lt (by (with_reducible repeat (first | apply Kd.R_alloc | apply Kd.R_drewN | apply Kd.R_drew)); exact HO_14.out))) (Kd.R_lt (by (with_reducible repeat (first | apply Kd.R_alloc | apply Kd.R_drewN | apply Kd.R_drew)); exact HO_15.out))) (below_size (by repeat (first | (with_reducible first | exact HB.out | apply below_alloc | apply pw_below_drewN | apply below_drew1 | refine below_set ?_ GE138.out) | exact HB.out)))); have n5_ := Aside0.mk (blk_below (g := gb138) (o := .cells #[.int .u8 a0_0, .int .u8 a0_1, .int .i64 a0_2, .int .i64 a0_3, .slice A0_4 l0_4.length c0_4] 24 (0, 0)) (by (with_reducible repeat (first | refine blk_drewN ?_ _ | refine blk_drew ?_ | refine blk_alloc ?_ _)); exact BK138.out) hb); have n6_ := Aside0.mk (below_step (by repeat (first | (with_reducible first | exact HB.out | apply below_alloc | apply pw_below_drewN | apply below_drew1 | refine below_set ?_ GE138.out) | exact HB.out)) hb); clear HO_12; clear HO_13; clear HO_14; clear HO_15; clear BK138; clear HB; have HO_12 := n0_; have HO_13 := n1_; have HO_14 := n2_; have HO_15 := n3_; have HO198 := n4_; have BK138 := n5_; have HB := n6_; clear n0_ n1_ n2_ n3_ n4_ n5_ n6_; (try clear hb); (try clear hb2); (try clear hk); (try clear hi); (try clear ho0); obtain ⟨Ao94, co94, eo94⟩ := Kd.R_slice HO198.out; subst eo94) | (go_at_call 14; (with_reducible refine (tailraceref12_Alike.calls kj20 _ _ x12_20 _ _ t196 false _ ?side1 ?side2 ?side3 ?side4 A77.out).mono ?_); (case side1 => repeat (first | exact (Kd.R_reads' HO_12.out).2.2 | (with_reducible refine Kd.C_alloc ?_ _) | (with_reducible refine Kd.C_drewN ?_ _) | (with_reducible refine Kd.C_drew ?_))); (case side2 => exact (Kd.R_reads' HO_12.out).2.1); (case side3 => repeat (first | exact (Kd.R_reads' HO198.out).2.2 | (with_reducible refine Kd.C_alloc ?_ _) | (with_reducible refine Kd.C_drewN ?_ _) | (with_reducible refine Kd.C_drew ?_))); (case side4 => exact (Kd.R_reads' HO198.out).2.1); rintro e w' ⟨rfl, ⟨nd, rfl⟩⟩))
                                go_ret
                                exact ⟨by first | rfl | (simp [errW_none, errW_some] <;> rfl) | (simp [*, errW_none, errW_some] <;> rfl), by repeat (first | (with_reducible first | exact HB.out | apply below_alloc | apply pw_below_drewN | apply below_drew1 | refine below_set ?_ GE138.out) | exact HB.out)⟩
                          · replace c68 := Bool.eq_false_iff.mpr c68
                            subst c68
                            have H1 : (some false) = some r := by rw [if_neg (show ¬ (false = true) by decide)] at H; exact H
                            clear H
                            have H := H1
                            clear H1
                            obtain rfl := Option.some.inj H
                            obtain ⟨Ao95, co95, eo95⟩ := Kd.R_slice HO_12.out
                            subst eo95
                            obtain ⟨Ao96, co96, eo96⟩ := Kd.R_slice HO_13.out
                            subst eo96
                            go_wp2_with (first | ((with_reducible refine gate_callee (f := 14) rfl ?_); refine goesL_ (some 128) rfl rfl Try.func14 (by kernel_rfl) rfl #[.slice Ao95 x12_20.length co95, .slice Ao96 x13_20.length co96] rfl (by (try simp only [List.map_toArray, List.map_cons, List.map_nil]); first | done | rfl | (simp only [List.length_drop, List.length_take]; rfl)) ?_; (with_reducible refine (tailraceref12_Alike.calls kj20 _ _ x12_20 _ _ x13_20 false _ ?side1 ?side2 ?side3 ?side4 A67.out).mono ?_); (case side1 => repeat (first | exact (Kd.R_reads' HO_12.out).2.2 | (with_reducible refine Kd.C_alloc ?_ _) | (with_reducible refine Kd.C_drewN ?_ _) | (with_reducible refine Kd.C_drew ?_))); (case side2 => exact (Kd.R_reads' HO_12.out).2.1); (case side3 => repeat (first | exact (Kd.R_reads' HO_13.out).2.2 | (with_reducible refine Kd.C_alloc ?_ _) | (with_reducible refine Kd.C_drewN ?_ _) | (with_reducible refine Kd.C_drew ?_))); (case side4 => exact (Kd.R_reads' HO_13.out).2.1); rintro e w' ⟨rfl, ⟨nd, rfl⟩⟩; refine ⟨_, rfl, ?_⟩))
                            go_ret
                            exact ⟨by first | rfl | (simp [errW_none, errW_some] <;> rfl) | (simp [*, errW_none, errW_some] <;> rfl), by repeat (first | (with_reducible first | exact HB.out | apply below_alloc | apply pw_below_drewN | apply below_drew1 | refine below_set ?_ GE138.out) | exact HB.out)⟩
end Go.Proofs.Ytcihpjkjodhdpaa.X
namespace Go.Proofs.Ytcihpjkjodhdpaa.X
set_option linter.unusedVariables false
set_option linter.unusedSimpArgs false
open Go.RowKit Go.Proofs.YtcihpjkjodhdpaaW.PrintWords Go.Proofs.YtcihpjkjodhdpaaW.PrintLast Go.Proofs.YtcihpjkjodhdpaaW.PrintMore
theorem redV_comm (a : Int) (ok : Bool) (old v w : Int) : redV a true (redV a ok old v) w = redV a true (redV a ok old w) v := by
  unfold redV
  by_cases h1 : a = 1
  · simp only [if_pos h1]
  · simp only [if_neg h1]
    by_cases h0 : a = 0
    · simp only [if_pos h0, Bool.true_eq_false, if_false]
      cases ok with
      | true => simp only [Bool.true_eq_false, if_false]; unfold wrap64; omega
      | false => simp only [if_true]; rw [Int.add_comm]
    · simp only [if_neg h0, Bool.true_eq_false, if_false]
      by_cases h2 : a = 2
      · simp only [if_pos h2]
        cases ok with
        | true => simp only [Bool.true_eq_false, if_false]; unfold mn; repeat' split <;> omega
        | false => simp only [if_true]; unfold mn; repeat' split <;> omega
      · simp only [if_neg h2]
        cases ok with
        | true => simp only [Bool.true_eq_false, if_false]; unfold mx; repeat' split <;> omega
        | false => simp only [if_true]; unfold mx; repeat' split <;> omega
theorem redStep_comm (a : Int) (f : Int → Option Int) (x y : S36) : redStep a (redStep a f x) y = redStep a (redStep a f y) x := by
  funext k
  unfold redStep
  by_cases e : x.f0 = y.f0
  · rw [e]
    by_cases hk : k = y.f0
    · simp only [if_pos hk, if_true, Option.isSome_some, Option.getD_some]
      rw [redV_comm]
    · simp only [if_neg hk]
  · have e' : ¬ y.f0 = x.f0 := fun h => e h.symm
    by_cases hk : k = y.f0
    · have hx : ¬ k = x.f0 := fun h => e' (by rw [← hk, h])
      simp only [if_pos hk, if_neg hx, if_neg e', if_neg e]
    · by_cases hx : k = x.f0
      · simp only [if_neg hk, if_pos hx, if_neg e', if_neg e]
      · simp only [if_neg hk, if_neg hx]
theorem redS_perm (a : Int) {l m : List S36} (h : l.Perm m) : redS a l = redS a m := by
  unfold redS
  generalize (fun _ => none : Int → Option Int) = f
  induction h generalizing f with
  | nil => rfl
  | cons x _ ih => exact ih _
  | swap x y l => simp only [List.foldl_cons]; rw [redStep_comm]
  | trans _ _ ih1 ih2 => rw [ih1 f, ih2 f]
theorem redL_perm (a : Int) {l m : List S36} (h : l.Perm m) : (redL a l).Perm (redL a m) := by
  refine (List.perm_ext_iff_of_nodup (redL_nodup a l) (redL_nodup a m)).2 fun x => ?_
  rw [redL_mem, redL_mem, redS_perm a h]
theorem joinL_perm (b : List S36) {l m : List S36} (h : l.Perm m) : (joinL l b).Perm (joinL m b) := h.flatMap_right _
theorem doesL_perm (k a b : Int) {l m : List S36} (h : l.Perm m) (rest : List (List S36)) : (doesL k a b (l :: rest)).Perm (doesL k a b (m :: rest)) := by
  unfold doesL
  have e1 : rd_L2 (l :: rest) 0 = l := rfl
  have e2 : rd_L2 (m :: rest) 0 = m := rfl
  have e3 : rd_L2 (l :: rest) 1 = rd_L2 (m :: rest) 1 := rfl
  rw [e1, e2, e3]
  by_cases h2 : k = 2
  · rw [if_pos h2, if_pos h2]; exact h.map _
  rw [if_neg h2, if_neg h2]
  by_cases h3 : k = 3
  · rw [if_pos h3, if_pos h3]; exact h.filter _
  rw [if_neg h3, if_neg h3]
  by_cases h5 : k = 5
  · rw [if_pos h5, if_pos h5]; exact redL_perm a h
  rw [if_neg h5, if_neg h5]
  by_cases h6 : k = 6
  · rw [if_pos h6, if_pos h6]; exact joinL_perm _ h
  rw [if_neg h6, if_neg h6, List.flatten_cons, List.flatten_cons]
  exact h.append_right _
def resF (k a b : Int) (L : List (List S36)) : List S36 := if numB k a b = false then [] else if (L.length : Int) ≠ arityI k then [] else srt (doesL k a b L)
theorem run_res (k a b d : Int) (l : List Int) (L : List (List S36)) (h : okRows L = true) (ha : 0 ≤ a) : ∃ e, opers_Run.f k a b d l L = some (resF k a b L, e) := by
  unfold opers_Run.f resF
  by_cases h1 : numB k a b = false
  · rw [if_pos h1, if_pos h1]; exact ⟨_, rfl⟩
  rw [if_neg h1, if_neg h1]
  by_cases h2 : (L.length : Int) ≠ arityI k
  · rw [if_pos h2, if_pos h2]; exact ⟨_, rfl⟩
  rw [if_neg h2, if_neg h2, if_pos ⟨h, ha⟩]
  exact ⟨_, rfl⟩
theorem resF_perm (k a b : Int) {l m : List S36} (h : l.Perm m) (rest : List (List S36)) : resF k a b (l :: rest) = resF k a b (m :: rest) := by
  unfold resF
  rw [srt_perm (doesL_perm k a b h rest)]
  rfl
theorem redL_len (a : Int) (l : List S36) : (redL a l).length ≤ l.length := by
  unfold redL
  rw [List.length_map]
  have : ∀ (r : List S36) (seen : List Int), (firsts seen r).length ≤ r.length := by
    intro r
    induction r with
    | nil => intro seen; simp [firsts]
    | cons x r ih =>
      intro seen
      unfold firsts
      split
      · have := ih seen; rw [List.length_cons]; omega
      · have := ih (seen ++ [x.f0]); rw [List.length_cons, List.length_cons]; omega
  exact this l []
theorem resF_len (k a b : Int) (l m : List S36) (hl : l.length ≤ 60) (hm : m.length ≤ 60) : (resF k a b [l, m]).length ≤ 4000 ∧ (resF k a b [l]).length ≤ 4000 := by
  have hd : ∀ L : List (List S36), (doesL k a b L).length ≤ 4000 → (resF k a b L).length ≤ 4000 := by
    intro L h
    unfold resF
    split
    · simp
    split
    · simp
    · rw [srt_length]; exact h
  have hj : ∀ m' : List S36, m'.length ≤ 60 → (joinL l m').length ≤ 3600 := fun m' hm' => Nat.le_trans (joinL_length l m') (Nat.mul_le_mul hl hm')
  refine ⟨hd _ ?_, hd _ ?_⟩
  · unfold doesL
    have e1 : rd_L2 [l, m] 0 = l := rfl
    have e2 : rd_L2 [l, m] 1 = m := rfl
    rw [e1, e2]
    have h1 := List.length_filter_le (filtF a b) l
    have h2 := redL_len a l
    have h3 := hj m hm
    repeat' split
    · rw [List.length_map]; omega
    · omega
    · omega
    · omega
    · simp; omega
  · unfold doesL
    have e1 : rd_L2 [l] 0 = l := rfl
    have e2 : rd_L2 [l] 1 = [] := rfl
    rw [e1, e2]
    have h1 := List.length_filter_le (filtF a b) l
    have h2 := redL_len a l
    have h3 := hj [] (by simp)
    repeat' split
    · rw [List.length_map]; omega
    · omega
    · omega
    · omega
    · simp; omega
theorem cut_one (k a b : Int) (l : List S36) (q : Nat) (h5 : k ≠ 5) (h6 : k ≠ 6) : srt (resF k a b [l.take q] ++ resF k a b [l.drop q]) = resF k a b [l] := by
  unfold resF
  have el : ∀ x : List S36, (([x] : List (List S36)).length : Int) = 1 := fun _ => rfl
  rw [el, el, el]
  split
  · exact srt_nil
  split
  · exact srt_nil
  rw [srt_app]
  congr 1
  unfold doesL
  have e1 : ∀ x : List S36, rd_L2 [x] 0 = x := fun _ => rfl
  rw [e1, e1, e1]
  by_cases h2 : k = 2
  · simp only [if_pos h2]; rw [← List.map_append, List.take_append_drop]
  simp only [if_neg h2]
  by_cases h3 : k = 3
  · simp only [if_pos h3]; rw [← List.filter_append, List.take_append_drop]
  simp only [if_neg h3, if_neg h5, if_neg h6]
  simp
theorem cut_two (a b : Int) (l m : List S36) (q : Nat) : srt (resF 4 a b [l.take q, m] ++ resF 4 a b [l.drop q, []]) = resF 4 a b [l, m] := by
  unfold resF
  have el : ∀ x y : List S36, (([x, y] : List (List S36)).length : Int) = 2 := fun _ _ => rfl
  rw [el, el, el]
  split
  · exact srt_nil
  split
  · exact srt_nil
  rw [srt_app]
  refine srt_perm ?_
  have ed : ∀ x y : List S36, doesL 4 a b [x, y] = x ++ y := fun x y => by unfold doesL; simp
  rw [ed, ed, ed, List.append_nil, List.append_assoc]
  refine ((List.perm_append_comm (l₁ := m) (l₂ := l.drop q)).append_left _).trans ?_
  rw [← List.append_assoc, List.take_append_drop]
end Go.Proofs.Ytcihpjkjodhdpaa.X
namespace Go.Proofs.Ytcihpjkjodhdpaa.X
set_option linter.unusedVariables false
set_option linter.unusedSimpArgs false
open Go.RowKit Go.Proofs.YtcihpjkjodhdpaaW.PrintWords Go.Proofs.YtcihpjkjodhdpaaW.PrintLast Go.Proofs.YtcihpjkjodhdpaaW.PrintMore
theorem rdAt' (l : List S36) (i : Nat) (h : i < l.length) : rd_T36 l (i : Int) = l[i] := by
  unfold rd_T36
  rw [Int.toNat_natCast, List.getD_eq_getElem?_getD, List.getElem?_eq_getElem h, Option.getD_some]
theorem okRows_1 {l : List S36} (hl : l.length ≤ 1000) (hw : ∀ x ∈ l, wf36 x) : okRows [l] = true := by
  unfold okRows
  simp only [List.all_cons, List.all_nil, Bool.and_true, Bool.and_eq_true, decide_eq_true_eq, List.all_eq_true]
  exact ⟨hl, fun x hx => (wfB_iff x).2 (hw x hx)⟩
theorem order_j5 (k0 a b d : Int) (l4 : List Int) (A B C D : List S36) (hA : A.length ≤ 4000) (hC : C.length ≤ 4000) (hD : D.length ≤ 4000) (hAB : A = B) (h : k0 = 5 ∨ k0 = 6 ∨ srt (C ++ D) = A) :
    Ev (fun k => tailracelaw13_OpersOrder.j5 k A B C D k0 a b d l4) true := by
  subst hAB
  refine Ev.step (fun k => by rw [tailracelaw13_OpersOrder.j5]) ?_
  refine Ev.bind (alike_ev A (by omega)) ?_
  simp only [if_true]
  unfold opers_Waits.f
  by_cases h5 : k0 = 5
  · simp only [if_pos h5, Option.bind_some, if_true]
    exact Ev.now true
  simp only [if_neg h5, Option.bind_some]
  by_cases h6 : k0 = 6
  · simp only [h6, beq_self_eq_true, if_true]
    exact Ev.now true
  have hc : srt (C ++ D) = A := by rcases h with h | h | h; exact absurd h h5; exact absurd h h6; exact h
  simp only [beq_eq_false_iff_ne.2 h6, Bool.false_eq_true, if_false]
  rw [add_two C D (by omega), hc]
  simp only [Option.bind_some]
  refine Ev.bind (alike_ev A (by omega)) ?_
  simp only [if_true]
  exact Ev.now true
theorem order_j4 (k0 a b d : Int) (l4 : List Int) (x1 x2 : List S36) (h1 : x1.length ≤ 60) (h2 : x2.length ≤ 60) (hw : ∀ x ∈ x1, wf36 x) (hv : ∀ x ∈ x2, wf36 x) (ha : 0 ≤ a) (x9 : List S36) (x11 : Int) (hp : x9.Perm x1) (h0 : 0 ≤ x11) (hle : x11 ≤ x1.length) (x88 : Bool) (hx : x88 = true ↔ (k0 = 4 ∨ k0 = 6)) :
    Ev (fun k => tailracelaw13_OpersOrder.j4 k x1 x2 x9 x11 x88 k0 a b d l4) true := by
  have hw9 : ∀ x ∈ x9, wf36 x := fun x hx => hw x (hp.mem_iff.1 hx)
  have hl9 : x9.length ≤ 60 := by rw [hp.length_eq]; exact h1
  have hlt : (x1.take x11.toNat).length ≤ 60 := by rw [List.length_take]; omega
  have hld : (x1.drop x11.toNat).length ≤ 60 := by rw [List.length_drop]; omega
  have hwt : ∀ x ∈ x1.take x11.toNat, wf36 x := fun x hx => hw x (List.mem_of_mem_take hx)
  have hwd : ∀ x ∈ x1.drop x11.toNat, wf36 x := fun x hx => hw x (List.mem_of_mem_drop hx)
  cases x88 with
  | true =>
    have hk := hx.1 rfl
    obtain ⟨e1, r1⟩ := run_res k0 a b d l4 [x1, x2] (okRows_two (by omega) hw (by omega) hv) ha
    obtain ⟨e2, r2⟩ := run_res k0 a b d l4 [x9, x2] (okRows_two (by omega) hw9 (by omega) hv) ha
    obtain ⟨e3, r3⟩ := run_res k0 a b d l4 [x1.take x11.toNat, x2] (okRows_two (by omega) hwt (by omega) hv) ha
    obtain ⟨e4, r4⟩ := run_res k0 a b d l4 [x1.drop x11.toNat, []] (okRows_two (by omega) hwd (by simp) (by simp)) ha
    refine Ev.step (f := fun k => tailracelaw13_OpersOrder.j5 k (resF k0 a b [x1, x2]) (resF k0 a b [x9, x2]) (resF k0 a b [x1.take x11.toNat, x2]) (resF k0 a b [x1.drop x11.toNat, []]) k0 a b d l4) (fun k => ?_) ?_
    · rw [tailracelaw13_OpersOrder.j4, if_pos rfl]
      unfold opers_Run2.f
      rw [r1, r2]
      simp only [Option.bind_some]
      rw [if_pos h0, if_pos hle, r3, r4]
      simp only [Option.bind_some]
    · refine order_j5 k0 a b d l4 _ _ _ _ (resF_len k0 a b x1 x2 h1 h2).1 (resF_len k0 a b _ x2 hlt h2).1 (resF_len k0 a b _ [] hld (by simp)).1 (resF_perm k0 a b hp.symm [x2]) ?_
      rcases hk with rfl | rfl
      · exact .inr (.inr (cut_two a b x1 x2 x11.toNat))
      · exact .inr (.inl rfl)
  | false =>
    have hk : ¬ (k0 = 4 ∨ k0 = 6) := fun h => by have := hx.2 h; cases this
    obtain ⟨e1, r1⟩ := run_res k0 a b d l4 [x1] (okRows_1 (by omega) hw) ha
    obtain ⟨e2, r2⟩ := run_res k0 a b d l4 [x9] (okRows_1 (by omega) hw9) ha
    obtain ⟨e3, r3⟩ := run_res k0 a b d l4 [x1.take x11.toNat] (okRows_1 (by omega) hwt) ha
    obtain ⟨e4, r4⟩ := run_res k0 a b d l4 [x1.drop x11.toNat] (okRows_1 (by omega) hwd) ha
    refine Ev.step (f := fun k => tailracelaw13_OpersOrder.j5 k (resF k0 a b [x1]) (resF k0 a b [x9]) (resF k0 a b [x1.take x11.toNat]) (resF k0 a b [x1.drop x11.toNat]) k0 a b d l4) (fun k => ?_) ?_
    · rw [tailracelaw13_OpersOrder.j4, if_neg (by simp)]
      unfold opers_Run1.f
      rw [r1, r2]
      simp only [Option.bind_some]
      rw [if_pos h0, if_pos hle, r3, r4]
      simp only [Option.bind_some]
    · refine order_j5 k0 a b d l4 _ _ _ _ (resF_len k0 a b x1 [] h1 (by simp)).2 (resF_len k0 a b _ [] hlt (by simp)).2 (resF_len k0 a b _ [] hld (by simp)).2 (resF_perm k0 a b hp.symm []) ?_
      by_cases h5 : k0 = 5
      · exact .inl h5
      · exact .inr (.inr (cut_one k0 a b x1 x11.toNat h5 (fun h => hk (.inr h))))
theorem order_j3 (k0 a b d : Int) (l4 : List Int) (x1 x2 : List S36) (h1 : x1.length ≤ 60) (h2 : x2.length ≤ 60) (hw : ∀ x ∈ x1, wf36 x) (hv : ∀ x ∈ x2, wf36 x) (ha : 0 ≤ a) (x9 : List S36) (x11 : Int) (hp : x9.Perm x1) (h0 : 0 ≤ x11) (hle : x11 ≤ x1.length) : Ev (fun k => tailracelaw13_OpersOrder.j3 k x1 x2 x9 x11 k0 a b d l4) true := by
  by_cases e1 : k0 = 1
  · exact Ev.step (f := fun _ => some true) (fun k => by rw [tailracelaw13_OpersOrder.j3, if_pos e1]; rfl) (Ev.now _)
  by_cases e4 : k0 = 4
  · exact Ev.step (fun k => by rw [tailracelaw13_OpersOrder.j3, if_neg e1, if_pos e4]) (order_j4 k0 a b d l4 x1 x2 h1 h2 hw hv ha x9 x11 hp h0 hle _ (by simp [e4]))
  · exact Ev.step (fun k => by rw [tailracelaw13_OpersOrder.j3, if_neg e1, if_neg e4]) (order_j4 k0 a b d l4 x1 x2 h1 h2 hw hv ha x9 x11 hp h0 hle _ (by simp [e4]))
theorem order_j2 (k0 a b d : Int) (l4 : List Int) (x1 x2 : List S36) (h1 : x1.length ≤ 60) (h2 : x2.length ≤ 60) (hw : ∀ x ∈ x1, wf36 x) (hv : ∀ x ∈ x2, wf36 x) (ha : 0 ≤ a) (x9 : List S36) (x3 : Int) (hp : x9.Perm x1) (x45 : Bool) (hx : x45 = true → 0 ≤ x3) : Ev (fun k => tailracelaw13_OpersOrder.j2 k x1 x2 x3 x9 0 x45 k0 a b d l4) true := by
  have e2 : wrap64 ((x1.length : Int) + 1) = (x1.length : Int) + 1 := wrap_small (by omega) (by omega)
  cases x45 with
  | true =>
    have t0 : 0 ≤ Int.tmod x3 ((x1.length : Int) + 1) := Int.tmod_nonneg _ (hx rfl)
    have t1 : Int.tmod x3 ((x1.length : Int) + 1) < (x1.length : Int) + 1 := Int.tmod_lt_of_pos _ (by omega)
    exact Ev.step (fun k => by rw [tailracelaw13_OpersOrder.j2, if_pos rfl, e2, if_neg (by omega)]) (order_j3 k0 a b d l4 x1 x2 h1 h2 hw hv ha x9 _ hp t0 (by omega))
  | false => exact Ev.step (fun k => by rw [tailracelaw13_OpersOrder.j2, if_neg (by simp)]) (order_j3 k0 a b d l4 x1 x2 h1 h2 hw hv ha x9 0 hp (by omega) (by omega))
theorem order_l0 (k0 a b d : Int) (l4 : List Int) (x1 x2 : List S36) (h1 : x1.length ≤ 60) (h2 : x2.length ≤ 60) (hw : ∀ x ∈ x1, wf36 x) (hv : ∀ x ∈ x2, wf36 x) (ha : 0 ≤ a) (x3 : Int) : ∀ n : Nat, n ≤ x1.length → Ev (fun k => tailracelaw13_OpersOrder.l0 k x1 x2 x3 ((x1.drop n).reverse) ((n : Int) - 1) k0 a b d l4) true
  | 0, _ => by
    have hp : ((x1.drop 0).reverse).Perm x1 := by rw [List.drop_zero]; exact List.reverse_perm _
    by_cases hl : (x1.length : Int) > 0
    · exact Ev.step (fun k => by rw [tailracelaw13_OpersOrder.l0, if_neg (by omega), if_pos hl]) (order_j2 k0 a b d l4 x1 x2 h1 h2 hw hv ha _ x3 hp (decide (x3 ≥ 0)) (fun h => by simpa using h))
    · exact Ev.step (fun k => by rw [tailracelaw13_OpersOrder.l0, if_neg (by omega), if_neg hl]) (order_j2 k0 a b d l4 x1 x2 h1 h2 hw hv ha _ x3 hp false (fun h => by cases h))
  | n + 1, hn => by
    have hlt : n < x1.length := by omega
    refine Ev.step (fun k => ?_) (order_l0 k0 a b d l4 x1 x2 h1 h2 hw hv ha x3 n (by omega))
    have e1 : ((n + 1 : Nat) : Int) - 1 = (n : Int) := by omega
    have e2 : wrap64 ((n : Int) - 1) = (n : Int) - 1 := wrap_small (by omega) (by omega)
    have e3 : (x1.drop (n + 1)).reverse ++ [(⟨(rd_T36 x1 (n : Int)).f0, (rd_T36 x1 (n : Int)).f1⟩ : S36)] = (x1.drop n).reverse := by
      rw [rdAt' x1 n hlt, List.drop_eq_getElem_cons hlt, List.reverse_cons]
    rw [tailracelaw13_OpersOrder.l0, e1, if_pos (by omega), if_pos (by omega), if_pos (by omega), if_pos (by rw [List.length_reverse, List.length_drop]; omega), e2, e3]
theorem OpersOrder_ev (k0 a b d : Int) (l4 : List Int) (x1 x2 : List S36) (x3 : Int) (hw : ∀ x ∈ x1, wf36 x) (hv : ∀ x ∈ x2, wf36 x) (ha : 0 ≤ a) : Ev (fun k => tailracelaw13_OpersOrder.f k k0 a b d l4 x1 x2 x3) true := by
  have hesc : Ev (fun k => tailracelaw13_OpersOrder.j0 k x1 x2 x3 true k0 a b d l4) true := Ev.step (f := fun _ => some true) (fun k => by rw [tailracelaw13_OpersOrder.j0, if_pos rfl]; rfl) (Ev.now _)
  unfold tailracelaw13_OpersOrder.f
  by_cases h1 : (x1.length : Int) > 60
  · simp only [if_pos h1]; exact hesc
  simp only [if_neg h1]
  by_cases h2 : (x2.length : Int) > 60
  · rw [decide_eq_true h2]; exact hesc
  rw [decide_eq_false h2]
  have h := order_l0 k0 a b d l4 x1 x2 (by omega) (by omega) hw hv ha x3 x1.length (Nat.le_refl _)
  rw [List.drop_length, List.reverse_nil] at h
  refine Ev.step (fun k => ?_) h
  rw [tailracelaw13_OpersOrder.j0, if_neg (by simp), wrap_small (by omega) (by omega)]
end Go.Proofs.Ytcihpjkjodhdpaa.X
namespace Go.Proofs.Ytcihpjkjodhdpaa.X
set_option linter.unusedVariables false
set_option linter.unusedSimpArgs false
open Go.RowKit Go.Proofs.YtcihpjkjodhdpaaW.PrintWords Go.Proofs.YtcihpjkjodhdpaaW.PrintLast Go.Proofs.YtcihpjkjodhdpaaW.PrintMore
open Go.ChangeShapes Go.WideShapes
section
variable {H : Type} {enc : TypeId × Value → H} {W : World} {fuel : Nat} {x : DataW H × List MemPlace} {cs : List Value}
theorem open_ins (h : DataW.trod enc Try.prog W 0 (fun _ => true) true fuel 22 cs = some x) : ∃ (A : Option Addr) (c : Nat) (xs : List Int), cs = [.slice A xs.length c] ∧ xs.length ≤ c ∧ (Kd.int .i64).C W A xs.length xs := by
  rcases open_ints Try.underlying22 Try.underlying3 (by kernel_rfl) h with ⟨rfl, _⟩ | ⟨a, len, cap, zs, rfl, _, hl, hm, hz, _, hcell, _⟩
  · exact ⟨none, 0, [], rfl, Nat.le_refl _, rfl, by simp, fun h => absurd h (Nat.not_lt_zero _)⟩
  · simp only [if_true] at hz
    have hlen : (zs.take len).length = len := by rw [List.length_take]; omega
    refine ⟨some a, cap, zs.take len, by rw [hlen], by omega, ?_⟩
    rw [hlen]
    refine Kd.C_of_reads (d := (0 : Int)) ⟨hlen, ?_, fun _ => ⟨a, rfl, fun j hj => ?_⟩⟩
    · unfold maxLen at hm; omega
    · rw [hcell j (by omega)]
      congr 2
      simp [List.getD_eq_getElem?_getD, List.getElem?_take, hj]
set_option maxRecDepth 10000 in
theorem open_node (h : DataW.trod enc Try.prog W 0 (fun _ => true) true fuel 24 cs = some x) : ∃ (y : S24) (A : Option Addr) (c : Nat), cs = [.int .u8 y.f0, .int .u8 y.f1, .int .i64 y.f2, .int .i64 y.f3, .slice A y.f4.length c] ∧ y.f4.length ≤ c ∧ (Kd.int .i64).C W A y.f4.length y.f4 ∧ (Lit.int .u8 y.f0).wf = true ∧ (Lit.int .u8 y.f1).wf = true ∧ (Lit.int .i64 y.f2).wf = true := by
  obtain ⟨xs, n, _, _, hl, hlen, hf⟩ := DataW.trod_struct Try.underlying24 h
  have hc : Try.prog.cellsOf 24 = 5 := by kernel_rfl
  have hc5 : Try.prog.cellsOf 5 = 1 := by kernel_rfl
  have hc2 : Try.prog.cellsOf 2 = 1 := by kernel_rfl
  have hc3 : Try.prog.cellsOf 3 = 1 := by kernel_rfl
  have hc22 : Try.prog.cellsOf 22 = 1 := by kernel_rfl
  rw [hc] at hl
  match cs, hl with
  | [c0, c1, c2, c3, c4], _ =>
    match xs, hlen with
    | [y0, y1, y2, y3, y4], _ =>
      have h0 : DataW.trod enc Try.prog W 0 (fun _ => true) true n 5 (([c0, c1, c2, c3, c4].drop 0).take (Try.prog.cellsOf 5)) = some y0 := hf 0 _ rfl
      rw [hc5] at h0
      replace h0 : DataW.trod enc Try.prog W 0 (fun _ => true) true n 5 [c0] = some y0 := h0
      have h1 : DataW.trod enc Try.prog W 0 (fun _ => true) true n 5 (([c0, c1, c2, c3, c4].drop 1).take (Try.prog.cellsOf 5)) = some y1 := hf 1 _ rfl
      rw [hc5] at h1
      replace h1 : DataW.trod enc Try.prog W 0 (fun _ => true) true n 5 [c1] = some y1 := h1
      have h2 : DataW.trod enc Try.prog W 0 (fun _ => true) true n 2 (([c0, c1, c2, c3, c4].drop 2).take (Try.prog.cellsOf 2)) = some y2 := hf 2 _ rfl
      rw [hc2] at h2
      replace h2 : DataW.trod enc Try.prog W 0 (fun _ => true) true n 2 [c2] = some y2 := h2
      have h3 : DataW.trod enc Try.prog W 0 (fun _ => true) true n 3 (([c0, c1, c2, c3, c4].drop 3).take (Try.prog.cellsOf 3)) = some y3 := hf 3 _ rfl
      rw [hc3] at h3
      replace h3 : DataW.trod enc Try.prog W 0 (fun _ => true) true n 3 [c3] = some y3 := h3
      have h4 : DataW.trod enc Try.prog W 0 (fun _ => true) true n 22 (([c0, c1, c2, c3, c4].drop 4).take (Try.prog.cellsOf 22)) = some y4 := hf 4 _ rfl
      rw [hc22] at h4
      replace h4 : DataW.trod enc Try.prog W 0 (fun _ => true) true n 22 [c4] = some y4 := h4
      obtain ⟨z0, e0, _, w0⟩ := DataW.trod_int Try.underlying5 h0
      obtain ⟨z1, e1, _, w1⟩ := DataW.trod_int Try.underlying5 h1
      obtain ⟨z2, e2, _, w2⟩ := DataW.trod_int Try.underlying2 h2
      obtain ⟨z3, e3, _, _⟩ := DataW.trod_int Try.underlying3 h3
      obtain ⟨A, c, l, e4, l4, g4⟩ := open_ins h4
      simp only [List.cons.injEq, and_true] at e0 e1 e2 e3 e4
      subst e0 e1 e2 e3 e4
      exact ⟨⟨z0, z1, z2, z3, l⟩, A, c, rfl, l4, g4, w0, w1, w2⟩
set_option maxRecDepth 10000 in
theorem open_rec (h : DataW.trod enc Try.prog W 0 (fun _ => true) true fuel 36 cs = some x) : ∃ y : S36, cs = [.int .i64 y.f0, .int .i64 y.f1] ∧ wf36 y := by
  obtain ⟨xs, n, _, _, hl, hlen, hf⟩ := DataW.trod_struct Try.underlying36 h
  have hc : Try.prog.cellsOf 36 = 2 := by kernel_rfl
  have hc2 : Try.prog.cellsOf 2 = 1 := by kernel_rfl
  rw [hc] at hl
  match cs, hl with
  | [c0, c1], _ =>
    match xs, hlen with
    | [y0, y1], _ =>
      have h0 : DataW.trod enc Try.prog W 0 (fun _ => true) true n 2 (([c0, c1].drop 0).take (Try.prog.cellsOf 2)) = some y0 := hf 0 _ rfl
      rw [hc2] at h0
      replace h0 : DataW.trod enc Try.prog W 0 (fun _ => true) true n 2 [c0] = some y0 := h0
      have h1 : DataW.trod enc Try.prog W 0 (fun _ => true) true n 2 (([c0, c1].drop 1).take (Try.prog.cellsOf 2)) = some y1 := hf 1 _ rfl
      rw [hc2] at h1
      replace h1 : DataW.trod enc Try.prog W 0 (fun _ => true) true n 2 [c1] = some y1 := h1
      obtain ⟨z0, e0, _, w0⟩ := DataW.trod_int Try.underlying2 h0
      obtain ⟨z1, e1, _, w1⟩ := DataW.trod_int Try.underlying2 h1
      simp only [List.cons.injEq, and_true] at e0 e1
      subst e0 e1
      exact ⟨⟨z0, z1⟩, rfl, w0, w1⟩
theorem open_slice_of {α : Type} [Inhabited α] {d : Kd α} {e : TypeId} {sz : Nat} (he : Try.prog.cellsOf e = sz) (hs : d.sz = sz) (Pr : α → Prop)
    (hopen : ∀ {fuel : Nat} {cs : List Value} {x : DataW H × List MemPlace}, DataW.trod enc Try.prog W 0 (fun _ => true) true fuel e cs = some x → ∃ y : α, d.K W y cs ∧ Pr y)
    {t : TypeId} (ht : Try.prog.underlying t = some (.slice e)) (h : DataW.trod enc Try.prog W 0 (fun _ => true) true fuel t cs = some x) : ∃ (a : Option Addr) (cap : Nat) (G : List α), cs = [.slice a G.length cap] ∧ G.length ≤ cap ∧ Kd.C d W a G.length G ∧ ∀ y ∈ G, Pr y := by
  rcases Go.Deep.open_slice ht h with ⟨hcs, _⟩ | ⟨ad, l, c, m, n, D, Pl, hcs, _, hl, hm, hmm, _, hx⟩
  · exact ⟨none, 0, [], hcs, Nat.le_refl _, ⟨rfl, by simp, fun h => absurd h (Nat.not_lt_zero _)⟩, by simp⟩
  · simp only [if_true] at hmm
    rw [he] at hx
    obtain ⟨g, hg⟩ := Go.Deep.choose_lt (α := α) (p := fun i y => ∃ cs', W.cells? 0 (ad.add (i * sz)) sz = some cs' ∧ d.K W y cs' ∧ Pr y) (n := m) fun i hi => by
      obtain ⟨cs', h1, h2⟩ := hx i hi
      obtain ⟨y, hy, hp⟩ := hopen h2
      exact ⟨y, cs', h1, hy, hp⟩
    have hlen : ((List.range l).map g).length = l := by simp
    refine ⟨some ad, c, (List.range l).map g, by rw [hlen]; exact hcs, by rw [hlen]; exact hl, ⟨rfl, ?_, fun _ => ⟨ad, rfl, fun j p hp => ?_⟩⟩, fun y hy => ?_⟩
    · unfold maxLen at hm
      rw [hlen]
      omega
    · rw [List.getElem?_map] at hp
      by_cases hj : j < l
      · rw [List.getElem?_range hj] at hp
        obtain rfl : g j = p := by simpa using hp
        obtain ⟨cs', h1, h2, _⟩ := hg j (by omega)
        obtain ⟨_, h3, h4⟩ := World.cells?_some h1
        refine ⟨cs', by rw [h3, hs], h2, fun i u hu => ?_⟩
        have hi : i < sz := by
          rcases Nat.lt_or_ge i sz with h | h
          · exact h
          · rw [List.getElem?_eq_none (by omega)] at hu; exact absurd hu (by simp)
        rw [hs, ← Go.Deep.add_add, h4 i hi, hu]
      · rw [List.getElem?_eq_none (by simp; omega)] at hp
        exact absurd hp (by simp)
    · obtain ⟨j, hj, rfl⟩ := List.mem_map.1 hy
      obtain ⟨_, _, _, hp⟩ := hg j (by have := List.mem_range.1 hj; omega)
      exact hp
instance : Inhabited S36 := ⟨z36⟩
theorem open_recs (h : DataW.trod enc Try.prog W 0 (fun _ => true) true fuel 28 cs = some x) : ∃ (a : Option Addr) (cap : Nat) (G : List S36), cs = [.slice a G.length cap] ∧ G.length ≤ cap ∧ Kd.C k36 W a G.length G ∧ ∀ y ∈ G, wf36 y :=
  open_slice_of (d := k36) (by kernel_rfl) rfl wf36 (fun h => by obtain ⟨y, rfl, hw⟩ := open_rec h; exact ⟨y, k36_mk _ y, hw⟩) Try.underlying28 h
end
end Go.Proofs.Ytcihpjkjodhdpaa.X
