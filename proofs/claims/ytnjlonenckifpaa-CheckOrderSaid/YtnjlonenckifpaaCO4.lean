/- A part of the proof. -/
import Derived.Test.YtnjlonenckifpaaCO3
import Derived.WideMake
import Derived.Laws.MakeOwn
import Derived.Laws.Rows
import Derived.Outline
import Derived.Deep.DeepMust
namespace Go.Proofs.Ytnjlonenckifpaa.X
open Go.RowKit Go.Proofs.YtnjlonenckifpaaW.PrintWords Go.Proofs.YtnjlonenckifpaaW.PrintLast Go.Proofs.YtnjlonenckifpaaW.PrintMore
set_option linter.unusedVariables false
set_option linter.unusedSimpArgs false
def tailracekit_Ins.l0 : Nat → List (S39) → Int → Int → Option (Bool)
  | 0, _, _, _ => none
  | k + 1, x0, x1, x5 => if x5 < (x0.length : Int) then (if 0 ≤ x5 then (if (((rd_T39 x0 x5).f4).length : Int) > x1 then (some false) else (tailracekit_Ins.l0 k x0 x1 (wrap64 (x5 + 1)))) else (none)) else (some true)
def tailracekit_Ins.f (k : Nat) (l0 : List (S39)) (a1 : Int) : Option (Bool) := if (l0.length : Int) > a1 then (some false) else (tailracekit_Ins.l0 k l0 a1 0)
set_option maxHeartbeats 8000000 in
set_option maxRecDepth 100000 in
theorem tailracekit_Ins.calls (k : Nat) (A0 : Option Addr) (c0 : Nat) (l0 : List (S39)) (a1 : Int) (r : Bool) (w : World) (hr0 : Kd.C k39 w A0 l0.length l0) (hc0 : l0.length ≤ c0) (h : tailracekit_Ins.f k l0 a1 = some r) :
    Calls Try.prog 9 #[.slice A0 l0.length c0, .int .i64 a1] w fun e w' => e = .returned (.bool r) ∧ Drawn0 w w' := by
  have HR0 := Aside0.mk hr0
  have HC0 := Aside0.mk hc0
  clear hr0 hc0
  have H : (if (l0.length : Int) > a1 then (some false) else (tailracekit_Ins.l0 k l0 a1 0)) = some r := h
  clear h
  by_cases c3 : (l0.length : Int) > a1
  · rw [if_pos c3] at H
    have c3b0 : decide (a1 < (l0.length : Int)) = true := decide_eq_true c3
    clear c3
    obtain rfl := Option.some.inj H
    go_enter Try.func9, Try.ntmps9
    go_wp2
    go_ret
    exact ⟨by first | rfl | (simp; done) | (simp [*]; done), by repeat (first | exact Drawn0.refl _ | apply Drawn0.step)⟩
  · rw [if_neg c3] at H
    have c3b0 : decide (a1 < (l0.length : Int)) = false := decide_eq_false c3
    clear c3
    have H' := Aside0.mk H
    clear H
    go_enter Try.func9, Try.ntmps9
    go_wp2
    go_loopg [5] k (fun kq v5 w' => ∃ (x5_1 : Int), v5 = .int .i64 x5_1 ∧ Aside0 (tailracekit_Ins.l0 kq l0 a1 x5_1 = some r) ∧ Aside0 (kq ≤ k) ∧ Drawn0 w w')
    case atStart => exact ⟨(0), (by first | rfl | (simp; done) | (simp [*]; done)), H', ⟨Nat.le_refl _⟩, by repeat (first | exact Drawn0.refl _ | apply Drawn0.step)⟩
    case round =>
      clear H'
      try clear p2
      try clear c3
      try clear c3b0
      obtain ⟨x5_1, rfl, HA, HK1, ⟨m1, rfl⟩⟩ := hrel
      cases gk with
      | zero => exact absurd HA.out (by simp [tailracekit_Ins.l0])
      | succ k1 =>
        have H := HA.out
        clear HA
        simp only [tailracekit_Ins.l0] at H
        by_cases c4 : x5_1 < (l0.length : Int)
        · rw [if_pos c4] at H
          have c4b0 : decide (x5_1 < (l0.length : Int)) = true := decide_eq_true c4
          clear c4
          by_cases c5 : 0 ≤ x5_1
          · rw [if_pos c5] at H
            have c5b0 : decide (0 ≤ x5_1) = true := decide_eq_true c5
            clear c5
            by_cases c6 : (((rd_T39 l0 x5_1).f4).length : Int) > a1
            · rw [if_pos c6] at H
              have c6b0 : decide (a1 < (((rd_T39 l0 x5_1).f4).length : Int)) = true := decide_eq_true c6
              clear c6
              obtain rfl := Option.some.inj H
              have p101 : 0 ≤ (x5_1 : Int) := of_decide_eq_true (by first | (with_reducible assumption) | assumption)
              have q101 : x5_1 < (l0.length : Int) := of_decide_eq_true (by first | (with_reducible assumption) | assumption)
              obtain ⟨ad101, A101_4, c101_4, e101, hx101_0, hx101_1, hx101_2, hx101_3, hx101_4, hl101_4, hi101_4⟩ := at_T39 HR0.out x5_1 p101 q101
              cases e101
              have HR101_4 := Aside0.mk hi101_4
              have HC101_4 := Aside0.mk hl101_4
              clear hi101_4 hl101_4
              replace p101 := eq_true p101
              replace q101 := eq_true q101
              go_wp2
              go_ret
              exact ⟨by first | rfl | (simp; done) | (simp [*]; done), by repeat (first | exact Drawn0.refl _ | apply Drawn0.step)⟩
            · rw [if_neg c6] at H
              have c6b0 : decide (a1 < (((rd_T39 l0 x5_1).f4).length : Int)) = false := decide_eq_false c6
              clear c6
              have H' := Aside0.mk H
              clear H
              have p101 : 0 ≤ (x5_1 : Int) := of_decide_eq_true (by first | (with_reducible assumption) | assumption)
              have q101 : x5_1 < (l0.length : Int) := of_decide_eq_true (by first | (with_reducible assumption) | assumption)
              obtain ⟨ad101, A101_4, c101_4, e101, hx101_0, hx101_1, hx101_2, hx101_3, hx101_4, hl101_4, hi101_4⟩ := at_T39 HR0.out x5_1 p101 q101
              cases e101
              have HR101_4 := Aside0.mk hi101_4
              have HC101_4 := Aside0.mk hl101_4
              clear hi101_4 hl101_4
              replace p101 := eq_true p101
              replace q101 := eq_true q101
              go_wp2
              go_roundg k1
              case measure => have := HK1.out; omega
              case rel => exact ⟨(wrap64 (x5_1 + 1)), (by first | rfl | (simp; done) | (simp [*]; done)), H', ⟨by have := HK1.out; omega⟩, by repeat (first | exact Drawn0.refl _ | apply Drawn0.step)⟩
          · rw [if_neg c5] at H
            exact absurd H (by simp)
        · rw [if_neg c4] at H
          have c4b0 : decide (x5_1 < (l0.length : Int)) = false := decide_eq_false c4
          clear c4
          obtain rfl := Option.some.inj H
          go_wp2
          go_ret
          exact ⟨by first | rfl | (simp; done) | (simp [*]; done), by repeat (first | exact Drawn0.refl _ | apply Drawn0.step)⟩
def check_plain.f (a0_0 : Int) (a0_1 : Int) (a0_2 : Int) (a0_3 : Int) (l0_4 : List Int) : Option (Bool) := if a0_1 = 0 then (some (a0_2 == 0)) else (some false)
set_option maxHeartbeats 8000000 in
set_option maxRecDepth 100000 in
theorem check_plain.calls (a0_0 : Int) (a0_1 : Int) (a0_2 : Int) (a0_3 : Int) (A0_4 : Option Addr) (c0_4 : Nat) (l0_4 : List Int) (r : Bool) (w : World) (hr0_4 : Kd.C (Kd.int .i64) w A0_4 l0_4.length l0_4) (hc0_4 : l0_4.length ≤ c0_4) (h : check_plain.f a0_0 a0_1 a0_2 a0_3 l0_4 = some r) :
    Calls Try.prog 39 #[.agg #[.int .u8 a0_0, .int .u8 a0_1, .int .i64 a0_2, .int .i64 a0_3, .slice A0_4 l0_4.length c0_4]] w fun e w' => e = .returned (.bool r) ∧ Below w.heap.size w w' := by
  have hu39 := Try.underlying39
  have HR0_4 := Aside0.mk hr0_4
  have HC0_4 := Aside0.mk hc0_4
  clear hr0_4 hc0_4
  have HB := Aside0.mk (Below.refl w.heap.size w)
  have H : (if a0_1 = 0 then (some (a0_2 == 0)) else (some false)) = some r := h
  clear h
  by_cases c2 : a0_1 = 0
  · rw [if_pos c2] at H
    have c2b0 : (a0_1 == 0) = true := beq_iff_eq.mpr c2
    have c2b1 : (a0_1 != 0) = false := bne_eq_false_iff_eq.mpr c2
    clear c2
    obtain rfl := Option.some.inj H
    go_enter Try.func39, Try.ntmps39
    go_wp2_with (first | ((with_reducible refine gate_dst (N := 1) rfl ?_); refine box_event ?hg (N := 1) ?hd (cs := #[.int .u8 a0_0, .int .u8 a0_1, .int .i64 a0_2, .int .i64 a0_3, .slice A0_4 l0_4.length c0_4]) (t := 39) ?hr ?_; (case hd => rfl); (case hg => rfl); (case hr => first | (go_simp; done) | (go_simp; rfl)); intro gb102 hg w3 hbox hb; have n0_ := Aside0.mk (below_step (by repeat (first | (with_reducible first | exact HB.out | apply below_alloc | apply pw_below_drewN | apply below_drew1) | exact HB.out)) hb); have n1_ := Aside0.mk (hbox); have n2_ := Aside0.mk ((by rw [hg]; exact (below_size (by repeat (first | (with_reducible first | exact HB.out | apply below_alloc | apply pw_below_drewN | apply below_drew1) | exact HB.out))) : w.heap.size ≤ gb102)); have n3_ := Aside0.mk ((by rw [hg]; exact (below_size (by repeat (first | (with_reducible first | exact HB.out | apply below_alloc | apply pw_below_drewN | apply below_drew1) | exact HB.out))) : w.heap.size ≤ gb102)); clear HB; have HB := n0_; have BK102 := n1_; have GW102 := n2_; have GE102 := n3_; clear n0_ n1_ n2_ n3_; clear hb hbox hg; have hcz4_0 : w3.cell? ⟨gb102, 0, none⟩ = some (.int .u8 a0_0) := (blk_cell BK102.out 0).trans rfl; have hcz4_1 : w3.cell? ⟨gb102, 1, none⟩ = some (.int .u8 a0_1) := (blk_cell BK102.out 1).trans rfl; have hcz4_2 : w3.cell? ⟨gb102, 2, none⟩ = some (.int .i64 a0_2) := (blk_cell BK102.out 2).trans rfl; have hcz4_3 : w3.cell? ⟨gb102, 3, none⟩ = some (.int .i64 a0_3) := (blk_cell BK102.out 3).trans rfl; have hcz4_4 : w3.cell? ⟨gb102, 4, none⟩ = some (.slice A0_4 l0_4.length c0_4) := (blk_cell BK102.out 4).trans rfl; have hfz4_0 := blk_frozen BK102.out 0; have hfz4_1 := blk_frozen BK102.out 1; have hfz4_2 := blk_frozen BK102.out 2; have hfz4_3 := blk_frozen BK102.out 3; have hfz4_4 := blk_frozen BK102.out 4))
    go_ret
    exact ⟨by first | rfl | (simp [errW_none, errW_some] <;> rfl) | (simp [*, errW_none, errW_some] <;> rfl), by repeat (first | (with_reducible first | exact HB.out | apply below_alloc | apply pw_below_drewN | apply below_drew1 | refine below_set ?_ GE102.out) | exact HB.out)⟩
  · rw [if_neg c2] at H
    have c2b0 : (a0_1 == 0) = false := beq_eq_false_iff_ne.mpr c2
    have c2b1 : (a0_1 != 0) = true := bne_iff_ne.mpr c2
    obtain rfl := Option.some.inj H
    go_enter Try.func39, Try.ntmps39
    go_wp2_with (first | ((with_reducible refine gate_dst (N := 1) rfl ?_); refine box_event ?hg (N := 1) ?hd (cs := #[.int .u8 a0_0, .int .u8 a0_1, .int .i64 a0_2, .int .i64 a0_3, .slice A0_4 l0_4.length c0_4]) (t := 39) ?hr ?_; (case hd => rfl); (case hg => rfl); (case hr => first | (go_simp; done) | (go_simp; rfl)); intro gb102 hg w5 hbox hb; have n0_ := Aside0.mk (below_step (by repeat (first | (with_reducible first | exact HB.out | apply below_alloc | apply pw_below_drewN | apply below_drew1) | exact HB.out)) hb); have n1_ := Aside0.mk (hbox); have n2_ := Aside0.mk ((by rw [hg]; exact (below_size (by repeat (first | (with_reducible first | exact HB.out | apply below_alloc | apply pw_below_drewN | apply below_drew1) | exact HB.out))) : w.heap.size ≤ gb102)); have n3_ := Aside0.mk ((by rw [hg]; exact (below_size (by repeat (first | (with_reducible first | exact HB.out | apply below_alloc | apply pw_below_drewN | apply below_drew1) | exact HB.out))) : w.heap.size ≤ gb102)); clear HB; have HB := n0_; have BK102 := n1_; have GW102 := n2_; have GE102 := n3_; clear n0_ n1_ n2_ n3_; clear hb hbox hg; have hcz6_0 : w5.cell? ⟨gb102, 0, none⟩ = some (.int .u8 a0_0) := (blk_cell BK102.out 0).trans rfl; have hcz6_1 : w5.cell? ⟨gb102, 1, none⟩ = some (.int .u8 a0_1) := (blk_cell BK102.out 1).trans rfl; have hcz6_2 : w5.cell? ⟨gb102, 2, none⟩ = some (.int .i64 a0_2) := (blk_cell BK102.out 2).trans rfl; have hcz6_3 : w5.cell? ⟨gb102, 3, none⟩ = some (.int .i64 a0_3) := (blk_cell BK102.out 3).trans rfl; have hcz6_4 : w5.cell? ⟨gb102, 4, none⟩ = some (.slice A0_4 l0_4.length c0_4) := (blk_cell BK102.out 4).trans rfl; have hfz6_0 := blk_frozen BK102.out 0; have hfz6_1 := blk_frozen BK102.out 1; have hfz6_2 := blk_frozen BK102.out 2; have hfz6_3 := blk_frozen BK102.out 3; have hfz6_4 := blk_frozen BK102.out 4))
    go_ret
    exact ⟨by first | rfl | (simp [errW_none, errW_some] <;> rfl) | (simp [*, errW_none, errW_some] <;> rfl), by repeat (first | (with_reducible first | exact HB.out | apply below_alloc | apply pw_below_drewN | apply below_drew1 | refine below_set ?_ GE102.out) | exact HB.out)⟩
def check_arity.f (a0 : Int) : Option (Int) := if a0 = 1 then (some 0) else (if a0 = 4 then (some 2) else (if a0 = 6 then (some 2) else (some 1)))
set_option maxHeartbeats 8000000 in
set_option maxRecDepth 100000 in
theorem check_arity.calls (a0 : Int) (r : Int) (w : World) (h : check_arity.f a0 = some r) :
    Calls Try.prog 41 #[.int .u8 a0] w fun e w' => e = .returned (.int .i64 r) ∧ Drawn0 w w' := by
  have H : (if a0 = 1 then (some 0) else (if a0 = 4 then (some 2) else (if a0 = 6 then (some 2) else (some 1)))) = some r := h
  clear h
  by_cases c2 : a0 = 1
  · rw [if_pos c2] at H
    have c2b0 : (a0 == 1) = true := beq_iff_eq.mpr c2
    have c2b1 : (a0 != 1) = false := bne_eq_false_iff_eq.mpr c2
    clear c2
    obtain rfl := Option.some.inj H
    go_enter Try.func41, Try.ntmps41
    go_wp2
    go_ret
    exact ⟨by first | rfl | (simp; done) | (simp [*]; done), by repeat (first | exact Drawn0.refl _ | apply Drawn0.step)⟩
  · rw [if_neg c2] at H
    have c2b0 : (a0 == 1) = false := beq_eq_false_iff_ne.mpr c2
    have c2b1 : (a0 != 1) = true := bne_iff_ne.mpr c2
    by_cases c3 : a0 = 4
    · rw [if_pos c3] at H
      have c3b0 : (a0 == 4) = true := beq_iff_eq.mpr c3
      have c3b1 : (a0 != 4) = false := bne_eq_false_iff_eq.mpr c3
      clear c3
      obtain rfl := Option.some.inj H
      go_enter Try.func41, Try.ntmps41
      go_wp2
      go_ret
      exact ⟨by first | rfl | (simp; done) | (simp [*]; done), by repeat (first | exact Drawn0.refl _ | apply Drawn0.step)⟩
    · rw [if_neg c3] at H
      have c3b0 : (a0 == 4) = false := beq_eq_false_iff_ne.mpr c3
      have c3b1 : (a0 != 4) = true := bne_iff_ne.mpr c3
      by_cases c4 : a0 = 6
      · rw [if_pos c4] at H
        have c4b0 : (a0 == 6) = true := beq_iff_eq.mpr c4
        have c4b1 : (a0 != 6) = false := bne_eq_false_iff_eq.mpr c4
        clear c4
        obtain rfl := Option.some.inj H
        go_enter Try.func41, Try.ntmps41
        go_wp2
        go_ret
        exact ⟨by first | rfl | (simp; done) | (simp [*]; done), by repeat (first | exact Drawn0.refl _ | apply Drawn0.step)⟩
      · rw [if_neg c4] at H
        have c4b0 : (a0 == 6) = false := beq_eq_false_iff_ne.mpr c4
        have c4b1 : (a0 != 6) = true := bne_iff_ne.mpr c4
        obtain rfl := Option.some.inj H
        go_enter Try.func41, Try.ntmps41
        go_wp2
        go_ret
        exact ⟨by first | rfl | (simp; done) | (simp [*]; done), by repeat (first | exact Drawn0.refl _ | apply Drawn0.step)⟩
mutual
def flow_To.l0 : Nat → Int → List (S69) → List (S39) → Int → Int → Option ((List (S69)))
  | 0, _, _, _, _, _ => none
  | k + 1, x1, x5, x10, x11, x12 => if x12 < x11 then (if 0 ≤ x12 then (if x12 < (x10.length : Int) then (flow_To.l1 k x1 x5 x12 x10 x11 x12 ((rd_T39 x10 x12).f4) (((rd_T39 x10 x12).f4).length : Int) 0) else (none)) else (none)) else (some x5)
def flow_To.l1 : Nat → Int → List (S69) → Int → List (S39) → Int → Int → List Int → Int → Int → Option ((List (S69)))
  | 0, _, _, _, _, _, _, _, _, _ => none
  | k + 1, x1, x5, x6, x10, x11, x12, x18, x19, x20 => if x20 < x19 then (if 0 ≤ x20 then (if x20 < (x18.length : Int) then (if (rd x18 x20) = x1 then (if x5.length < 8796093022208 then (flow_To.l1 k x1 (x5 ++ [(⟨x6, x20⟩ : S69)]) x6 x10 x11 x12 x18 x19 (wrap64 (x20 + 1))) else (none)) else (flow_To.l1 k x1 x5 x6 x10 x11 x12 x18 x19 (wrap64 (x20 + 1)))) else (none)) else (none)) else (flow_To.l0 k x1 x5 x10 x11 (wrap64 (x12 + 1)))
end
def flow_To.f (k : Nat) (l0 : List (S39)) (a1 : Int) : Option ((List (S69))) := flow_To.l0 k a1 ([] : List (S69)) l0 (l0.length : Int) 0
set_option maxHeartbeats 8000000 in
set_option maxRecDepth 100000 in
theorem flow_To.calls (k : Nat) (A0 : Option Addr) (c0 : Nat) (l0 : List (S39)) (a1 : Int) (r : List (S69)) (w : World) (hr0 : Kd.C k39 w A0 l0.length l0) (hc0 : l0.length ≤ c0) (h : flow_To.f k l0 a1 = some r) :
    Calls Try.prog 55 #[.slice A0 l0.length c0, .int .i64 a1] w fun e w' => ∃ v0_ : Value, e = .returned (v0_) ∧ Kd.R k69 69 w' w.heap.size (fun _ => True) v0_ r ∧ Below w.heap.size w w' := by
  have hu39 := Try.underlying39
  have hu69 := Try.underlying69
  have HR0 := Aside0.mk hr0
  have HC0 := Aside0.mk hc0
  clear hr0 hc0
  have HB := Aside0.mk (Below.refl w.heap.size w)
  have H : (flow_To.l0 k a1 ([] : List (S69)) l0 (l0.length : Int) 0) = some r := h
  clear h
  have H' := Aside0.mk H
  clear H
  go_enter Try.func55, Try.ntmps55
  go_wp2
  go_loopg [5, 12] k (fun kq v5 v12 w' => ∃ (x5_1 : List (S69)) (x12_1 : Int), v12 = .int .i64 x12_1 ∧ Aside0 (flow_To.l0 kq a1 x5_1 l0 (l0.length : Int) x12_1 = some r) ∧ Aside0 (kq ≤ k) ∧ Aside0 (Kd.R k69 69 w' w.heap.size (fun _ => True) v5 x5_1) ∧ Aside0 (Below w.heap.size w w'))
  case atStart => exact ⟨(([] : List (S69))), (0), (by first | rfl | (simp; done) | (simp [*]; done)), H', ⟨Nat.le_refl _⟩, ⟨by first | exact Kd.R_nil _ _ _ _ _ | exact Kd.N_nil _ _ _ _ _ | exact Kd.V_nil _ _ _ _ _ | exact Kd.Q_nil _ _ _ _ _ | exact Kd.S_nil _ _ _ _ _⟩, ⟨by repeat (first | (with_reducible first | exact HB.out | apply below_alloc | apply pw_below_drewN | apply below_drew1) | exact HB.out)⟩⟩
  case round =>
    clear H'
    try clear p2
    obtain ⟨x5_1, x12_1, rfl, HA, HK1, HO_5, HB⟩ := hrel
    cases gk with
    | zero => exact absurd HA.out (by simp [flow_To.l0])
    | succ k1 =>
      have H := HA.out
      clear HA
      simp only [flow_To.l0] at H
      by_cases c3 : x12_1 < (l0.length : Int)
      · rw [if_pos c3] at H
        have c3b0 : decide (x12_1 < (l0.length : Int)) = true := decide_eq_true c3
        clear c3
        by_cases c4 : 0 ≤ x12_1
        · rw [if_pos c4] at H
          have c4b0 : decide (0 ≤ x12_1) = true := decide_eq_true c4
          clear c4
          by_cases c5 : x12_1 < (l0.length : Int)
          · rw [if_pos c5] at H
            have c5b0 : decide (x12_1 < (l0.length : Int)) = true := decide_eq_true c5
            clear c5
            have H' := Aside0.mk H
            clear H
            have p111 : 0 ≤ (x12_1 : Int) := of_decide_eq_true (by first | (with_reducible assumption) | assumption)
            have q111 : x12_1 < (l0.length : Int) := of_decide_eq_true (by first | (with_reducible assumption) | assumption)
            obtain ⟨ad111, A111_4, c111_4, e111, hx111_0, hx111_1, hx111_2, hx111_3, hx111_4, hl111_4, hi111_4⟩ := at_T39 HR0.out x12_1 p111 q111
            cases e111
            replace hx111_0 := (HB.out.cell (World.block_lt_of_cell? w _ hx111_0)).trans hx111_0
            replace hx111_1 := (HB.out.cell (World.block_lt_of_cell? w _ hx111_1)).trans hx111_1
            replace hx111_2 := (HB.out.cell (World.block_lt_of_cell? w _ hx111_2)).trans hx111_2
            replace hx111_3 := (HB.out.cell (World.block_lt_of_cell? w _ hx111_3)).trans hx111_3
            replace hx111_4 := (HB.out.cell (World.block_lt_of_cell? w _ hx111_4)).trans hx111_4
            have HR111_4 := Aside0.mk hi111_4
            have HC111_4 := Aside0.mk hl111_4
            clear hi111_4 hl111_4
            replace p111 := eq_true p111
            replace q111 := eq_true q111
            go_wp2_with (first | ((with_reducible refine gate_dst (N := 7) rfl ?_); refine box_event ?hg (N := 7) ?hd (cs := #[.int .u8 0, .int .u8 0, .int .i64 0, .int .i64 0, .slice none 0 0]) (t := 39) ?hr ?_; (case hd => rfl); (case hg => rfl); (case hr => first | (go_simp; done) | (go_simp; rfl)); intro gb112 hg w6 hbox hb; have n0_ := Aside0.mk (Kd.R_below (by (with_reducible repeat (first | apply Kd.R_alloc | apply Kd.R_drewN | apply Kd.R_drew)); exact HO_5.out) hb); have n1_ := Aside0.mk (below_step (by repeat (first | (with_reducible first | exact HB.out | apply below_alloc | apply pw_below_drewN | apply below_drew1) | exact HB.out)) hb); have n2_ := Aside0.mk (hbox); have n3_ := Aside0.mk ((by rw [hg]; exact (below_size (by repeat (first | (with_reducible first | exact HB.out | apply below_alloc | apply pw_below_drewN | apply below_drew1) | exact HB.out))) : w.heap.size ≤ gb112)); have n4_ := Aside0.mk ((by rw [hg]; exact (below_size (by repeat (first | (with_reducible first | exact HB.out | apply below_alloc | apply pw_below_drewN | apply below_drew1) | exact HB.out))) : w.heap.size ≤ gb112)); clear HO_5; clear HB; have HO_5 := n0_; have HB := n1_; have BK112 := n2_; have GW112 := n3_; have GE112 := n4_; clear n0_ n1_ n2_ n3_ n4_; clear hb hbox hg; have hcz7_0 : w6.cell? ⟨gb112, 0, none⟩ = some (.int .u8 0) := (blk_cell BK112.out 0).trans rfl; have hcz7_1 : w6.cell? ⟨gb112, 1, none⟩ = some (.int .u8 0) := (blk_cell BK112.out 1).trans rfl; have hcz7_2 : w6.cell? ⟨gb112, 2, none⟩ = some (.int .i64 0) := (blk_cell BK112.out 2).trans rfl; have hcz7_3 : w6.cell? ⟨gb112, 3, none⟩ = some (.int .i64 0) := (blk_cell BK112.out 3).trans rfl; have hcz7_4 : w6.cell? ⟨gb112, 4, none⟩ = some (.slice none 0 0) := (blk_cell BK112.out 4).trans rfl; have hfz7_0 := blk_frozen BK112.out 0; have hfz7_1 := blk_frozen BK112.out 1; have hfz7_2 := blk_frozen BK112.out 2; have hfz7_3 := blk_frozen BK112.out 3; have hfz7_4 := blk_frozen BK112.out 4))
            go_loopg [5, 20] k1 (fun kq v5 v20 w' => ∃ (x5_2 : List (S69)) (x20_2 : Int), v20 = .int .i64 x20_2 ∧ Aside0 (flow_To.l1 kq a1 x5_2 x12_1 l0 (l0.length : Int) x12_1 ((rd_T39 l0 x12_1).f4) (((rd_T39 l0 x12_1).f4).length : Int) x20_2 = some r) ∧ Aside0 (kq ≤ k1) ∧ Aside0 (Kd.R k69 69 w' w.heap.size (fun _ => True) v5 x5_2) ∧ Aside0 (w'.heap[gb112]? = some (.cells #[.int .u8 ((rd_T39 l0 x12_1).f0), .int .u8 ((rd_T39 l0 x12_1).f1), .int .i64 ((rd_T39 l0 x12_1).f2), .int .i64 ((rd_T39 l0 x12_1).f3), (.slice A111_4 ((rd_T39 l0 x12_1).f4).length c111_4)] 39 (0, 0))) ∧ Aside0 (Below w.heap.size w w'))
            case atStart => exact ⟨(x5_1), (0), (by first | rfl | (simp; done) | (simp [*]; done)), H', ⟨Nat.le_refl _⟩, ⟨by (with_reducible repeat (first | apply Kd.R_alloc | apply Kd.R_drewN | apply Kd.R_drew)); exact Kd.R_mono (Kd.R_far (p := ⟨gb112, 4, none⟩) (Kd.R_far (p := ⟨gb112, 3, none⟩) (Kd.R_far (p := ⟨gb112, 2, none⟩) (Kd.R_far (p := ⟨gb112, 1, none⟩) (Kd.R_far (p := ⟨gb112, 0, none⟩) (Kd.R_types HO_5.out BK112.out (by decide)) (fun _ hk => hk.2) (.int .u8 ((rd_T39 l0 x12_1).f0))) (fun _ hk => hk.2) (.int .u8 ((rd_T39 l0 x12_1).f1))) (fun _ hk => hk.2) (.int .i64 ((rd_T39 l0 x12_1).f2))) (fun _ hk => hk.2) (.int .i64 ((rd_T39 l0 x12_1).f3))) (fun _ hk => hk.2) (.slice A111_4 ((rd_T39 l0 x12_1).f4).length c111_4)) (fun _ hk => trivial)⟩, ⟨by (with_reducible repeat (first | refine blk_drewN ?_ _ | refine blk_drew ?_ | refine blk_alloc ?_ _)); refine blk_put (cs := #[.int .u8 ((rd_T39 l0 x12_1).f0), .int .u8 ((rd_T39 l0 x12_1).f1), .int .i64 ((rd_T39 l0 x12_1).f2), .int .i64 ((rd_T39 l0 x12_1).f3), .slice none 0 0]) ?_ 4 _ rfl; (with_reducible repeat (first | refine blk_drewN ?_ _ | refine blk_drew ?_ | refine blk_alloc ?_ _)); refine blk_put (cs := #[.int .u8 ((rd_T39 l0 x12_1).f0), .int .u8 ((rd_T39 l0 x12_1).f1), .int .i64 ((rd_T39 l0 x12_1).f2), .int .i64 0, .slice none 0 0]) ?_ 3 _ rfl; (with_reducible repeat (first | refine blk_drewN ?_ _ | refine blk_drew ?_ | refine blk_alloc ?_ _)); refine blk_put (cs := #[.int .u8 ((rd_T39 l0 x12_1).f0), .int .u8 ((rd_T39 l0 x12_1).f1), .int .i64 0, .int .i64 0, .slice none 0 0]) ?_ 2 _ rfl; (with_reducible repeat (first | refine blk_drewN ?_ _ | refine blk_drew ?_ | refine blk_alloc ?_ _)); refine blk_put (cs := #[.int .u8 ((rd_T39 l0 x12_1).f0), .int .u8 0, .int .i64 0, .int .i64 0, .slice none 0 0]) ?_ 1 _ rfl; (with_reducible repeat (first | refine blk_drewN ?_ _ | refine blk_drew ?_ | refine blk_alloc ?_ _)); refine blk_put (cs := #[.int .u8 0, .int .u8 0, .int .i64 0, .int .i64 0, .slice none 0 0]) ?_ 0 _ rfl; (with_reducible repeat (first | refine blk_drewN ?_ _ | refine blk_drew ?_ | refine blk_alloc ?_ _)); exact BK112.out⟩, ⟨by repeat (first | (with_reducible first | exact HB.out | apply below_alloc | apply pw_below_drewN | apply below_drew1 | refine below_set ?_ GE112.out) | exact HB.out)⟩⟩
            case round =>
              clear H'
              try clear c1
              try clear p1
              try clear q1
              try clear hx1
              try clear p2
              try clear c3
              try clear c3b0
              try clear c4
              try clear c4b0
              try clear c5
              try clear c5b0
              try clear hcz7_0
              try clear hcz7_1
              try clear hcz7_2
              try clear hcz7_3
              try clear hcz7_4
              try clear hfz7_0
              try clear hfz7_1
              try clear hfz7_2
              try clear hfz7_3
              try clear hfz7_4
              try clear hx111_0
              try clear hx111_1
              try clear hx111_2
              try clear hx111_3
              try clear hx111_4
              try clear p111
              try clear p2
              try clear q111
              obtain ⟨x5_2, x20_2, rfl, HA, HK2, HO_5, BK112, HB⟩ := hrel
              cases gk with
              | zero => exact absurd HA.out (by simp [flow_To.l1])
              | succ k2 =>
                have H := HA.out
                clear HA
                simp only [flow_To.l1] at H
                by_cases c8 : x20_2 < (((rd_T39 l0 x12_1).f4).length : Int)
                · rw [if_pos c8] at H
                  have c8b0 : decide (x20_2 < (((rd_T39 l0 x12_1).f4).length : Int)) = true := decide_eq_true c8
                  clear c8
                  by_cases c9 : 0 ≤ x20_2
                  · rw [if_pos c9] at H
                    have c9b0 : decide (0 ≤ x20_2) = true := decide_eq_true c9
                    clear c9
                    by_cases c10 : x20_2 < (((rd_T39 l0 x12_1).f4).length : Int)
                    · rw [if_pos c10] at H
                      have c10b0 : decide (x20_2 < (((rd_T39 l0 x12_1).f4).length : Int)) = true := decide_eq_true c10
                      clear c10
                      by_cases c11 : (rd ((rd_T39 l0 x12_1).f4) x20_2) = a1
                      · rw [if_pos c11] at H
                        have c11b0 : ((rd ((rd_T39 l0 x12_1).f4) x20_2) == a1) = true := beq_iff_eq.mpr c11
                        have c11b1 : ((rd ((rd_T39 l0 x12_1).f4) x20_2) != a1) = false := bne_eq_false_iff_eq.mpr c11
                        clear c11
                        by_cases c12 : x5_2.length < 8796093022208
                        · rw [if_pos c12] at H
                          have LMc12 := Aside0.mk c12
                          clear c12
                          obtain ⟨y114, hy114⟩ : ∃ y_ : List (S69), y_ = (x5_2 ++ [(⟨x12_1, x20_2⟩ : S69)]) := ⟨_, rfl⟩
                          replace H : (flow_To.l1 k2 a1 y114 x12_1 l0 (l0.length : Int) x12_1 ((rd_T39 l0 x12_1).f4) (((rd_T39 l0 x12_1).f4).length : Int) (wrap64 (x20_2 + 1))) = some r := by first | (rw [hy114]; with_reducible exact H) | (have H2_ := (Option.bind_some _ _).symm.trans H; rw [hy114]; with_reducible exact H2_) | (have H2_ := (Option.bind_some _ _).symm.trans H; with_reducible exact H2_) | with_reducible exact H | (rw [hy114]; exact H) | exact H
                          have Ny114 := Aside0.mk hy114
                          clear hy114
                          have H' := Aside0.mk H
                          clear H
                          have p113 : 0 ≤ (x20_2 : Int) := of_decide_eq_true (by first | (with_reducible assumption) | assumption)
                          have q113 : x20_2 < (((rd_T39 l0 x12_1).f4).length : Int) := of_decide_eq_true (by first | (with_reducible assumption) | assumption)
                          obtain ⟨ad113, e113, hx113_0⟩ := Kd.at_int HR111_4.out x20_2 p113 q113
                          cases e113
                          replace hx113_0 := (HB.out.cell (World.block_lt_of_cell? w _ hx113_0)).trans hx113_0
                          replace p113 := eq_true p113
                          replace q113 := eq_true q113
                          go_wp2_with (first | ((with_reducible refine gate_builtin (b := .append) (xs := #[.tmp 28, .tmp 32]) rfl ?_); at_builtin; refine Kd.R_append k69 (w0 := w) w.heap.size rfl (.tmp 28) (.tmp 32) 67 69 (.agg #[(.int .i64 0), (.int .i64 0)]) 16 rfl Try.underlying67 info69 rfl (by decide) (by omega) u5 x5_2 (⟨x12_1, x20_2⟩ : S69) [.int .i64 x12_1, .int .i64 x20_2] (fun _ => True) (fun _ => False) rfl rfl ?aP (fun _ hk => hk.elim) ?aF ?aO ?aB ?aS ?aL ?_; (case aP => exact k69_mkM _ _ _ (⟨x12_1, x20_2⟩ : S69)); (case aB => exact (by repeat (first | (with_reducible first | exact HB.out | apply below_alloc | apply pw_below_drewN | apply below_drew1 | refine below_set ?_ GE112.out) | exact HB.out))); (case aF => exact (fun _ _ => trivial)); (case aO => exact (by (with_reducible repeat (first | apply Kd.R_alloc | apply Kd.R_drewN | apply Kd.R_drew)); exact HO_5.out)); (case aS => exact (below_size (by repeat (first | (with_reducible first | exact HB.out | apply below_alloc | apply pw_below_drewN | apply below_drew1 | refine below_set ?_ GE112.out) | exact HB.out)))); (case aL => have := LMc12.out; omega); intro v115 w13 ho hb hg hat; rw [← Ny114.out] at ho; have n0_ := Aside0.mk (blk_grown (g := gb112) (o := .cells #[.int .u8 ((rd_T39 l0 x12_1).f0), .int .u8 ((rd_T39 l0 x12_1).f1), .int .i64 ((rd_T39 l0 x12_1).f2), .int .i64 ((rd_T39 l0 x12_1).f3), .slice (some ad113) ((rd_T39 l0 x12_1).f4).length c111_4] 39 (0, 0)) (by (with_reducible repeat (first | refine blk_drewN ?_ _ | refine blk_drew ?_ | refine blk_alloc ?_ _)); exact BK112.out) hg (Kd.R_ne HO_5.out BK112.out (by decide))); have n1_ := Aside0.mk (hb); have n2_ := Aside0.mk (ho); clear BK112; clear HB; clear HO_5; have BK112 := n0_; have HB := n1_; have HO116 := n2_; clear n0_ n1_ n2_; clear ho hb hg hat))
                          go_roundg k2
                          case measure => have := HK1.out; have := HK2.out; omega
                          case rel => exact ⟨(y114), (wrap64 (x20_2 + 1)), (by first | rfl | (simp; done) | (simp [*]; done)), H', ⟨by have := HK1.out; have := HK2.out; omega⟩, ⟨by (with_reducible repeat (first | apply Kd.R_alloc | apply Kd.R_drewN | apply Kd.R_drew)); exact HO116.out⟩, ⟨by (with_reducible repeat (first | refine blk_drewN ?_ _ | refine blk_drew ?_ | refine blk_alloc ?_ _)); exact BK112.out⟩, ⟨by repeat (first | (with_reducible first | exact HB.out | apply below_alloc | apply pw_below_drewN | apply below_drew1 | refine below_set ?_ GE112.out) | exact HB.out)⟩⟩
                        · rw [if_neg c12] at H
                          exact absurd H (by simp)
                      · rw [if_neg c11] at H
                        have c11b0 : ((rd ((rd_T39 l0 x12_1).f4) x20_2) == a1) = false := beq_eq_false_iff_ne.mpr c11
                        have c11b1 : ((rd ((rd_T39 l0 x12_1).f4) x20_2) != a1) = true := bne_iff_ne.mpr c11
                        have H' := Aside0.mk H
                        clear H
                        have p113 : 0 ≤ (x20_2 : Int) := of_decide_eq_true (by first | (with_reducible assumption) | assumption)
                        have q113 : x20_2 < (((rd_T39 l0 x12_1).f4).length : Int) := of_decide_eq_true (by first | (with_reducible assumption) | assumption)
                        obtain ⟨ad113, e113, hx113_0⟩ := Kd.at_int HR111_4.out x20_2 p113 q113
                        cases e113
                        replace hx113_0 := (HB.out.cell (World.block_lt_of_cell? w _ hx113_0)).trans hx113_0
                        replace p113 := eq_true p113
                        replace q113 := eq_true q113
                        go_wp2
                        go_roundg k2
                        case measure => have := HK1.out; have := HK2.out; omega
                        case rel => exact ⟨(x5_2), (wrap64 (x20_2 + 1)), (by first | rfl | (simp; done) | (simp [*]; done)), H', ⟨by have := HK1.out; have := HK2.out; omega⟩, ⟨by (with_reducible repeat (first | apply Kd.R_alloc | apply Kd.R_drewN | apply Kd.R_drew)); exact HO_5.out⟩, ⟨by (with_reducible repeat (first | refine blk_drewN ?_ _ | refine blk_drew ?_ | refine blk_alloc ?_ _)); exact BK112.out⟩, ⟨by repeat (first | (with_reducible first | exact HB.out | apply below_alloc | apply pw_below_drewN | apply below_drew1 | refine below_set ?_ GE112.out) | exact HB.out)⟩⟩
                    · rw [if_neg c10] at H
                      exact absurd H (by simp)
                  · rw [if_neg c9] at H
                    exact absurd H (by simp)
                · rw [if_neg c8] at H
                  have c8b0 : decide (x20_2 < (((rd_T39 l0 x12_1).f4).length : Int)) = false := decide_eq_false c8
                  clear c8
                  have H' := Aside0.mk H
                  clear H
                  go_wp2
                  go_roundg k2
                  case measure => have := HK1.out; have := HK2.out; omega
                  case rel => exact ⟨(x5_2), (wrap64 (x12_1 + 1)), (by first | rfl | (simp; done) | (simp [*]; done)), H', ⟨by have := HK1.out; have := HK2.out; omega⟩, ⟨by (with_reducible repeat (first | apply Kd.R_alloc | apply Kd.R_drewN | apply Kd.R_drew)); exact HO_5.out⟩, ⟨by repeat (first | (with_reducible first | exact HB.out | apply below_alloc | apply pw_below_drewN | apply below_drew1 | refine below_set ?_ GE112.out) | exact HB.out)⟩⟩
          · rw [if_neg c5] at H
            exact absurd H (by simp)
        · rw [if_neg c4] at H
          exact absurd H (by simp)
      · rw [if_neg c3] at H
        have c3b0 : decide (x12_1 < (l0.length : Int)) = false := decide_eq_false c3
        clear c3
        obtain rfl := Option.some.inj H
        go_wp2
        go_ret
        exact ⟨_, by first | rfl | (simp [errW_none, errW_some] <;> rfl) | (simp [*, errW_none, errW_some] <;> rfl), by (with_reducible repeat (first | apply Kd.R_alloc | apply Kd.R_drewN | apply Kd.R_drew)); exact HO_5.out, by repeat (first | (with_reducible first | exact HB.out | apply below_alloc | apply pw_below_drewN | apply below_drew1) | exact HB.out)⟩
def check_places.l0 : Nat → List Int → Int → Int → Option (List Int)
  | 0, _, _, _ => none
  | k + 1, x2, x5, x6 => if x6 < x5 then (if x2.length < 17592186044416 then (check_places.l0 k (x2 ++ [x6]) x5 (wrap64 (x6 + 1))) else (none)) else (some x2)
def check_places.f (k : Nat) (l0 : List (S39)) : Option (List Int) := check_places.l0 k ([] : List Int) (l0.length : Int) 0
set_option maxHeartbeats 8000000 in
set_option maxRecDepth 100000 in
theorem check_places.calls (k : Nat) (A0 : Option Addr) (c0 : Nat) (l0 : List (S39)) (r : List Int) (w : World) (hr0 : Kd.C k39 w A0 l0.length l0) (hc0 : l0.length ≤ c0) (h : check_places.f k l0 = some r) :
    Calls Try.prog 47 #[.slice A0 l0.length c0] w fun e w' => ∃ v0_ : Value, e = .returned (v0_) ∧ Kd.R (Kd.int .i64) 3 w' w.heap.size (fun _ => True) v0_ r ∧ Below w.heap.size w w' := by
  have HR0 := Aside0.mk hr0
  have HC0 := Aside0.mk hc0
  clear hr0 hc0
  have HB := Aside0.mk (Below.refl w.heap.size w)
  have H : (check_places.l0 k ([] : List Int) (l0.length : Int) 0) = some r := h
  clear h
  have H' := Aside0.mk H
  clear H
  go_enter Try.func47, Try.ntmps47
  go_wp2
  go_loopg [2, 6] k (fun kq v2 v6 w' => ∃ (x2_1 : List Int) (x6_1 : Int), v6 = .int .i64 x6_1 ∧ Aside0 (check_places.l0 kq x2_1 (l0.length : Int) x6_1 = some r) ∧ Aside0 (kq ≤ k) ∧ Aside0 (Kd.R (Kd.int .i64) 3 w' w.heap.size (fun _ => True) v2 x2_1) ∧ Aside0 (Below w.heap.size w w'))
  case atStart => exact ⟨(([] : List Int)), (0), (by first | rfl | (simp; done) | (simp [*]; done)), H', ⟨Nat.le_refl _⟩, ⟨by first | exact Kd.R_nil _ _ _ _ _ | exact Kd.N_nil _ _ _ _ _ | exact Kd.V_nil _ _ _ _ _ | exact Kd.Q_nil _ _ _ _ _ | exact Kd.S_nil _ _ _ _ _⟩, ⟨by repeat (first | (with_reducible first | exact HB.out | apply below_alloc | apply pw_below_drewN | apply below_drew1) | exact HB.out)⟩⟩
  case round =>
    clear H'
    obtain ⟨x2_1, x6_1, rfl, HA, HK1, HO_2, HB⟩ := hrel
    cases gk with
    | zero => exact absurd HA.out (by simp [check_places.l0])
    | succ k1 =>
      have H := HA.out
      clear HA
      simp only [check_places.l0] at H
      by_cases c2 : x6_1 < (l0.length : Int)
      · rw [if_pos c2] at H
        have c2b0 : decide (x6_1 < (l0.length : Int)) = true := decide_eq_true c2
        clear c2
        by_cases c3 : x2_1.length < 17592186044416
        · rw [if_pos c3] at H
          have LMc3 := Aside0.mk c3
          clear c3
          obtain ⟨y117, hy117⟩ : ∃ y_ : List Int, y_ = (x2_1 ++ [x6_1]) := ⟨_, rfl⟩
          replace H : (check_places.l0 k1 y117 (l0.length : Int) (wrap64 (x6_1 + 1))) = some r := by first | (rw [hy117]; with_reducible exact H) | (have H2_ := (Option.bind_some _ _).symm.trans H; rw [hy117]; with_reducible exact H2_) | (have H2_ := (Option.bind_some _ _).symm.trans H; with_reducible exact H2_) | with_reducible exact H | (rw [hy117]; exact H) | exact H
          have Ny117 := Aside0.mk hy117
          clear hy117
          have H' := Aside0.mk H
          clear H
          go_wp2_with (first | ((with_reducible refine gate_builtin (b := .append) (xs := #[.tmp 9, .tmp 11]) rfl ?_); at_builtin; refine Kd.R_append (Kd.int .i64) (w0 := w) w.heap.size rfl (.tmp 9) (.tmp 11) 33 3 (.int .i64 0) 8 rfl Try.underlying33 info3 rfl (by decide) (by omega) u2 x2_1 x6_1 [.int .i64 x6_1] (fun _ => True) (fun _ => False) rfl rfl ?aP (fun _ hk => hk.elim) ?aF ?aO ?aB ?aS ?aL ?_; (case aP => exact rfl); (case aB => exact (by repeat (first | (with_reducible first | exact HB.out | apply below_alloc | apply pw_below_drewN | apply below_drew1) | exact HB.out))); (case aF => exact (fun _ _ => trivial)); (case aO => exact (by (with_reducible repeat (first | apply Kd.R_alloc | apply Kd.R_drewN | apply Kd.R_drew)); exact HO_2.out)); (case aS => exact (below_size (by repeat (first | (with_reducible first | exact HB.out | apply below_alloc | apply pw_below_drewN | apply below_drew1) | exact HB.out)))); (case aL => have := LMc3.out; omega); intro v118 w4 ho hb hg hat; rw [← Ny117.out] at ho; have n0_ := Aside0.mk (hb); have n1_ := Aside0.mk (ho); clear HB; clear HO_2; have HB := n0_; have HO119 := n1_; clear n0_ n1_; clear ho hb hg hat))
          go_roundg k1
          case measure => have := HK1.out; omega
          case rel => exact ⟨(y117), (wrap64 (x6_1 + 1)), (by first | rfl | (simp; done) | (simp [*]; done)), H', ⟨by have := HK1.out; omega⟩, ⟨by (with_reducible repeat (first | apply Kd.R_alloc | apply Kd.R_drewN | apply Kd.R_drew)); exact HO119.out⟩, ⟨by repeat (first | (with_reducible first | exact HB.out | apply below_alloc | apply pw_below_drewN | apply below_drew1) | exact HB.out)⟩⟩
        · rw [if_neg c3] at H
          exact absurd H (by simp)
      · rw [if_neg c2] at H
        have c2b0 : decide (x6_1 < (l0.length : Int)) = false := decide_eq_false c2
        clear c2
        obtain rfl := Option.some.inj H
        go_wp2
        go_ret
        exact ⟨_, by first | rfl | (simp [errW_none, errW_some] <;> rfl) | (simp [*, errW_none, errW_some] <;> rfl), by (with_reducible repeat (first | apply Kd.R_alloc | apply Kd.R_drewN | apply Kd.R_drew)); exact HO_2.out, by repeat (first | (with_reducible first | exact HB.out | apply below_alloc | apply pw_below_drewN | apply below_drew1) | exact HB.out)⟩
def tailracekit_Race.f  : Option ((List (S39))) := some (([(⟨1, 0, 0, 0, ([] : List Int)⟩ : S39), (⟨2, 0, 1, 0, (([0] : List Int))⟩ : S39), (⟨7, 0, 0, 1, (([1] : List Int))⟩ : S39), (⟨4, 0, 0, 1, (([2, 6] : List Int))⟩ : S39), (⟨2, 0, 2, 1, (([3] : List Int))⟩ : S39), (⟨3, 0, 9, 1, (([4] : List Int))⟩ : S39), (⟨9, 0, 3, 1, (([5] : List Int))⟩ : S39), (⟨8, 0, 0, 0, (([4] : List Int))⟩ : S39), (⟨5, 0, 0, 0, (([7] : List Int))⟩ : S39), (⟨10, 0, 0, 0, (([8] : List Int))⟩ : S39)] : List (S39)))
set_option maxHeartbeats 8000000 in
set_option maxRecDepth 100000 in
theorem tailracekit_Race.calls  (r : List (S39)) (w : World) (h : tailracekit_Race.f  = some r) :
    Calls Try.prog 20 #[] w fun e w' => ∃ v0_ : Value, e = .returned (v0_) ∧ Kd.N k39 39 w' w.heap.size (fun k_ => (w.heap.size ≤ k_)) v0_ r ∧ Below w.heap.size w w' := by
  have hu39 := Try.underlying39
  have HB := Aside0.mk (Below.refl w.heap.size w)
  have H : (some (([(⟨1, 0, 0, 0, ([] : List Int)⟩ : S39), (⟨2, 0, 1, 0, (([0] : List Int))⟩ : S39), (⟨7, 0, 0, 1, (([1] : List Int))⟩ : S39), (⟨4, 0, 0, 1, (([2, 6] : List Int))⟩ : S39), (⟨2, 0, 2, 1, (([3] : List Int))⟩ : S39), (⟨3, 0, 9, 1, (([4] : List Int))⟩ : S39), (⟨9, 0, 3, 1, (([5] : List Int))⟩ : S39), (⟨8, 0, 0, 0, (([4] : List Int))⟩ : S39), (⟨5, 0, 0, 0, (([7] : List Int))⟩ : S39), (⟨10, 0, 0, 0, (([8] : List Int))⟩ : S39)] : List (S39)))) = some r := h
  clear h
  obtain ⟨y123, hy123⟩ : ∃ y_ : List Int, y_ = (([0] : List Int)) := ⟨_, rfl⟩
  replace H : (some (([(⟨1, 0, 0, 0, ([] : List Int)⟩ : S39), (⟨2, 0, 1, 0, y123⟩ : S39), (⟨7, 0, 0, 1, (([1] : List Int))⟩ : S39), (⟨4, 0, 0, 1, (([2, 6] : List Int))⟩ : S39), (⟨2, 0, 2, 1, (([3] : List Int))⟩ : S39), (⟨3, 0, 9, 1, (([4] : List Int))⟩ : S39), (⟨9, 0, 3, 1, (([5] : List Int))⟩ : S39), (⟨8, 0, 0, 0, (([4] : List Int))⟩ : S39), (⟨5, 0, 0, 0, (([7] : List Int))⟩ : S39), (⟨10, 0, 0, 0, (([8] : List Int))⟩ : S39)] : List (S39)))) = some r := by first | (rw [hy123]; with_reducible exact H) | (have H2_ := (Option.bind_some _ _).symm.trans H; rw [hy123]; with_reducible exact H2_) | (have H2_ := (Option.bind_some _ _).symm.trans H; with_reducible exact H2_) | with_reducible exact H | (rw [hy123]; exact H) | exact H
  have Ny123 := Aside0.mk hy123
  clear hy123
  obtain ⟨y126, hy126⟩ : ∃ y_ : List Int, y_ = (([1] : List Int)) := ⟨_, rfl⟩
  replace H : (some (([(⟨1, 0, 0, 0, ([] : List Int)⟩ : S39), (⟨2, 0, 1, 0, y123⟩ : S39), (⟨7, 0, 0, 1, y126⟩ : S39), (⟨4, 0, 0, 1, (([2, 6] : List Int))⟩ : S39), (⟨2, 0, 2, 1, (([3] : List Int))⟩ : S39), (⟨3, 0, 9, 1, (([4] : List Int))⟩ : S39), (⟨9, 0, 3, 1, (([5] : List Int))⟩ : S39), (⟨8, 0, 0, 0, (([4] : List Int))⟩ : S39), (⟨5, 0, 0, 0, (([7] : List Int))⟩ : S39), (⟨10, 0, 0, 0, (([8] : List Int))⟩ : S39)] : List (S39)))) = some r := by first | (rw [hy126]; with_reducible exact H) | (have H2_ := (Option.bind_some _ _).symm.trans H; rw [hy126]; with_reducible exact H2_) | (have H2_ := (Option.bind_some _ _).symm.trans H; with_reducible exact H2_) | with_reducible exact H | (rw [hy126]; exact H) | exact H
  have Ny126 := Aside0.mk hy126
  clear hy126
  obtain ⟨y129, hy129⟩ : ∃ y_ : List Int, y_ = (([2, 6] : List Int)) := ⟨_, rfl⟩
  replace H : (some (([(⟨1, 0, 0, 0, ([] : List Int)⟩ : S39), (⟨2, 0, 1, 0, y123⟩ : S39), (⟨7, 0, 0, 1, y126⟩ : S39), (⟨4, 0, 0, 1, y129⟩ : S39), (⟨2, 0, 2, 1, (([3] : List Int))⟩ : S39), (⟨3, 0, 9, 1, (([4] : List Int))⟩ : S39), (⟨9, 0, 3, 1, (([5] : List Int))⟩ : S39), (⟨8, 0, 0, 0, (([4] : List Int))⟩ : S39), (⟨5, 0, 0, 0, (([7] : List Int))⟩ : S39), (⟨10, 0, 0, 0, (([8] : List Int))⟩ : S39)] : List (S39)))) = some r := by first | (rw [hy129]; with_reducible exact H) | (have H2_ := (Option.bind_some _ _).symm.trans H; rw [hy129]; with_reducible exact H2_) | (have H2_ := (Option.bind_some _ _).symm.trans H; with_reducible exact H2_) | with_reducible exact H | (rw [hy129]; exact H) | exact H
  have Ny129 := Aside0.mk hy129
  clear hy129
  obtain ⟨y132, hy132⟩ : ∃ y_ : List Int, y_ = (([3] : List Int)) := ⟨_, rfl⟩
  replace H : (some (([(⟨1, 0, 0, 0, ([] : List Int)⟩ : S39), (⟨2, 0, 1, 0, y123⟩ : S39), (⟨7, 0, 0, 1, y126⟩ : S39), (⟨4, 0, 0, 1, y129⟩ : S39), (⟨2, 0, 2, 1, y132⟩ : S39), (⟨3, 0, 9, 1, (([4] : List Int))⟩ : S39), (⟨9, 0, 3, 1, (([5] : List Int))⟩ : S39), (⟨8, 0, 0, 0, (([4] : List Int))⟩ : S39), (⟨5, 0, 0, 0, (([7] : List Int))⟩ : S39), (⟨10, 0, 0, 0, (([8] : List Int))⟩ : S39)] : List (S39)))) = some r := by first | (rw [hy132]; with_reducible exact H) | (have H2_ := (Option.bind_some _ _).symm.trans H; rw [hy132]; with_reducible exact H2_) | (have H2_ := (Option.bind_some _ _).symm.trans H; with_reducible exact H2_) | with_reducible exact H | (rw [hy132]; exact H) | exact H
  have Ny132 := Aside0.mk hy132
  clear hy132
  obtain ⟨y135, hy135⟩ : ∃ y_ : List Int, y_ = (([4] : List Int)) := ⟨_, rfl⟩
  replace H : (some (([(⟨1, 0, 0, 0, ([] : List Int)⟩ : S39), (⟨2, 0, 1, 0, y123⟩ : S39), (⟨7, 0, 0, 1, y126⟩ : S39), (⟨4, 0, 0, 1, y129⟩ : S39), (⟨2, 0, 2, 1, y132⟩ : S39), (⟨3, 0, 9, 1, y135⟩ : S39), (⟨9, 0, 3, 1, (([5] : List Int))⟩ : S39), (⟨8, 0, 0, 0, (([4] : List Int))⟩ : S39), (⟨5, 0, 0, 0, (([7] : List Int))⟩ : S39), (⟨10, 0, 0, 0, (([8] : List Int))⟩ : S39)] : List (S39)))) = some r := by first | (rw [hy135]; with_reducible exact H) | (have H2_ := (Option.bind_some _ _).symm.trans H; rw [hy135]; with_reducible exact H2_) | (have H2_ := (Option.bind_some _ _).symm.trans H; with_reducible exact H2_) | with_reducible exact H | (rw [hy135]; exact H) | exact H
  have Ny135 := Aside0.mk hy135
  clear hy135
  obtain ⟨y138, hy138⟩ : ∃ y_ : List Int, y_ = (([5] : List Int)) := ⟨_, rfl⟩
  replace H : (some (([(⟨1, 0, 0, 0, ([] : List Int)⟩ : S39), (⟨2, 0, 1, 0, y123⟩ : S39), (⟨7, 0, 0, 1, y126⟩ : S39), (⟨4, 0, 0, 1, y129⟩ : S39), (⟨2, 0, 2, 1, y132⟩ : S39), (⟨3, 0, 9, 1, y135⟩ : S39), (⟨9, 0, 3, 1, y138⟩ : S39), (⟨8, 0, 0, 0, (([4] : List Int))⟩ : S39), (⟨5, 0, 0, 0, (([7] : List Int))⟩ : S39), (⟨10, 0, 0, 0, (([8] : List Int))⟩ : S39)] : List (S39)))) = some r := by first | (rw [hy138]; with_reducible exact H) | (have H2_ := (Option.bind_some _ _).symm.trans H; rw [hy138]; with_reducible exact H2_) | (have H2_ := (Option.bind_some _ _).symm.trans H; with_reducible exact H2_) | with_reducible exact H | (rw [hy138]; exact H) | exact H
  have Ny138 := Aside0.mk hy138
  clear hy138
  obtain ⟨y141, hy141⟩ : ∃ y_ : List Int, y_ = (([4] : List Int)) := ⟨_, rfl⟩
  replace H : (some (([(⟨1, 0, 0, 0, ([] : List Int)⟩ : S39), (⟨2, 0, 1, 0, y123⟩ : S39), (⟨7, 0, 0, 1, y126⟩ : S39), (⟨4, 0, 0, 1, y129⟩ : S39), (⟨2, 0, 2, 1, y132⟩ : S39), (⟨3, 0, 9, 1, y135⟩ : S39), (⟨9, 0, 3, 1, y138⟩ : S39), (⟨8, 0, 0, 0, y141⟩ : S39), (⟨5, 0, 0, 0, (([7] : List Int))⟩ : S39), (⟨10, 0, 0, 0, (([8] : List Int))⟩ : S39)] : List (S39)))) = some r := by first | (rw [hy141]; with_reducible exact H) | (have H2_ := (Option.bind_some _ _).symm.trans H; rw [hy141]; with_reducible exact H2_) | (have H2_ := (Option.bind_some _ _).symm.trans H; with_reducible exact H2_) | with_reducible exact H | (rw [hy141]; exact H) | exact H
  have Ny141 := Aside0.mk hy141
  clear hy141
  obtain ⟨y144, hy144⟩ : ∃ y_ : List Int, y_ = (([7] : List Int)) := ⟨_, rfl⟩
  replace H : (some (([(⟨1, 0, 0, 0, ([] : List Int)⟩ : S39), (⟨2, 0, 1, 0, y123⟩ : S39), (⟨7, 0, 0, 1, y126⟩ : S39), (⟨4, 0, 0, 1, y129⟩ : S39), (⟨2, 0, 2, 1, y132⟩ : S39), (⟨3, 0, 9, 1, y135⟩ : S39), (⟨9, 0, 3, 1, y138⟩ : S39), (⟨8, 0, 0, 0, y141⟩ : S39), (⟨5, 0, 0, 0, y144⟩ : S39), (⟨10, 0, 0, 0, (([8] : List Int))⟩ : S39)] : List (S39)))) = some r := by first | (rw [hy144]; with_reducible exact H) | (have H2_ := (Option.bind_some _ _).symm.trans H; rw [hy144]; with_reducible exact H2_) | (have H2_ := (Option.bind_some _ _).symm.trans H; with_reducible exact H2_) | with_reducible exact H | (rw [hy144]; exact H) | exact H
  have Ny144 := Aside0.mk hy144
  clear hy144
  obtain ⟨y147, hy147⟩ : ∃ y_ : List Int, y_ = (([8] : List Int)) := ⟨_, rfl⟩
  replace H : (some (([(⟨1, 0, 0, 0, ([] : List Int)⟩ : S39), (⟨2, 0, 1, 0, y123⟩ : S39), (⟨7, 0, 0, 1, y126⟩ : S39), (⟨4, 0, 0, 1, y129⟩ : S39), (⟨2, 0, 2, 1, y132⟩ : S39), (⟨3, 0, 9, 1, y135⟩ : S39), (⟨9, 0, 3, 1, y138⟩ : S39), (⟨8, 0, 0, 0, y141⟩ : S39), (⟨5, 0, 0, 0, y144⟩ : S39), (⟨10, 0, 0, 0, y147⟩ : S39)] : List (S39)))) = some r := by first | (rw [hy147]; with_reducible exact H) | (have H2_ := (Option.bind_some _ _).symm.trans H; rw [hy147]; with_reducible exact H2_) | (have H2_ := (Option.bind_some _ _).symm.trans H; with_reducible exact H2_) | with_reducible exact H | (rw [hy147]; exact H) | exact H
  have Ny147 := Aside0.mk hy147
  clear hy147
  obtain ⟨y150, hy150⟩ : ∃ y_ : List (S39), y_ = (([(⟨1, 0, 0, 0, ([] : List Int)⟩ : S39), (⟨2, 0, 1, 0, y123⟩ : S39), (⟨7, 0, 0, 1, y126⟩ : S39), (⟨4, 0, 0, 1, y129⟩ : S39), (⟨2, 0, 2, 1, y132⟩ : S39), (⟨3, 0, 9, 1, y135⟩ : S39), (⟨9, 0, 3, 1, y138⟩ : S39), (⟨8, 0, 0, 0, y141⟩ : S39), (⟨5, 0, 0, 0, y144⟩ : S39), (⟨10, 0, 0, 0, y147⟩ : S39)] : List (S39))) := ⟨_, rfl⟩
  replace H : (some y150) = some r := by first | (rw [hy150]; with_reducible exact H) | (have H2_ := (Option.bind_some _ _).symm.trans H; rw [hy150]; with_reducible exact H2_) | (have H2_ := (Option.bind_some _ _).symm.trans H; with_reducible exact H2_) | with_reducible exact H | (rw [hy150]; exact H) | exact H
  have Ny150 := Aside0.mk hy150
  clear hy150
  obtain rfl := Option.some.inj H
  go_enter Try.func20, Try.ntmps20
  go_wp2_with (first | ((with_reducible refine gate_dst (N := 2) rfl ?_); refine Kd.R_lit (Kd.int .i64) _ 3 ?hg (N := 2) ?hd (xs := ([0] : List Int)) (inner := [.int .i64 0]) (ok := fun _ => True) (okp := fun _ => True) ?hr ?hp (fun _ hk => hk) trivial (Below.refl _ _) (Nat.le_refl _) (by simp) ?_; (case hd => rfl); (case hg => rfl); (case hr => first | (go_simp; done) | (go_simp; rfl)); (case hp => exact (Reps.one (show Kd.M (Kd.int .i64) _ _ _ 0 [.int .i64 0] from rfl) (Reps.none _ _))); intro v124 w1 ho2 hb hg_ hnew_; clear hg_ hnew_; (first | rw [← Ny123.out] at ho2 | (simp only [Int.reduceToNat] at ho2; rw [← Ny123.out] at ho2)); have n0_ := Aside0.mk (Kd.R_lower (Kd.R_newM (M := fun k_ => (w.heap.size ≤ k_)) ho2 (below_size (by repeat (first | (with_reducible first | exact HB.out | apply below_alloc | apply pw_below_drewN | apply below_drew1) | exact HB.out))) (fun k_ h_ => h_)) (below_size (by repeat (first | (with_reducible first | exact HB.out | apply below_alloc | apply pw_below_drewN | apply below_drew1) | exact HB.out)))); have n1_ := Aside0.mk (below_step (by repeat (first | (with_reducible first | exact HB.out | apply below_alloc | apply pw_below_drewN | apply below_drew1) | exact HB.out)) hb); clear HB; have HO125 := n0_; have HB := n1_; clear n0_ n1_; clear hb ho2; obtain ⟨Ao3, co3, eo3⟩ := Kd.R_slice HO125.out; subst eo3) | ((with_reducible refine gate_dst (N := 4) rfl ?_); refine Kd.R_lit (Kd.int .i64) _ 3 ?hg (N := 4) ?hd (xs := ([1] : List Int)) (inner := [.int .i64 1]) (ok := fun _ => True) (okp := fun _ => True) ?hr ?hp (fun _ hk => hk) trivial (Below.refl _ _) (Nat.le_refl _) (by simp) ?_; (case hd => rfl); (case hg => rfl); (case hr => first | (go_simp; done) | (go_simp; rfl)); (case hp => exact (Reps.one (show Kd.M (Kd.int .i64) _ _ _ 1 [.int .i64 1] from rfl) (Reps.none _ _))); intro v127 w4 ho5 hb hg_ hnew_; clear hg_ hnew_; (first | rw [← Ny126.out] at ho5 | (simp only [Int.reduceToNat] at ho5; rw [← Ny126.out] at ho5)); have n0_ := Aside0.mk (Kd.R_elder' (by (with_reducible repeat (first | apply Kd.R_alloc | apply Kd.R_drewN | apply Kd.R_drew)); exact HO125.out) (Kd.R_base ho5) hb); have n1_ := Aside0.mk (Kd.R_lower (Kd.R_new' (Kd.R_newM (M := fun k_ => (w.heap.size ≤ k_)) ho5 (below_size (by repeat (first | (with_reducible first | exact HB.out | apply below_alloc | apply pw_below_drewN | apply below_drew1) | exact HB.out))) (fun k_ h_ => h_)) (Kd.R_lt (by (with_reducible repeat (first | apply Kd.R_alloc | apply Kd.R_drewN | apply Kd.R_drew)); exact HO125.out))) (below_size (by repeat (first | (with_reducible first | exact HB.out | apply below_alloc | apply pw_below_drewN | apply below_drew1) | exact HB.out)))); have n2_ := Aside0.mk (below_step (by repeat (first | (with_reducible first | exact HB.out | apply below_alloc | apply pw_below_drewN | apply below_drew1) | exact HB.out)) hb); clear HO125; clear HB; have HO125 := n0_; have HO128 := n1_; have HB := n2_; clear n0_ n1_ n2_; clear hb ho5; obtain ⟨Ao6, co6, eo6⟩ := Kd.R_slice HO128.out; subst eo6) | ((with_reducible refine gate_dst (N := 6) rfl ?_); refine Kd.R_lit (Kd.int .i64) _ 3 ?hg (N := 6) ?hd (xs := ([2, 6] : List Int)) (inner := [.int .i64 2, .int .i64 6]) (ok := fun _ => True) (okp := fun _ => True) ?hr ?hp (fun _ hk => hk) trivial (Below.refl _ _) (Nat.le_refl _) (by simp) ?_; (case hd => rfl); (case hg => rfl); (case hr => first | (go_simp; done) | (go_simp; rfl)); (case hp => exact (Reps.one (show Kd.M (Kd.int .i64) _ _ _ 2 [.int .i64 2] from rfl) (Reps.one (show Kd.M (Kd.int .i64) _ _ _ 6 [.int .i64 6] from rfl) (Reps.none _ _)))); intro v130 w7 ho8 hb hg_ hnew_; clear hg_ hnew_; (first | rw [← Ny129.out] at ho8 | (simp only [Int.reduceToNat] at ho8; rw [← Ny129.out] at ho8)); have n0_ := Aside0.mk (Kd.R_elder' (by (with_reducible repeat (first | apply Kd.R_alloc | apply Kd.R_drewN | apply Kd.R_drew)); exact HO125.out) (Kd.R_base ho8) hb); have n1_ := Aside0.mk (Kd.R_elder' (by (with_reducible repeat (first | apply Kd.R_alloc | apply Kd.R_drewN | apply Kd.R_drew)); exact HO128.out) (Kd.R_base ho8) hb); have n2_ := Aside0.mk (Kd.R_lower (Kd.R_new' (Kd.R_new' (Kd.R_newM (M := fun k_ => (w.heap.size ≤ k_)) ho8 (below_size (by repeat (first | (with_reducible first | exact HB.out | apply below_alloc | apply pw_below_drewN | apply below_drew1) | exact HB.out))) (fun k_ h_ => h_)) (Kd.R_lt (by (with_reducible repeat (first | apply Kd.R_alloc | apply Kd.R_drewN | apply Kd.R_drew)); exact HO125.out))) (Kd.R_lt (by (with_reducible repeat (first | apply Kd.R_alloc | apply Kd.R_drewN | apply Kd.R_drew)); exact HO128.out))) (below_size (by repeat (first | (with_reducible first | exact HB.out | apply below_alloc | apply pw_below_drewN | apply below_drew1) | exact HB.out)))); have n3_ := Aside0.mk (below_step (by repeat (first | (with_reducible first | exact HB.out | apply below_alloc | apply pw_below_drewN | apply below_drew1) | exact HB.out)) hb); clear HO125; clear HO128; clear HB; have HO125 := n0_; have HO128 := n1_; have HO131 := n2_; have HB := n3_; clear n0_ n1_ n2_ n3_; clear hb ho8; obtain ⟨Ao9, co9, eo9⟩ := Kd.R_slice HO131.out; subst eo9) | ((with_reducible refine gate_dst (N := 8) rfl ?_); refine Kd.R_lit (Kd.int .i64) _ 3 ?hg (N := 8) ?hd (xs := ([3] : List Int)) (inner := [.int .i64 3]) (ok := fun _ => True) (okp := fun _ => True) ?hr ?hp (fun _ hk => hk) trivial (Below.refl _ _) (Nat.le_refl _) (by simp) ?_; (case hd => rfl); (case hg => rfl); (case hr => first | (go_simp; done) | (go_simp; rfl)); (case hp => exact (Reps.one (show Kd.M (Kd.int .i64) _ _ _ 3 [.int .i64 3] from rfl) (Reps.none _ _))); intro v133 w10 ho11 hb hg_ hnew_; clear hg_ hnew_; (first | rw [← Ny132.out] at ho11 | (simp only [Int.reduceToNat] at ho11; rw [← Ny132.out] at ho11)); have n0_ := Aside0.mk (Kd.R_elder' (by (with_reducible repeat (first | apply Kd.R_alloc | apply Kd.R_drewN | apply Kd.R_drew)); exact HO125.out) (Kd.R_base ho11) hb); have n1_ := Aside0.mk (Kd.R_elder' (by (with_reducible repeat (first | apply Kd.R_alloc | apply Kd.R_drewN | apply Kd.R_drew)); exact HO128.out) (Kd.R_base ho11) hb); have n2_ := Aside0.mk (Kd.R_elder' (by (with_reducible repeat (first | apply Kd.R_alloc | apply Kd.R_drewN | apply Kd.R_drew)); exact HO131.out) (Kd.R_base ho11) hb); have n3_ := Aside0.mk (Kd.R_lower (Kd.R_new' (Kd.R_new' (Kd.R_new' (Kd.R_newM (M := fun k_ => (w.heap.size ≤ k_)) ho11 (below_size (by repeat (first | (with_reducible first | exact HB.out | apply below_alloc | apply pw_below_drewN | apply below_drew1) | exact HB.out))) (fun k_ h_ => h_)) (Kd.R_lt (by (with_reducible repeat (first | apply Kd.R_alloc | apply Kd.R_drewN | apply Kd.R_drew)); exact HO125.out))) (Kd.R_lt (by (with_reducible repeat (first | apply Kd.R_alloc | apply Kd.R_drewN | apply Kd.R_drew)); exact HO128.out))) (Kd.R_lt (by (with_reducible repeat (first | apply Kd.R_alloc | apply Kd.R_drewN | apply Kd.R_drew)); exact HO131.out))) (below_size (by repeat (first | (with_reducible first | exact HB.out | apply below_alloc | apply pw_below_drewN | apply below_drew1) | exact HB.out)))); have n4_ := Aside0.mk (below_step (by repeat (first | (with_reducible first | exact HB.out | apply below_alloc | apply pw_below_drewN | apply below_drew1) | exact HB.out)) hb); clear HO125; clear HO128; clear HO131; clear HB; have HO125 := n0_; have HO128 := n1_; have HO131 := n2_; have HO134 := n3_; have HB := n4_; clear n0_ n1_ n2_ n3_ n4_; clear hb ho11; obtain ⟨Ao12, co12, eo12⟩ := Kd.R_slice HO134.out; subst eo12) | ((with_reducible refine gate_dst (N := 10) rfl ?_); refine Kd.R_lit (Kd.int .i64) _ 3 ?hg (N := 10) ?hd (xs := ([4] : List Int)) (inner := [.int .i64 4]) (ok := fun _ => True) (okp := fun _ => True) ?hr ?hp (fun _ hk => hk) trivial (Below.refl _ _) (Nat.le_refl _) (by simp) ?_; (case hd => rfl); (case hg => rfl); (case hr => first | (go_simp; done) | (go_simp; rfl)); (case hp => exact (Reps.one (show Kd.M (Kd.int .i64) _ _ _ 4 [.int .i64 4] from rfl) (Reps.none _ _))); intro v136 w13 ho14 hb hg_ hnew_; clear hg_ hnew_; (first | rw [← Ny135.out] at ho14 | (simp only [Int.reduceToNat] at ho14; rw [← Ny135.out] at ho14)); have n0_ := Aside0.mk (Kd.R_elder' (by (with_reducible repeat (first | apply Kd.R_alloc | apply Kd.R_drewN | apply Kd.R_drew)); exact HO125.out) (Kd.R_base ho14) hb); have n1_ := Aside0.mk (Kd.R_elder' (by (with_reducible repeat (first | apply Kd.R_alloc | apply Kd.R_drewN | apply Kd.R_drew)); exact HO128.out) (Kd.R_base ho14) hb); have n2_ := Aside0.mk (Kd.R_elder' (by (with_reducible repeat (first | apply Kd.R_alloc | apply Kd.R_drewN | apply Kd.R_drew)); exact HO131.out) (Kd.R_base ho14) hb); have n3_ := Aside0.mk (Kd.R_elder' (by (with_reducible repeat (first | apply Kd.R_alloc | apply Kd.R_drewN | apply Kd.R_drew)); exact HO134.out) (Kd.R_base ho14) hb); have n4_ := Aside0.mk (Kd.R_lower (Kd.R_new' (Kd.R_new' (Kd.R_new' (Kd.R_new' (Kd.R_newM (M := fun k_ => (w.heap.size ≤ k_)) ho14 (below_size (by repeat (first | (with_reducible first | exact HB.out | apply below_alloc | apply pw_below_drewN | apply below_drew1) | exact HB.out))) (fun k_ h_ => h_)) (Kd.R_lt (by (with_reducible repeat (first | apply Kd.R_alloc | apply Kd.R_drewN | apply Kd.R_drew)); exact HO125.out))) (Kd.R_lt (by (with_reducible repeat (first | apply Kd.R_alloc | apply Kd.R_drewN | apply Kd.R_drew)); exact HO128.out))) (Kd.R_lt (by (with_reducible repeat (first | apply Kd.R_alloc | apply Kd.R_drewN | apply Kd.R_drew)); exact HO131.out))) (Kd.R_lt (by (with_reducible repeat (first | apply Kd.R_alloc | apply Kd.R_drewN | apply Kd.R_drew)); exact HO134.out))) (below_size (by repeat (first | (with_reducible first | exact HB.out | apply below_alloc | apply pw_below_drewN | apply below_drew1) | exact HB.out)))); have n5_ := Aside0.mk (below_step (by repeat (first | (with_reducible first | exact HB.out | apply below_alloc | apply pw_below_drewN | apply below_drew1) | exact HB.out)) hb); clear HO125; clear HO128; clear HO131; clear HO134; clear HB; have HO125 := n0_; have HO128 := n1_; have HO131 := n2_; have HO134 := n3_; have HO137 := n4_; have HB := n5_; clear n0_ n1_ n2_ n3_ n4_ n5_; clear hb ho14; obtain ⟨Ao15, co15, eo15⟩ := Kd.R_slice HO137.out; subst eo15) | ((with_reducible refine gate_dst (N := 12) rfl ?_); refine Kd.R_lit (Kd.int .i64) _ 3 ?hg (N := 12) ?hd (xs := ([5] : List Int)) (inner := [.int .i64 5]) (ok := fun _ => True) (okp := fun _ => True) ?hr ?hp (fun _ hk => hk) trivial (Below.refl _ _) (Nat.le_refl _) (by simp) ?_; (case hd => rfl); (case hg => rfl); (case hr => first | (go_simp; done) | (go_simp; rfl)); (case hp => exact (Reps.one (show Kd.M (Kd.int .i64) _ _ _ 5 [.int .i64 5] from rfl) (Reps.none _ _))); intro v139 w16 ho17 hb hg_ hnew_; clear hg_ hnew_; (first | rw [← Ny138.out] at ho17 | (simp only [Int.reduceToNat] at ho17; rw [← Ny138.out] at ho17)); have n0_ := Aside0.mk (Kd.R_elder' (by (with_reducible repeat (first | apply Kd.R_alloc | apply Kd.R_drewN | apply Kd.R_drew)); exact HO125.out) (Kd.R_base ho17) hb); have n1_ := Aside0.mk (Kd.R_elder' (by (with_reducible repeat (first | apply Kd.R_alloc | apply Kd.R_drewN | apply Kd.R_drew)); exact HO128.out) (Kd.R_base ho17) hb); have n2_ := Aside0.mk (Kd.R_elder' (by (with_reducible repeat (first | apply Kd.R_alloc | apply Kd.R_drewN | apply Kd.R_drew)); exact HO131.out) (Kd.R_base ho17) hb); have n3_ := Aside0.mk (Kd.R_elder' (by (with_reducible repeat (first | apply Kd.R_alloc | apply Kd.R_drewN | apply Kd.R_drew)); exact HO134.out) (Kd.R_base ho17) hb); have n4_ := Aside0.mk (Kd.R_elder' (by (with_reducible repeat (first | apply Kd.R_alloc | apply Kd.R_drewN | apply Kd.R_drew)); exact HO137.out) (Kd.R_base ho17) hb); have n5_ := Aside0.mk (Kd.R_lower (Kd.R_new' (Kd.R_new' (Kd.R_new' (Kd.R_new' (Kd.R_new' (Kd.R_newM (M := fun k_ => (w.heap.size ≤ k_)) ho17 (below_size (by repeat (first | (with_reducible first | exact HB.out | apply below_alloc | apply pw_below_drewN | apply below_drew1) | exact HB.out))) (fun k_ h_ => h_)) (Kd.R_lt (by (with_reducible repeat (first | apply Kd.R_alloc | apply Kd.R_drewN | apply Kd.R_drew)); exact HO125.out))) (Kd.R_lt (by (with_reducible repeat (first | apply Kd.R_alloc | apply Kd.R_drewN | apply Kd.R_drew)); exact HO128.out))) (Kd.R_lt (by (with_reducible repeat (first | apply Kd.R_alloc | apply Kd.R_drewN | apply Kd.R_drew)); exact HO131.out))) (Kd.R_lt (by (with_reducible repeat (first | apply Kd.R_alloc | apply Kd.R_drewN | apply Kd.R_drew)); exact HO134.out))) (Kd.R_lt (by (with_reducible repeat (first | apply Kd.R_alloc | apply Kd.R_drewN | apply Kd.R_drew)); exact HO137.out))) (below_size (by repeat (first | (with_reducible first | exact HB.out | apply below_alloc | apply pw_below_drewN | apply below_drew1) | exact HB.out)))); have n6_ := Aside0.mk (below_step (by repeat (first | (with_reducible first | exact HB.out | apply below_alloc | apply pw_below_drewN | apply below_drew1) | exact HB.out)) hb); clear HO125; clear HO128; clear HO131; clear HO134; clear HO137; clear HB; have HO125 := n0_; have HO128 := n1_; have HO131 := n2_; have HO134 := n3_; have HO137 := n4_; have HO140 := n5_; have HB := n6_; clear n0_ n1_ n2_ n3_ n4_ n5_ n6_; clear hb ho17; obtain ⟨Ao18, co18, eo18⟩ := Kd.R_slice HO140.out; subst eo18) | ((with_reducible refine gate_dst (N := 14) rfl ?_); refine Kd.R_lit (Kd.int .i64) _ 3 ?hg (N := 14) ?hd (xs := ([4] : List Int)) (inner := [.int .i64 4]) (ok := fun _ => True) (okp := fun _ => True) ?hr ?hp (fun _ hk => hk) trivial (Below.refl _ _) (Nat.le_refl _) (by simp) ?_; (case hd => rfl); (case hg => rfl); (case hr => first | (go_simp; done) | (go_simp; rfl)); (case hp => exact (Reps.one (show Kd.M (Kd.int .i64) _ _ _ 4 [.int .i64 4] from rfl) (Reps.none _ _))); intro v142 w19 ho20 hb hg_ hnew_; clear hg_ hnew_; (first | rw [← Ny141.out] at ho20 | (simp only [Int.reduceToNat] at ho20; rw [← Ny141.out] at ho20)); have n0_ := Aside0.mk (Kd.R_elder' (by (with_reducible repeat (first | apply Kd.R_alloc | apply Kd.R_drewN | apply Kd.R_drew)); exact HO125.out) (Kd.R_base ho20) hb); have n1_ := Aside0.mk (Kd.R_elder' (by (with_reducible repeat (first | apply Kd.R_alloc | apply Kd.R_drewN | apply Kd.R_drew)); exact HO128.out) (Kd.R_base ho20) hb); have n2_ := Aside0.mk (Kd.R_elder' (by (with_reducible repeat (first | apply Kd.R_alloc | apply Kd.R_drewN | apply Kd.R_drew)); exact HO131.out) (Kd.R_base ho20) hb); have n3_ := Aside0.mk (Kd.R_elder' (by (with_reducible repeat (first | apply Kd.R_alloc | apply Kd.R_drewN | apply Kd.R_drew)); exact HO134.out) (Kd.R_base ho20) hb); have n4_ := Aside0.mk (Kd.R_elder' (by (with_reducible repeat (first | apply Kd.R_alloc | apply Kd.R_drewN | apply Kd.R_drew)); exact HO137.out) (Kd.R_base ho20) hb); have n5_ := Aside0.mk (Kd.R_elder' (by (with_reducible repeat (first | apply Kd.R_alloc | apply Kd.R_drewN | apply Kd.R_drew)); exact HO140.out) (Kd.R_base ho20) hb); have n6_ := Aside0.mk (Kd.R_lower (Kd.R_new' (Kd.R_new' (Kd.R_new' (Kd.R_new' (Kd.R_new' (Kd.R_new' (Kd.R_newM (M := fun k_ => (w.heap.size ≤ k_)) ho20 (below_size (by repeat (first | (with_reducible first | exact HB.out | apply below_alloc | apply pw_below_drewN | apply below_drew1) | exact HB.out))) (fun k_ h_ => h_)) (Kd.R_lt (by (with_reducible repeat (first | apply Kd.R_alloc | apply Kd.R_drewN | apply Kd.R_drew)); exact HO125.out))) (Kd.R_lt (by (with_reducible repeat (first | apply Kd.R_alloc | apply Kd.R_drewN | apply Kd.R_drew)); exact HO128.out))) (Kd.R_lt (by (with_reducible repeat (first | apply Kd.R_alloc | apply Kd.R_drewN | apply Kd.R_drew)); exact HO131.out))) (Kd.R_lt (by (with_reducible repeat (first | apply Kd.R_alloc | apply Kd.R_drewN | apply Kd.R_drew)); exact HO134.out))) (Kd.R_lt (by (with_reducible repeat (first | apply Kd.R_alloc | apply Kd.R_drewN | apply Kd.R_drew)); exact HO137.out))) (Kd.R_lt (by (with_reducible repeat (first | apply Kd.R_alloc | apply Kd.R_drewN | apply Kd.R_drew)); exact HO140.out))) (below_size (by repeat (first | (with_reducible first | exact HB.out | apply below_alloc | apply pw_below_drewN | apply below_drew1) | exact HB.out)))); have n7_ := Aside0.mk (below_step (by repeat (first | (with_reducible first | exact HB.out | apply below_alloc | apply pw_below_drewN | apply below_drew1) | exact HB.out)) hb); clear HO125; clear HO128; clear HO131; clear HO134; clear HO137; clear HO140; clear HB; have HO125 := n0_; have HO128 := n1_; have HO131 := n2_; have HO134 := n3_; have HO137 := n4_; have HO140 := n5_; have HO143 := n6_; have HB := n7_; clear n0_ n1_ n2_ n3_ n4_ n5_ n6_ n7_; clear hb ho20; obtain ⟨Ao21, co21, eo21⟩ := Kd.R_slice HO143.out; subst eo21) | ((with_reducible refine gate_dst (N := 16) rfl ?_); refine Kd.R_lit (Kd.int .i64) _ 3 ?hg (N := 16) ?hd (xs := ([7] : List Int)) (inner := [.int .i64 7]) (ok := fun _ => True) (okp := fun _ => True) ?hr ?hp (fun _ hk => hk) trivial (Below.refl _ _) (Nat.le_refl _) (by simp) ?_; (case hd => rfl); (case hg => rfl); (case hr => first | (go_simp; done) | (go_simp; rfl)); (case hp => exact (Reps.one (show Kd.M (Kd.int .i64) _ _ _ 7 [.int .i64 7] from rfl) (Reps.none _ _))); intro v145 w22 ho23 hb hg_ hnew_; clear hg_ hnew_; (first | rw [← Ny144.out] at ho23 | (simp only [Int.reduceToNat] at ho23; rw [← Ny144.out] at ho23)); have n0_ := Aside0.mk (Kd.R_elder' (by (with_reducible repeat (first | apply Kd.R_alloc | apply Kd.R_drewN | apply Kd.R_drew)); exact HO125.out) (Kd.R_base ho23) hb); have n1_ := Aside0.mk (Kd.R_elder' (by (with_reducible repeat (first | apply Kd.R_alloc | apply Kd.R_drewN | apply Kd.R_drew)); exact HO128.out) (Kd.R_base ho23) hb); have n2_ := Aside0.mk (Kd.R_elder' (by (with_reducible repeat (first | apply Kd.R_alloc | apply Kd.R_drewN | apply Kd.R_drew)); exact HO131.out) (Kd.R_base ho23) hb); have n3_ := Aside0.mk (Kd.R_elder' (by (with_reducible repeat (first | apply Kd.R_alloc | apply Kd.R_drewN | apply Kd.R_drew)); exact HO134.out) (Kd.R_base ho23) hb); have n4_ := Aside0.mk (Kd.R_elder' (by (with_reducible repeat (first | apply Kd.R_alloc | apply Kd.R_drewN | apply Kd.R_drew)); exact HO137.out) (Kd.R_base ho23) hb); have n5_ := Aside0.mk (Kd.R_elder' (by (with_reducible repeat (first | apply Kd.R_alloc | apply Kd.R_drewN | apply Kd.R_drew)); exact HO140.out) (Kd.R_base ho23) hb); have n6_ := Aside0.mk (Kd.R_elder' (by (with_reducible repeat (first | apply Kd.R_alloc | apply Kd.R_drewN | apply Kd.R_drew)); exact HO143.out) (Kd.R_base ho23) hb); have n7_ := Aside0.mk (Kd.R_lower (Kd.R_new' (Kd.R_new' (Kd.R_new' (Kd.R_new' (Kd.R_new' (Kd.R_new' (Kd.R_new' (Kd.R_newM (M := fun k_ => (w.heap.size ≤ k_)) ho23 (below_size (by repeat (first | (with_reducible first | exact HB.out | apply below_alloc | apply pw_below_drewN | apply below_drew1) | exact HB.out))) (fun k_ h_ => h_)) (Kd.R_lt (by (with_reducible repeat (first | apply Kd.R_alloc | apply Kd.R_drewN | apply Kd.R_drew)); exact HO125.out))) (Kd.R_lt (by (with_reducible repeat (first | apply Kd.R_alloc | apply Kd.R_drewN | apply Kd.R_drew)); exact HO128.out))) (Kd.R_lt (by (with_reducible repeat (first | apply Kd.R_alloc | apply Kd.R_drewN | apply Kd.R_drew)); exact HO131.out))) (Kd.R_lt (by (with_reducible repeat (first | apply Kd.R_alloc | apply Kd.R_drewN | apply Kd.R_drew)); exact HO134.out))) (Kd.R_lt (by (with_reducible repeat (first | apply Kd.R_alloc | apply Kd.R_drewN | apply Kd.R_drew)); exact HO137.out))) (Kd.R_lt (by (with_reducible repeat (first | apply Kd.R_alloc | apply Kd.R_drewN | apply Kd.R_drew)); exact HO140.out))) (Kd.R_lt (by (with_reducible repeat (first | apply Kd.R_alloc | apply Kd.R_drewN | apply Kd.R_drew)); exact HO143.out))) (below_size (by repeat (first | (with_reducible first | exact HB.out | apply below_alloc | apply pw_below_drewN | apply below_drew1) | exact HB.out)))); have n8_ := Aside0.mk (below_step (by repeat (first | (with_reducible first | exact HB.out | apply below_alloc | apply pw_below_drewN | apply below_drew1) | exact HB.out)) hb); clear HO125; clear HO128; clear HO131; clear HO134; clear HO137; clear HO140; clear HO143; clear HB; have HO125 := n0_; have HO128 := n1_; have HO131 := n2_; have HO134 := n3_; have HO137 := n4_; have HO140 := n5_; have HO143 := n6_; have HO146 := n7_; have HB := n8_; clear n0_ n1_ n2_ n3_ n4_ n5_ n6_ n7_ n8_; clear hb ho23; obtain ⟨Ao24, co24, eo24⟩ := Kd.R_slice HO146.out; subst eo24) | ((with_reducible refine gate_dst (N := 18) rfl ?_); refine Kd.R_lit (Kd.int .i64) _ 3 ?hg (N := 18) ?hd (xs := ([8] : List Int)) (inner := [.int .i64 8]) (ok := fun _ => True) (okp := fun _ => True) ?hr ?hp (fun _ hk => hk) trivial (Below.refl _ _) (Nat.le_refl _) (by simp) ?_; (case hd => rfl); (case hg => rfl); (case hr => first | (go_simp; done) | (go_simp; rfl)); (case hp => exact (Reps.one (show Kd.M (Kd.int .i64) _ _ _ 8 [.int .i64 8] from rfl) (Reps.none _ _))); intro v148 w25 ho26 hb hg_ hnew_; clear hg_ hnew_; (first | rw [← Ny147.out] at ho26 | (simp only [Int.reduceToNat] at ho26; rw [← Ny147.out] at ho26)); have n0_ := Aside0.mk (Kd.R_elder' (by (with_reducible repeat (first | apply Kd.R_alloc | apply Kd.R_drewN | apply Kd.R_drew)); exact HO125.out) (Kd.R_base ho26) hb); have n1_ := Aside0.mk (Kd.R_elder' (by (with_reducible repeat (first | apply Kd.R_alloc | apply Kd.R_drewN | apply Kd.R_drew)); exact HO128.out) (Kd.R_base ho26) hb); have n2_ := Aside0.mk (Kd.R_elder' (by (with_reducible repeat (first | apply Kd.R_alloc | apply Kd.R_drewN | apply Kd.R_drew)); exact HO131.out) (Kd.R_base ho26) hb); have n3_ := Aside0.mk (Kd.R_elder' (by (with_reducible repeat (first | apply Kd.R_alloc | apply Kd.R_drewN | apply Kd.R_drew)); exact HO134.out) (Kd.R_base ho26) hb); have n4_ := Aside0.mk (Kd.R_elder' (by (with_reducible repeat (first | apply Kd.R_alloc | apply Kd.R_drewN | apply Kd.R_drew)); exact HO137.out) (Kd.R_base ho26) hb); have n5_ := Aside0.mk (Kd.R_elder' (by (with_reducible repeat (first | apply Kd.R_alloc | apply Kd.R_drewN | apply Kd.R_drew)); exact HO140.out) (Kd.R_base ho26) hb); have n6_ := Aside0.mk (Kd.R_elder' (by (with_reducible repeat (first | apply Kd.R_alloc | apply Kd.R_drewN | apply Kd.R_drew)); exact HO143.out) (Kd.R_base ho26) hb); have n7_ := Aside0.mk (Kd.R_elder' (by (with_reducible repeat (first | apply Kd.R_alloc | apply Kd.R_drewN | apply Kd.R_drew)); exact HO146.out) (Kd.R_base ho26) hb); have n8_ := Aside0.mk (Kd.R_lower (Kd.R_new' (Kd.R_new' (Kd.R_new' (Kd.R_new' (Kd.R_new' (Kd.R_new' (Kd.R_new' (Kd.R_new' (Kd.R_newM (M := fun k_ => (w.heap.size ≤ k_)) ho26 (below_size (by repeat (first | (with_reducible first | exact HB.out | apply below_alloc | apply pw_below_drewN | apply below_drew1) | exact HB.out))) (fun k_ h_ => h_)) (Kd.R_lt (by (with_reducible repeat (first | apply Kd.R_alloc | apply Kd.R_drewN | apply Kd.R_drew)); exact HO125.out))) (Kd.R_lt (by (with_reducible repeat (first | apply Kd.R_alloc | apply Kd.R_drewN | apply Kd.R_drew)); exact HO128.out))) (Kd.R_lt (by (with_reducible repeat (first | apply Kd.R_alloc | apply Kd.R_drewN | apply Kd.R_drew)); exact HO131.out))) (Kd.R_lt (by (with_reducible repeat (first | apply Kd.R_alloc | apply Kd.R_drewN | apply Kd.R_drew)); exact HO134.out))) (Kd.R_lt (by (with_reducible repeat (first | apply Kd.R_alloc | apply Kd.R_drewN | apply Kd.R_drew)); exact HO137.out))) (Kd.R_lt (by (with_reducible repeat (first | apply Kd.R_alloc | apply Kd.R_drewN | apply Kd.R_drew)); exact HO140.out))) (Kd.R_lt (by (with_reducible repeat (first | apply Kd.R_alloc | apply Kd.R_drewN | apply Kd.R_drew)); exact HO143.out))) (Kd.R_lt (by (with_reducible repeat (first | apply Kd.R_alloc | apply Kd.R_drewN | apply Kd.R_drew)); exact HO146.out))) (below_size (by repeat (first | (with_reducible first | exact HB.out | apply below_alloc | apply pw_below_drewN | apply below_drew1) | exact HB.out)))); have n9_ := Aside0.mk (below_step (by repeat (first | (with_reducible first | exact HB.out | apply below_alloc | apply pw_below_drewN | apply below_drew1) | exact HB.out)) hb); clear HO125; clear HO128; clear HO131; clear HO134; clear HO137; clear HO140; clear HO143; clear HO146; clear HB; have HO125 := n0_; have HO128 := n1_; have HO131 := n2_; have HO134 := n3_; have HO137 := n4_; have HO140 := n5_; have HO143 := n6_; have HO146 := n7_; have HO149 := n8_; have HB := n9_; clear n0_ n1_ n2_ n3_ n4_ n5_ n6_ n7_ n8_ n9_; clear hb ho26; obtain ⟨Ao27, co27, eo27⟩ := Kd.R_slice HO149.out; subst eo27) | ((with_reducible refine gate_dst (N := 20) rfl ?_); refine Kd.N_lit k39 _ 39 ?hg (N' := 20) ?hd (xs := ([(⟨1, 0, 0, 0, ([] : List Int)⟩ : S39), (⟨2, 0, 1, 0, y123⟩ : S39), (⟨7, 0, 0, 1, y126⟩ : S39), (⟨4, 0, 0, 1, y129⟩ : S39), (⟨2, 0, 2, 1, y132⟩ : S39), (⟨3, 0, 9, 1, y135⟩ : S39), (⟨9, 0, 3, 1, y138⟩ : S39), (⟨8, 0, 0, 0, y141⟩ : S39), (⟨5, 0, 0, 0, y144⟩ : S39), (⟨10, 0, 0, 0, y147⟩ : S39)] : List (S39))) (inner := [.int .u8 1, .int .u8 0, .int .i64 0, .int .i64 0, .slice none 0 0, .int .u8 2, .int .u8 0, .int .i64 1, .int .i64 0, .slice Ao3 y123.length co3, .int .u8 7, .int .u8 0, .int .i64 0, .int .i64 1, .slice Ao6 y126.length co6, .int .u8 4, .int .u8 0, .int .i64 0, .int .i64 1, .slice Ao9 y129.length co9, .int .u8 2, .int .u8 0, .int .i64 2, .int .i64 1, .slice Ao12 y132.length co12, .int .u8 3, .int .u8 0, .int .i64 9, .int .i64 1, .slice Ao15 y135.length co15, .int .u8 9, .int .u8 0, .int .i64 3, .int .i64 1, .slice Ao18 y138.length co18, .int .u8 8, .int .u8 0, .int .i64 0, .int .i64 0, .slice Ao21 y141.length co21, .int .u8 5, .int .u8 0, .int .i64 0, .int .i64 0, .slice Ao24 y144.length co24, .int .u8 10, .int .u8 0, .int .i64 0, .int .i64 0, .slice Ao27 y147.length co27]) (ok := (fun k_ => (w.heap.size ≤ k_))) (okp := (fun k_ => (w.heap.size ≤ k_))) ?hr ?hp (fun _ hk => hk) ((show ∀ k_, w25.heap.size ≤ k_ → (fun k_ => (w.heap.size ≤ k_)) k_ from fun k_ hk => (Nat.le_trans (below_size (by repeat (first | (with_reducible first | exact HB.out | apply below_alloc | apply pw_below_drewN | apply below_drew1) | exact HB.out))) hk)) _ (Nat.le_refl _)) (Below.refl _ _) (Nat.le_refl _) (by simp) ?_; (case hd => rfl); (case hg => rfl); (case hr => first | (go_simp; done) | (go_simp; rfl)); (case hp => exact (Reps.c5 (show Kd.FK k39 _ _ (⟨1, 0, 0, 0, ([] : List Int)⟩ : S39) [.int .u8 1, .int .u8 0, .int .i64 0, .int .i64 0, .slice none 0 0] from (k39_mkF _ _ (⟨1, 0, 0, 0, ([] : List Int)⟩ : S39) (Nat.le_refl _) (Kd.F_nil _ _ _))) (Reps.c5 (show Kd.FK k39 _ _ (⟨2, 0, 1, 0, y123⟩ : S39) [.int .u8 2, .int .u8 0, .int .i64 1, .int .i64 0, .slice Ao3 y123.length co3] from (k39_mkF _ _ (⟨2, 0, 1, 0, y123⟩ : S39) (Kd.R_reads' (Kd.R_mono (ok' := (fun k_ => (w.heap.size ≤ k_))) (HO125.out) (fun k_ hk => hk.1.1.1.1.1.1.1.1.1))).2.1 (Kd.R_F (Kd.R_mono (ok' := (fun k_ => (w.heap.size ≤ k_))) (HO125.out) (fun k_ hk => hk.1.1.1.1.1.1.1.1.1))))) (Reps.c5 (show Kd.FK k39 _ _ (⟨7, 0, 0, 1, y126⟩ : S39) [.int .u8 7, .int .u8 0, .int .i64 0, .int .i64 1, .slice Ao6 y126.length co6] from (k39_mkF _ _ (⟨7, 0, 0, 1, y126⟩ : S39) (Kd.R_reads' (Kd.R_mono (ok' := (fun k_ => (w.heap.size ≤ k_))) (HO128.out) (fun k_ hk => hk.1.1.1.1.1.1.1.1.1))).2.1 (Kd.R_F (Kd.R_mono (ok' := (fun k_ => (w.heap.size ≤ k_))) (HO128.out) (fun k_ hk => hk.1.1.1.1.1.1.1.1.1))))) (Reps.c5 (show Kd.FK k39 _ _ (⟨4, 0, 0, 1, y129⟩ : S39) [.int .u8 4, .int .u8 0, .int .i64 0, .int .i64 1, .slice Ao9 y129.length co9] from (k39_mkF _ _ (⟨4, 0, 0, 1, y129⟩ : S39) (Kd.R_reads' (Kd.R_mono (ok' := (fun k_ => (w.heap.size ≤ k_))) (HO131.out) (fun k_ hk => hk.1.1.1.1.1.1.1.1.1))).2.1 (Kd.R_F (Kd.R_mono (ok' := (fun k_ => (w.heap.size ≤ k_))) (HO131.out) (fun k_ hk => hk.1.1.1.1.1.1.1.1.1))))) (Reps.c5 (show Kd.FK k39 _ _ (⟨2, 0, 2, 1, y132⟩ : S39) [.int .u8 2, .int .u8 0, .int .i64 2, .int .i64 1, .slice Ao12 y132.length co12] from (k39_mkF _ _ (⟨2, 0, 2, 1, y132⟩ : S39) (Kd.R_reads' (Kd.R_mono (ok' := (fun k_ => (w.heap.size ≤ k_))) (HO134.out) (fun k_ hk => hk.1.1.1.1.1.1.1.1.1))).2.1 (Kd.R_F (Kd.R_mono (ok' := (fun k_ => (w.heap.size ≤ k_))) (HO134.out) (fun k_ hk => hk.1.1.1.1.1.1.1.1.1))))) (Reps.c5 (show Kd.FK k39 _ _ (⟨3, 0, 9, 1, y135⟩ : S39) [.int .u8 3, .int .u8 0, .int .i64 9, .int .i64 1, .slice Ao15 y135.length co15] from (k39_mkF _ _ (⟨3, 0, 9, 1, y135⟩ : S39) (Kd.R_reads' (Kd.R_mono (ok' := (fun k_ => (w.heap.size ≤ k_))) (HO137.out) (fun k_ hk => hk.1.1.1.1.1.1.1.1.1))).2.1 (Kd.R_F (Kd.R_mono (ok' := (fun k_ => (w.heap.size ≤ k_))) (HO137.out) (fun k_ hk => hk.1.1.1.1.1.1.1.1.1))))) (Reps.c5 (show Kd.FK k39 _ _ (⟨9, 0, 3, 1, y138⟩ : S39) [.int .u8 9, .int .u8 0, .int .i64 3, .int .i64 1, .slice Ao18 y138.length co18] from (k39_mkF _ _ (⟨9, 0, 3, 1, y138⟩ : S39) (Kd.R_reads' (Kd.R_mono (ok' := (fun k_ => (w.heap.size ≤ k_))) (HO140.out) (fun k_ hk => hk.1.1.1.1.1.1.1.1.1))).2.1 (Kd.R_F (Kd.R_mono (ok' := (fun k_ => (w.heap.size ≤ k_))) (HO140.out) (fun k_ hk => hk.1.1.1.1.1.1.1.1.1))))) (Reps.c5 (show Kd.FK k39 _ _ (⟨8, 0, 0, 0, y141⟩ : S39) [.int .u8 8, .int .u8 0, .int .i64 0, .int .i64 0, .slice Ao21 y141.length co21] from (k39_mkF _ _ (⟨8, 0, 0, 0, y141⟩ : S39) (Kd.R_reads' (Kd.R_mono (ok' := (fun k_ => (w.heap.size ≤ k_))) (HO143.out) (fun k_ hk => hk.1.1.1.1.1.1.1.1.1))).2.1 (Kd.R_F (Kd.R_mono (ok' := (fun k_ => (w.heap.size ≤ k_))) (HO143.out) (fun k_ hk => hk.1.1.1.1.1.1.1.1.1))))) (Reps.c5 (show Kd.FK k39 _ _ (⟨5, 0, 0, 0, y144⟩ : S39) [.int .u8 5, .int .u8 0, .int .i64 0, .int .i64 0, .slice Ao24 y144.length co24] from (k39_mkF _ _ (⟨5, 0, 0, 0, y144⟩ : S39) (Kd.R_reads' (Kd.R_mono (ok' := (fun k_ => (w.heap.size ≤ k_))) (HO146.out) (fun k_ hk => hk.1.1.1.1.1.1.1.1.1))).2.1 (Kd.R_F (Kd.R_mono (ok' := (fun k_ => (w.heap.size ≤ k_))) (HO146.out) (fun k_ hk => hk.1.1.1.1.1.1.1.1.1))))) (Reps.c5 (show Kd.FK k39 _ _ (⟨10, 0, 0, 0, y147⟩ : S39) [.int .u8 10, .int .u8 0, .int .i64 0, .int .i64 0, .slice Ao27 y147.length co27] from (k39_mkF _ _ (⟨10, 0, 0, 0, y147⟩ : S39) (Kd.R_reads' (Kd.R_mono (ok' := (fun k_ => (w.heap.size ≤ k_))) (HO149.out) (fun k_ hk => hk.1.1.1.1.1.1.1.1.1))).2.1 (Kd.R_F (Kd.R_mono (ok' := (fun k_ => (w.heap.size ≤ k_))) (HO149.out) (fun k_ hk => hk.1.1.1.1.1.1.1.1.1))))) (Reps.none _ _)))))))))))); intro v151 w28 ho29 hb hg_ hnew_; clear hg_ hnew_; (first | rw [← Ny150.out] at ho29 | (simp only [Int.reduceToNat] at ho29; rw [← Ny150.out] at ho29)); have n0_ := Aside0.mk (Kd.N_lower ho29 (below_size (by repeat (first | (with_reducible first | exact HB.out | apply below_alloc | apply pw_below_drewN | apply below_drew1) | exact HB.out)))); have n1_ := Aside0.mk (below_step (by repeat (first | (with_reducible first | exact HB.out | apply below_alloc | apply pw_below_drewN | apply below_drew1) | exact HB.out)) hb); clear HB; clear HO125; clear HO128; clear HO131; clear HO134; clear HO137; clear HO140; clear HO143; clear HO146; clear HO149; have HO152 := n0_; have HB := n1_; clear n0_ n1_; clear hb ho29))
  go_ret
  exact ⟨_, by first | rfl | (simp [errW_none, errW_some] <;> rfl) | (simp [*, errW_none, errW_some] <;> rfl), by (with_reducible repeat (first | apply Kd.N_alloc | apply Kd.N_drewN | apply Kd.N_drew)); exact HO152.out, by repeat (first | (with_reducible first | exact HB.out | apply below_alloc | apply pw_below_drewN | apply below_drew1) | exact HB.out)⟩
def tailracekit_Straight.f  : Option ((List (S39))) := some (([(⟨1, 0, 0, 0, ([] : List Int)⟩ : S39), (⟨10, 0, 0, 0, (([0] : List Int))⟩ : S39)] : List (S39)))
set_option maxHeartbeats 8000000 in
set_option maxRecDepth 100000 in
theorem tailracekit_Straight.calls  (r : List (S39)) (w : World) (h : tailracekit_Straight.f  = some r) :
    Calls Try.prog 22 #[] w fun e w' => ∃ v0_ : Value, e = .returned (v0_) ∧ Kd.N k39 39 w' w.heap.size (fun k_ => (w.heap.size ≤ k_)) v0_ r ∧ Below w.heap.size w w' := by
  have hu39 := Try.underlying39
  have HB := Aside0.mk (Below.refl w.heap.size w)
  have H : (some (([(⟨1, 0, 0, 0, ([] : List Int)⟩ : S39), (⟨10, 0, 0, 0, (([0] : List Int))⟩ : S39)] : List (S39)))) = some r := h
  clear h
  obtain ⟨y153, hy153⟩ : ∃ y_ : List Int, y_ = (([0] : List Int)) := ⟨_, rfl⟩
  replace H : (some (([(⟨1, 0, 0, 0, ([] : List Int)⟩ : S39), (⟨10, 0, 0, 0, y153⟩ : S39)] : List (S39)))) = some r := by first | (rw [hy153]; with_reducible exact H) | (have H2_ := (Option.bind_some _ _).symm.trans H; rw [hy153]; with_reducible exact H2_) | (have H2_ := (Option.bind_some _ _).symm.trans H; with_reducible exact H2_) | with_reducible exact H | (rw [hy153]; exact H) | exact H
  have Ny153 := Aside0.mk hy153
  clear hy153
  obtain ⟨y156, hy156⟩ : ∃ y_ : List (S39), y_ = (([(⟨1, 0, 0, 0, ([] : List Int)⟩ : S39), (⟨10, 0, 0, 0, y153⟩ : S39)] : List (S39))) := ⟨_, rfl⟩
  replace H : (some y156) = some r := by first | (rw [hy156]; with_reducible exact H) | (have H2_ := (Option.bind_some _ _).symm.trans H; rw [hy156]; with_reducible exact H2_) | (have H2_ := (Option.bind_some _ _).symm.trans H; with_reducible exact H2_) | with_reducible exact H | (rw [hy156]; exact H) | exact H
  have Ny156 := Aside0.mk hy156
  clear hy156
  obtain rfl := Option.some.inj H
  go_enter Try.func22, Try.ntmps22
  go_wp2_with (first | ((with_reducible refine gate_dst (N := 2) rfl ?_); refine Kd.R_lit (Kd.int .i64) _ 3 ?hg (N := 2) ?hd (xs := ([0] : List Int)) (inner := [.int .i64 0]) (ok := fun _ => True) (okp := fun _ => True) ?hr ?hp (fun _ hk => hk) trivial (Below.refl _ _) (Nat.le_refl _) (by simp) ?_; (case hd => rfl); (case hg => rfl); (case hr => first | (go_simp; done) | (go_simp; rfl)); (case hp => exact (Reps.one (show Kd.M (Kd.int .i64) _ _ _ 0 [.int .i64 0] from rfl) (Reps.none _ _))); intro v154 w1 ho2 hb hg_ hnew_; clear hg_ hnew_; (first | rw [← Ny153.out] at ho2 | (simp only [Int.reduceToNat] at ho2; rw [← Ny153.out] at ho2)); have n0_ := Aside0.mk (Kd.R_lower (Kd.R_newM (M := fun k_ => (w.heap.size ≤ k_)) ho2 (below_size (by repeat (first | (with_reducible first | exact HB.out | apply below_alloc | apply pw_below_drewN | apply below_drew1) | exact HB.out))) (fun k_ h_ => h_)) (below_size (by repeat (first | (with_reducible first | exact HB.out | apply below_alloc | apply pw_below_drewN | apply below_drew1) | exact HB.out)))); have n1_ := Aside0.mk (below_step (by repeat (first | (with_reducible first | exact HB.out | apply below_alloc | apply pw_below_drewN | apply below_drew1) | exact HB.out)) hb); clear HB; have HO155 := n0_; have HB := n1_; clear n0_ n1_; clear hb ho2; obtain ⟨Ao3, co3, eo3⟩ := Kd.R_slice HO155.out; subst eo3) | ((with_reducible refine gate_dst (N := 4) rfl ?_); refine Kd.N_lit k39 _ 39 ?hg (N' := 4) ?hd (xs := ([(⟨1, 0, 0, 0, ([] : List Int)⟩ : S39), (⟨10, 0, 0, 0, y153⟩ : S39)] : List (S39))) (inner := [.int .u8 1, .int .u8 0, .int .i64 0, .int .i64 0, .slice none 0 0, .int .u8 10, .int .u8 0, .int .i64 0, .int .i64 0, .slice Ao3 y153.length co3]) (ok := (fun k_ => (w.heap.size ≤ k_))) (okp := (fun k_ => (w.heap.size ≤ k_))) ?hr ?hp (fun _ hk => hk) ((show ∀ k_, w1.heap.size ≤ k_ → (fun k_ => (w.heap.size ≤ k_)) k_ from fun k_ hk => (Nat.le_trans (below_size (by repeat (first | (with_reducible first | exact HB.out | apply below_alloc | apply pw_below_drewN | apply below_drew1) | exact HB.out))) hk)) _ (Nat.le_refl _)) (Below.refl _ _) (Nat.le_refl _) (by simp) ?_; (case hd => rfl); (case hg => rfl); (case hr => first | (go_simp; done) | (go_simp; rfl)); (case hp => exact (Reps.c5 (show Kd.FK k39 _ _ (⟨1, 0, 0, 0, ([] : List Int)⟩ : S39) [.int .u8 1, .int .u8 0, .int .i64 0, .int .i64 0, .slice none 0 0] from (k39_mkF _ _ (⟨1, 0, 0, 0, ([] : List Int)⟩ : S39) (Nat.le_refl _) (Kd.F_nil _ _ _))) (Reps.c5 (show Kd.FK k39 _ _ (⟨10, 0, 0, 0, y153⟩ : S39) [.int .u8 10, .int .u8 0, .int .i64 0, .int .i64 0, .slice Ao3 y153.length co3] from (k39_mkF _ _ (⟨10, 0, 0, 0, y153⟩ : S39) (Kd.R_reads' (Kd.R_mono (ok' := (fun k_ => (w.heap.size ≤ k_))) (HO155.out) (fun k_ hk => hk.1))).2.1 (Kd.R_F (Kd.R_mono (ok' := (fun k_ => (w.heap.size ≤ k_))) (HO155.out) (fun k_ hk => hk.1))))) (Reps.none _ _)))); intro v157 w4 ho5 hb hg_ hnew_; clear hg_ hnew_; (first | rw [← Ny156.out] at ho5 | (simp only [Int.reduceToNat] at ho5; rw [← Ny156.out] at ho5)); have n0_ := Aside0.mk (Kd.N_lower ho5 (below_size (by repeat (first | (with_reducible first | exact HB.out | apply below_alloc | apply pw_below_drewN | apply below_drew1) | exact HB.out)))); have n1_ := Aside0.mk (below_step (by repeat (first | (with_reducible first | exact HB.out | apply below_alloc | apply pw_below_drewN | apply below_drew1) | exact HB.out)) hb); clear HB; clear HO155; have HO158 := n0_; have HB := n1_; clear n0_ n1_; clear hb ho5))
  go_ret
  exact ⟨_, by first | rfl | (simp [errW_none, errW_some] <;> rfl) | (simp [*, errW_none, errW_some] <;> rfl), by (with_reducible repeat (first | apply Kd.N_alloc | apply Kd.N_drewN | apply Kd.N_drew)); exact HO158.out, by repeat (first | (with_reducible first | exact HB.out | apply below_alloc | apply pw_below_drewN | apply below_drew1) | exact HB.out)⟩
def tailracelaw10_deeper.f  : Option ((List (S39))) := some (([(⟨1, 0, 0, 0, ([] : List Int)⟩ : S39), (⟨4, 0, 0, 0, (([0, 4] : List Int))⟩ : S39), (⟨7, 0, 0, 1, (([1] : List Int))⟩ : S39), (⟨9, 0, 2, 1, (([2] : List Int))⟩ : S39), (⟨8, 0, 0, 0, (([3] : List Int))⟩ : S39)] : List (S39)))
set_option maxHeartbeats 8000000 in
set_option maxRecDepth 100000 in
theorem tailracelaw10_deeper.calls  (r : List (S39)) (w : World) (h : tailracelaw10_deeper.f  = some r) :
    Calls Try.prog 23 #[] w fun e w' => ∃ v0_ : Value, e = .returned (v0_) ∧ Kd.N k39 39 w' w.heap.size (fun k_ => (w.heap.size ≤ k_)) v0_ r ∧ Below w.heap.size w w' := by
  have hu39 := Try.underlying39
  have HB := Aside0.mk (Below.refl w.heap.size w)
  have H : (some (([(⟨1, 0, 0, 0, ([] : List Int)⟩ : S39), (⟨4, 0, 0, 0, (([0, 4] : List Int))⟩ : S39), (⟨7, 0, 0, 1, (([1] : List Int))⟩ : S39), (⟨9, 0, 2, 1, (([2] : List Int))⟩ : S39), (⟨8, 0, 0, 0, (([3] : List Int))⟩ : S39)] : List (S39)))) = some r := h
  clear h
  obtain ⟨y159, hy159⟩ : ∃ y_ : List Int, y_ = (([0, 4] : List Int)) := ⟨_, rfl⟩
  replace H : (some (([(⟨1, 0, 0, 0, ([] : List Int)⟩ : S39), (⟨4, 0, 0, 0, y159⟩ : S39), (⟨7, 0, 0, 1, (([1] : List Int))⟩ : S39), (⟨9, 0, 2, 1, (([2] : List Int))⟩ : S39), (⟨8, 0, 0, 0, (([3] : List Int))⟩ : S39)] : List (S39)))) = some r := by first | (rw [hy159]; with_reducible exact H) | (have H2_ := (Option.bind_some _ _).symm.trans H; rw [hy159]; with_reducible exact H2_) | (have H2_ := (Option.bind_some _ _).symm.trans H; with_reducible exact H2_) | with_reducible exact H | (rw [hy159]; exact H) | exact H
  have Ny159 := Aside0.mk hy159
  clear hy159
  obtain ⟨y162, hy162⟩ : ∃ y_ : List Int, y_ = (([1] : List Int)) := ⟨_, rfl⟩
  replace H : (some (([(⟨1, 0, 0, 0, ([] : List Int)⟩ : S39), (⟨4, 0, 0, 0, y159⟩ : S39), (⟨7, 0, 0, 1, y162⟩ : S39), (⟨9, 0, 2, 1, (([2] : List Int))⟩ : S39), (⟨8, 0, 0, 0, (([3] : List Int))⟩ : S39)] : List (S39)))) = some r := by first | (rw [hy162]; with_reducible exact H) | (have H2_ := (Option.bind_some _ _).symm.trans H; rw [hy162]; with_reducible exact H2_) | (have H2_ := (Option.bind_some _ _).symm.trans H; with_reducible exact H2_) | with_reducible exact H | (rw [hy162]; exact H) | exact H
  have Ny162 := Aside0.mk hy162
  clear hy162
  obtain ⟨y165, hy165⟩ : ∃ y_ : List Int, y_ = (([2] : List Int)) := ⟨_, rfl⟩
  replace H : (some (([(⟨1, 0, 0, 0, ([] : List Int)⟩ : S39), (⟨4, 0, 0, 0, y159⟩ : S39), (⟨7, 0, 0, 1, y162⟩ : S39), (⟨9, 0, 2, 1, y165⟩ : S39), (⟨8, 0, 0, 0, (([3] : List Int))⟩ : S39)] : List (S39)))) = some r := by first | (rw [hy165]; with_reducible exact H) | (have H2_ := (Option.bind_some _ _).symm.trans H; rw [hy165]; with_reducible exact H2_) | (have H2_ := (Option.bind_some _ _).symm.trans H; with_reducible exact H2_) | with_reducible exact H | (rw [hy165]; exact H) | exact H
  have Ny165 := Aside0.mk hy165
  clear hy165
  obtain ⟨y168, hy168⟩ : ∃ y_ : List Int, y_ = (([3] : List Int)) := ⟨_, rfl⟩
  replace H : (some (([(⟨1, 0, 0, 0, ([] : List Int)⟩ : S39), (⟨4, 0, 0, 0, y159⟩ : S39), (⟨7, 0, 0, 1, y162⟩ : S39), (⟨9, 0, 2, 1, y165⟩ : S39), (⟨8, 0, 0, 0, y168⟩ : S39)] : List (S39)))) = some r := by first | (rw [hy168]; with_reducible exact H) | (have H2_ := (Option.bind_some _ _).symm.trans H; rw [hy168]; with_reducible exact H2_) | (have H2_ := (Option.bind_some _ _).symm.trans H; with_reducible exact H2_) | with_reducible exact H | (rw [hy168]; exact H) | exact H
  have Ny168 := Aside0.mk hy168
  clear hy168
  obtain ⟨y171, hy171⟩ : ∃ y_ : List (S39), y_ = (([(⟨1, 0, 0, 0, ([] : List Int)⟩ : S39), (⟨4, 0, 0, 0, y159⟩ : S39), (⟨7, 0, 0, 1, y162⟩ : S39), (⟨9, 0, 2, 1, y165⟩ : S39), (⟨8, 0, 0, 0, y168⟩ : S39)] : List (S39))) := ⟨_, rfl⟩
  replace H : (some y171) = some r := by first | (rw [hy171]; with_reducible exact H) | (have H2_ := (Option.bind_some _ _).symm.trans H; rw [hy171]; with_reducible exact H2_) | (have H2_ := (Option.bind_some _ _).symm.trans H; with_reducible exact H2_) | with_reducible exact H | (rw [hy171]; exact H) | exact H
  have Ny171 := Aside0.mk hy171
  clear hy171
  obtain rfl := Option.some.inj H
  go_enter Try.func23, Try.ntmps23
  go_wp2_with (first | ((with_reducible refine gate_dst (N := 2) rfl ?_); refine Kd.R_lit (Kd.int .i64) _ 3 ?hg (N := 2) ?hd (xs := ([0, 4] : List Int)) (inner := [.int .i64 0, .int .i64 4]) (ok := fun _ => True) (okp := fun _ => True) ?hr ?hp (fun _ hk => hk) trivial (Below.refl _ _) (Nat.le_refl _) (by simp) ?_; (case hd => rfl); (case hg => rfl); (case hr => first | (go_simp; done) | (go_simp; rfl)); (case hp => exact (Reps.one (show Kd.M (Kd.int .i64) _ _ _ 0 [.int .i64 0] from rfl) (Reps.one (show Kd.M (Kd.int .i64) _ _ _ 4 [.int .i64 4] from rfl) (Reps.none _ _)))); intro v160 w1 ho2 hb hg_ hnew_; clear hg_ hnew_; (first | rw [← Ny159.out] at ho2 | (simp only [Int.reduceToNat] at ho2; rw [← Ny159.out] at ho2)); have n0_ := Aside0.mk (Kd.R_lower (Kd.R_newM (M := fun k_ => (w.heap.size ≤ k_)) ho2 (below_size (by repeat (first | (with_reducible first | exact HB.out | apply below_alloc | apply pw_below_drewN | apply below_drew1) | exact HB.out))) (fun k_ h_ => h_)) (below_size (by repeat (first | (with_reducible first | exact HB.out | apply below_alloc | apply pw_below_drewN | apply below_drew1) | exact HB.out)))); have n1_ := Aside0.mk (below_step (by repeat (first | (with_reducible first | exact HB.out | apply below_alloc | apply pw_below_drewN | apply below_drew1) | exact HB.out)) hb); clear HB; have HO161 := n0_; have HB := n1_; clear n0_ n1_; clear hb ho2; obtain ⟨Ao3, co3, eo3⟩ := Kd.R_slice HO161.out; subst eo3) | ((with_reducible refine gate_dst (N := 4) rfl ?_); refine Kd.R_lit (Kd.int .i64) _ 3 ?hg (N := 4) ?hd (xs := ([1] : List Int)) (inner := [.int .i64 1]) (ok := fun _ => True) (okp := fun _ => True) ?hr ?hp (fun _ hk => hk) trivial (Below.refl _ _) (Nat.le_refl _) (by simp) ?_; (case hd => rfl); (case hg => rfl); (case hr => first | (go_simp; done) | (go_simp; rfl)); (case hp => exact (Reps.one (show Kd.M (Kd.int .i64) _ _ _ 1 [.int .i64 1] from rfl) (Reps.none _ _))); intro v163 w4 ho5 hb hg_ hnew_; clear hg_ hnew_; (first | rw [← Ny162.out] at ho5 | (simp only [Int.reduceToNat] at ho5; rw [← Ny162.out] at ho5)); have n0_ := Aside0.mk (Kd.R_elder' (by (with_reducible repeat (first | apply Kd.R_alloc | apply Kd.R_drewN | apply Kd.R_drew)); exact HO161.out) (Kd.R_base ho5) hb); have n1_ := Aside0.mk (Kd.R_lower (Kd.R_new' (Kd.R_newM (M := fun k_ => (w.heap.size ≤ k_)) ho5 (below_size (by repeat (first | (with_reducible first | exact HB.out | apply below_alloc | apply pw_below_drewN | apply below_drew1) | exact HB.out))) (fun k_ h_ => h_)) (Kd.R_lt (by (with_reducible repeat (first | apply Kd.R_alloc | apply Kd.R_drewN | apply Kd.R_drew)); exact HO161.out))) (below_size (by repeat (first | (with_reducible first | exact HB.out | apply below_alloc | apply pw_below_drewN | apply below_drew1) | exact HB.out)))); have n2_ := Aside0.mk (below_step (by repeat (first | (with_reducible first | exact HB.out | apply below_alloc | apply pw_below_drewN | apply below_drew1) | exact HB.out)) hb); clear HO161; clear HB; have HO161 := n0_; have HO164 := n1_; have HB := n2_; clear n0_ n1_ n2_; clear hb ho5; obtain ⟨Ao6, co6, eo6⟩ := Kd.R_slice HO164.out; subst eo6) | ((with_reducible refine gate_dst (N := 6) rfl ?_); refine Kd.R_lit (Kd.int .i64) _ 3 ?hg (N := 6) ?hd (xs := ([2] : List Int)) (inner := [.int .i64 2]) (ok := fun _ => True) (okp := fun _ => True) ?hr ?hp (fun _ hk => hk) trivial (Below.refl _ _) (Nat.le_refl _) (by simp) ?_; (case hd => rfl); (case hg => rfl); (case hr => first | (go_simp; done) | (go_simp; rfl)); (case hp => exact (Reps.one (show Kd.M (Kd.int .i64) _ _ _ 2 [.int .i64 2] from rfl) (Reps.none _ _))); intro v166 w7 ho8 hb hg_ hnew_; clear hg_ hnew_; (first | rw [← Ny165.out] at ho8 | (simp only [Int.reduceToNat] at ho8; rw [← Ny165.out] at ho8)); have n0_ := Aside0.mk (Kd.R_elder' (by (with_reducible repeat (first | apply Kd.R_alloc | apply Kd.R_drewN | apply Kd.R_drew)); exact HO161.out) (Kd.R_base ho8) hb); have n1_ := Aside0.mk (Kd.R_elder' (by (with_reducible repeat (first | apply Kd.R_alloc | apply Kd.R_drewN | apply Kd.R_drew)); exact HO164.out) (Kd.R_base ho8) hb); have n2_ := Aside0.mk (Kd.R_lower (Kd.R_new' (Kd.R_new' (Kd.R_newM (M := fun k_ => (w.heap.size ≤ k_)) ho8 (below_size (by repeat (first | (with_reducible first | exact HB.out | apply below_alloc | apply pw_below_drewN | apply below_drew1) | exact HB.out))) (fun k_ h_ => h_)) (Kd.R_lt (by (with_reducible repeat (first | apply Kd.R_alloc | apply Kd.R_drewN | apply Kd.R_drew)); exact HO161.out))) (Kd.R_lt (by (with_reducible repeat (first | apply Kd.R_alloc | apply Kd.R_drewN | apply Kd.R_drew)); exact HO164.out))) (below_size (by repeat (first | (with_reducible first | exact HB.out | apply below_alloc | apply pw_below_drewN | apply below_drew1) | exact HB.out)))); have n3_ := Aside0.mk (below_step (by repeat (first | (with_reducible first | exact HB.out | apply below_alloc | apply pw_below_drewN | apply below_drew1) | exact HB.out)) hb); clear HO161; clear HO164; clear HB; have HO161 := n0_; have HO164 := n1_; have HO167 := n2_; have HB := n3_; clear n0_ n1_ n2_ n3_; clear hb ho8; obtain ⟨Ao9, co9, eo9⟩ := Kd.R_slice HO167.out; subst eo9) | ((with_reducible refine gate_dst (N := 8) rfl ?_); refine Kd.R_lit (Kd.int .i64) _ 3 ?hg (N := 8) ?hd (xs := ([3] : List Int)) (inner := [.int .i64 3]) (ok := fun _ => True) (okp := fun _ => True) ?hr ?hp (fun _ hk => hk) trivial (Below.refl _ _) (Nat.le_refl _) (by simp) ?_; (case hd => rfl); (case hg => rfl); (case hr => first | (go_simp; done) | (go_simp; rfl)); (case hp => exact (Reps.one (show Kd.M (Kd.int .i64) _ _ _ 3 [.int .i64 3] from rfl) (Reps.none _ _))); intro v169 w10 ho11 hb hg_ hnew_; clear hg_ hnew_; (first | rw [← Ny168.out] at ho11 | (simp only [Int.reduceToNat] at ho11; rw [← Ny168.out] at ho11)); have n0_ := Aside0.mk (Kd.R_elder' (by (with_reducible repeat (first | apply Kd.R_alloc | apply Kd.R_drewN | apply Kd.R_drew)); exact HO161.out) (Kd.R_base ho11) hb); have n1_ := Aside0.mk (Kd.R_elder' (by (with_reducible repeat (first | apply Kd.R_alloc | apply Kd.R_drewN | apply Kd.R_drew)); exact HO164.out) (Kd.R_base ho11) hb); have n2_ := Aside0.mk (Kd.R_elder' (by (with_reducible repeat (first | apply Kd.R_alloc | apply Kd.R_drewN | apply Kd.R_drew)); exact HO167.out) (Kd.R_base ho11) hb); have n3_ := Aside0.mk (Kd.R_lower (Kd.R_new' (Kd.R_new' (Kd.R_new' (Kd.R_newM (M := fun k_ => (w.heap.size ≤ k_)) ho11 (below_size (by repeat (first | (with_reducible first | exact HB.out | apply below_alloc | apply pw_below_drewN | apply below_drew1) | exact HB.out))) (fun k_ h_ => h_)) (Kd.R_lt (by (with_reducible repeat (first | apply Kd.R_alloc | apply Kd.R_drewN | apply Kd.R_drew)); exact HO161.out))) (Kd.R_lt (by (with_reducible repeat (first | apply Kd.R_alloc | apply Kd.R_drewN | apply Kd.R_drew)); exact HO164.out))) (Kd.R_lt (by (with_reducible repeat (first | apply Kd.R_alloc | apply Kd.R_drewN | apply Kd.R_drew)); exact HO167.out))) (below_size (by repeat (first | (with_reducible first | exact HB.out | apply below_alloc | apply pw_below_drewN | apply below_drew1) | exact HB.out)))); have n4_ := Aside0.mk (below_step (by repeat (first | (with_reducible first | exact HB.out | apply below_alloc | apply pw_below_drewN | apply below_drew1) | exact HB.out)) hb); clear HO161; clear HO164; clear HO167; clear HB; have HO161 := n0_; have HO164 := n1_; have HO167 := n2_; have HO170 := n3_; have HB := n4_; clear n0_ n1_ n2_ n3_ n4_; clear hb ho11; obtain ⟨Ao12, co12, eo12⟩ := Kd.R_slice HO170.out; subst eo12) | ((with_reducible refine gate_dst (N := 10) rfl ?_); refine Kd.N_lit k39 _ 39 ?hg (N' := 10) ?hd (xs := ([(⟨1, 0, 0, 0, ([] : List Int)⟩ : S39), (⟨4, 0, 0, 0, y159⟩ : S39), (⟨7, 0, 0, 1, y162⟩ : S39), (⟨9, 0, 2, 1, y165⟩ : S39), (⟨8, 0, 0, 0, y168⟩ : S39)] : List (S39))) (inner := [.int .u8 1, .int .u8 0, .int .i64 0, .int .i64 0, .slice none 0 0, .int .u8 4, .int .u8 0, .int .i64 0, .int .i64 0, .slice Ao3 y159.length co3, .int .u8 7, .int .u8 0, .int .i64 0, .int .i64 1, .slice Ao6 y162.length co6, .int .u8 9, .int .u8 0, .int .i64 2, .int .i64 1, .slice Ao9 y165.length co9, .int .u8 8, .int .u8 0, .int .i64 0, .int .i64 0, .slice Ao12 y168.length co12]) (ok := (fun k_ => (w.heap.size ≤ k_))) (okp := (fun k_ => (w.heap.size ≤ k_))) ?hr ?hp (fun _ hk => hk) ((show ∀ k_, w10.heap.size ≤ k_ → (fun k_ => (w.heap.size ≤ k_)) k_ from fun k_ hk => (Nat.le_trans (below_size (by repeat (first | (with_reducible first | exact HB.out | apply below_alloc | apply pw_below_drewN | apply below_drew1) | exact HB.out))) hk)) _ (Nat.le_refl _)) (Below.refl _ _) (Nat.le_refl _) (by simp) ?_; (case hd => rfl); (case hg => rfl); (case hr => first | (go_simp; done) | (go_simp; rfl)); (case hp => exact (Reps.c5 (show Kd.FK k39 _ _ (⟨1, 0, 0, 0, ([] : List Int)⟩ : S39) [.int .u8 1, .int .u8 0, .int .i64 0, .int .i64 0, .slice none 0 0] from (k39_mkF _ _ (⟨1, 0, 0, 0, ([] : List Int)⟩ : S39) (Nat.le_refl _) (Kd.F_nil _ _ _))) (Reps.c5 (show Kd.FK k39 _ _ (⟨4, 0, 0, 0, y159⟩ : S39) [.int .u8 4, .int .u8 0, .int .i64 0, .int .i64 0, .slice Ao3 y159.length co3] from (k39_mkF _ _ (⟨4, 0, 0, 0, y159⟩ : S39) (Kd.R_reads' (Kd.R_mono (ok' := (fun k_ => (w.heap.size ≤ k_))) (HO161.out) (fun k_ hk => hk.1.1.1.1))).2.1 (Kd.R_F (Kd.R_mono (ok' := (fun k_ => (w.heap.size ≤ k_))) (HO161.out) (fun k_ hk => hk.1.1.1.1))))) (Reps.c5 (show Kd.FK k39 _ _ (⟨7, 0, 0, 1, y162⟩ : S39) [.int .u8 7, .int .u8 0, .int .i64 0, .int .i64 1, .slice Ao6 y162.length co6] from (k39_mkF _ _ (⟨7, 0, 0, 1, y162⟩ : S39) (Kd.R_reads' (Kd.R_mono (ok' := (fun k_ => (w.heap.size ≤ k_))) (HO164.out) (fun k_ hk => hk.1.1.1.1))).2.1 (Kd.R_F (Kd.R_mono (ok' := (fun k_ => (w.heap.size ≤ k_))) (HO164.out) (fun k_ hk => hk.1.1.1.1))))) (Reps.c5 (show Kd.FK k39 _ _ (⟨9, 0, 2, 1, y165⟩ : S39) [.int .u8 9, .int .u8 0, .int .i64 2, .int .i64 1, .slice Ao9 y165.length co9] from (k39_mkF _ _ (⟨9, 0, 2, 1, y165⟩ : S39) (Kd.R_reads' (Kd.R_mono (ok' := (fun k_ => (w.heap.size ≤ k_))) (HO167.out) (fun k_ hk => hk.1.1.1.1))).2.1 (Kd.R_F (Kd.R_mono (ok' := (fun k_ => (w.heap.size ≤ k_))) (HO167.out) (fun k_ hk => hk.1.1.1.1))))) (Reps.c5 (show Kd.FK k39 _ _ (⟨8, 0, 0, 0, y168⟩ : S39) [.int .u8 8, .int .u8 0, .int .i64 0, .int .i64 0, .slice Ao12 y168.length co12] from (k39_mkF _ _ (⟨8, 0, 0, 0, y168⟩ : S39) (Kd.R_reads' (Kd.R_mono (ok' := (fun k_ => (w.heap.size ≤ k_))) (HO170.out) (fun k_ hk => hk.1.1.1.1))).2.1 (Kd.R_F (Kd.R_mono (ok' := (fun k_ => (w.heap.size ≤ k_))) (HO170.out) (fun k_ hk => hk.1.1.1.1))))) (Reps.none _ _))))))); intro v172 w13 ho14 hb hg_ hnew_; clear hg_ hnew_; (first | rw [← Ny171.out] at ho14 | (simp only [Int.reduceToNat] at ho14; rw [← Ny171.out] at ho14)); have n0_ := Aside0.mk (Kd.N_lower ho14 (below_size (by repeat (first | (with_reducible first | exact HB.out | apply below_alloc | apply pw_below_drewN | apply below_drew1) | exact HB.out)))); have n1_ := Aside0.mk (below_step (by repeat (first | (with_reducible first | exact HB.out | apply below_alloc | apply pw_below_drewN | apply below_drew1) | exact HB.out)) hb); clear HB; clear HO161; clear HO164; clear HO167; clear HO170; have HO173 := n0_; have HB := n1_; clear n0_ n1_; clear hb ho14))
  go_ret
  exact ⟨_, by first | rfl | (simp [errW_none, errW_some] <;> rfl) | (simp [*, errW_none, errW_some] <;> rfl), by (with_reducible repeat (first | apply Kd.N_alloc | apply Kd.N_drewN | apply Kd.N_drew)); exact HO173.out, by repeat (first | (with_reducible first | exact HB.out | apply below_alloc | apply pw_below_drewN | apply below_drew1) | exact HB.out)⟩
def tailracekit_Own.l0 : Nat → List (S39) → List (S39) → Int → Option ((List (S39)))
  | 0, _, _, _ => none
  | k + 1, x0, x3, x4 => if x4 < (x0.length : Int) then (if 0 ≤ x4 then (if ([] : List Int).length + ((rd_T39 x0 x4).f4).length < 17592186044416 then (if x3.length < 2932031007402 then (tailracekit_Own.l0 k x0 (x3 ++ [(⟨(rd_T39 x0 x4).f0, (rd_T39 x0 x4).f1, (rd_T39 x0 x4).f2, (rd_T39 x0 x4).f3, (([] : List Int) ++ ((rd_T39 x0 x4).f4))⟩ : S39)]) (wrap64 (x4 + 1))) else (none)) else (none)) else (none)) else (some x3)
def tailracekit_Own.f (k : Nat) (l0 : List (S39)) : Option ((List (S39))) := tailracekit_Own.l0 k l0 ([] : List (S39)) 0
end Go.Proofs.Ytnjlonenckifpaa.X
namespace Go.Proofs.Ytnjlonenckifpaa.X
set_option linter.unusedVariables false
set_option linter.unusedSimpArgs false
open Go.RowKit Go.Proofs.YtnjlonenckifpaaW.PrintWords Go.Proofs.YtnjlonenckifpaaW.PrintLast Go.Proofs.YtnjlonenckifpaaW.PrintMore
def badIn (x : Int) : Bool := decide (x < 0) || decide (32 ≤ x)
theorem may1_calls (x : Int) (w : World) : Calls Try.prog 53 #[.int .i64 x] w fun e w' => e = .returned (.bool (badIn x)) ∧ ∃ q', w' = w.drewN q' := by
  by_cases h : x < 0
  · go_enter Try.func53, Try.ntmps53
    go_wp2
    go_ret
    exact ⟨by simp [badIn, h], 0, rfl⟩
  · have h' : 0 ≤ x := by omega
    go_enter Try.func53, Try.ntmps53
    go_wp2
    go_ret
    exact ⟨by simp [badIn]; omega, 0, rfl⟩
def mayB (d : Int) (l : List Int) : Bool := decide (0 ≤ d) && decide (d ≤ 3) && decide (l.length ≤ 2) && !l.any badIn
def flow_may.f (_a _b _c d : Int) (l : List Int) : Option Bool := some (mayB d l)
set_option maxHeartbeats 2000000 in
theorem flow_may.calls (a0 a1 a2 a3 : Int) (A : Option Addr) (c : Nat) (l : List Int) (r : Bool) (w : World) (hr : Kd.C (Kd.int .i64) w A l.length l) (_hc : l.length ≤ c) (h : flow_may.f a0 a1 a2 a3 l = some r) :
    Calls Try.prog 44 #[.agg #[.int .u8 a0, .int .u8 a1, .int .i64 a2, .int .i64 a3, .slice A l.length c]] w fun e w' => e = .returned (.bool r) ∧ Below w.heap.size w w' := by
  have hm : r = mayB a3 l := by simpa [flow_may.f] using h.symm
  subst hm
  clear h _hc
  have HR := Aside0.mk hr
  have HLEN : l.length ≤ 9223372036854775807 := hr.2.1
  clear hr
  by_cases h1 : 0 ≤ a3
  · by_cases h2 : a3 ≤ 3
    · by_cases h3 : l.length ≤ 2
      · have h3' : (l.length : Int) ≤ 2 := by omega
        have hA : Asks 53 #[] badIn l (w.alloc (.cells #[.int .u8 a0, .int .u8 a1, .int .i64 a2, .int .i64 a3, .slice A l.length c] 39)) := fun j x _ q => may1_calls x _
        have HA := Aside0.mk hA
        clear hA
        have eg := enters_of Try.func53 (by kernel_rfl) rfl
        have hHB := Aside0.mk (Below.refl w.heap.size w)
        go_enter Try.func44, Try.ntmps44
        go_wp2_with (go_at_call 42; refine (contains_calls A c l 53 #[] badIn eg _ (Kd.C_alloc HR.out _) HA.out).mono ?_; rintro e w' ⟨rfl, q, rfl⟩)
        go_ret
        refine ⟨?_, pw_below_drewN (below_alloc hHB.out _) q⟩
        simp [mayB, h1, h2, h3]
      · have h3' : ¬ (l.length : Int) ≤ 2 := by omega
        have hHB := Aside0.mk (Below.refl w.heap.size w)
        go_enter Try.func44, Try.ntmps44
        go_wp2
        go_ret
        exact ⟨by simp [mayB, h3], below_alloc hHB.out _⟩
    · have hHB := Aside0.mk (Below.refl w.heap.size w)
      have h2' : ¬ a3 ≤ 3 := h2
      go_enter Try.func44, Try.ntmps44
      go_wp2
      go_ret
      exact ⟨by simp [mayB]; omega, below_alloc hHB.out _⟩
  · have hHB := Aside0.mk (Below.refl w.heap.size w)
    have h2' : ¬ 0 ≤ a3 := h1
    go_enter Try.func44, Try.ntmps44
    go_wp2
    go_ret
    exact ⟨by simp [mayB]; omega, below_alloc hHB.out _⟩
def wrongIn (G : List S39) (x : Int) : Bool := decide (x < 0) || decide ((G.length : Int) ≤ x) || ((rd_T39 G x).f0 == 10)
set_option maxHeartbeats 2000000 in
theorem wrong_calls (G : List S39) (x : Int) (A : Option Addr) (c : Nat) (gb : Nat) (w : World) (hb : w.cell? ⟨gb, 0, none⟩ = some (.slice A G.length c)) (hr : Kd.C k39 w A G.length G) :
    Calls Try.prog 40 #[.int .i64 x, .pointer (some ⟨gb, 0, none⟩)] w fun e w' => e = .returned (.bool (wrongIn G x)) ∧ ∃ q', w' = w.drewN q' := by
  have HR := Aside0.mk hr
  have HLEN : G.length ≤ 9223372036854775807 := hr.2.1
  clear hr
  by_cases h : x < 0
  · go_enter Try.func40, Try.ntmps40
    go_wp2
    go_ret
    exact ⟨by simp [wrongIn, h], 0, rfl⟩
  · have h' : 0 ≤ x := by omega
    by_cases h2 : (G.length : Int) ≤ x
    · go_enter Try.func40, Try.ntmps40
      go_wp2
      go_ret
      exact ⟨by simp [wrongIn, h2], 0, rfl⟩
    · have h2' : x < (G.length : Int) := by omega
      obtain ⟨ad, A4, c4, eA, q0, -⟩ := at_T39 HR.out x h' h2'
      subst eA
      generalize hk : (rd_T39 G x).f0 = kk at q0
      have HK := Aside0.mk hk
      clear hk
      have hd1 : decide ((G.length : Int) ≤ x) = false := by simpa using h2
      have hd2 : decide (x < 0) = false := by simpa using h
      have HP := Aside0.mk (show wrongIn G x = (kk == 10) by simp only [wrongIn, hd1, hd2, HK.out]; rfl)
      clear hd1 hd2
      go_enter Try.func40, Try.ntmps40
      go_wp2
      go_ret
      exact ⟨by rw [HP.out]; rfl, 0, rfl⟩
def arityI (k : Int) : Int := if k = 1 then 0 else if k = 4 then 2 else if k = 6 then 2 else 1
theorem arity_calls (k : Int) (w : World) : Calls Try.prog 41 #[.int .u8 k] w fun e w' => e = .returned (.int .i64 (arityI k)) ∧ ∃ m, w' = w.drewN m :=
  (check_arity.calls k (arityI k) w (by by_cases h1 : k = 1 <;> by_cases h2 : k = 4 <;> by_cases h3 : k = 6 <;> simp [check_arity.f, arityI, h1, h2, h3])).mono fun _ _ ⟨h, d⟩ => ⟨h, d.out⟩
def portsB (G : List S39) (kind : Int) (l : List Int) : Bool := ((l.length : Int) == arityI kind) && !l.any (wrongIn G)
def check_ports.f (G : List S39) (kind _b _c _d : Int) (l : List Int) : Option Bool := some (portsB G kind l)
set_option maxHeartbeats 4000000 in
theorem check_ports.calls (A : Option Addr) (c : Nat) (G : List S39) (a0 a1 a2 a3 : Int) (A4 : Option Addr) (c4 : Nat) (l : List Int) (r : Bool) (w : World) (hr : Kd.C k39 w A G.length G) (_hc : G.length ≤ c)
    (hr4 : Kd.C (Kd.int .i64) w A4 l.length l) (_hc4 : l.length ≤ c4) (h : check_ports.f G a0 a1 a2 a3 l = some r) :
    Calls Try.prog 25 #[.slice A G.length c, .agg #[.int .u8 a0, .int .u8 a1, .int .i64 a2, .int .i64 a3, .slice A4 l.length c4]] w fun e w' => e = .returned (.bool r) ∧ Below w.heap.size w w' := by
  have hm : r = portsB G a0 l := by simpa [check_ports.f] using h.symm
  subst hm
  clear h _hc _hc4
  have HR := Aside0.mk hr
  have HR4 := Aside0.mk hr4
  have HLEN : l.length ≤ 9223372036854775807 := hr4.2.1
  have HLEN2 : G.length ≤ 9223372036854775807 := hr.2.1
  clear hr hr4
  have hHB := Aside0.mk (Below.refl w.heap.size w)
  have hA : Asks 40 #[.pointer (some ⟨w.heap.size, 0, none⟩)] (wrongIn G) l ((w.alloc (.cells #[.slice A G.length c] 23)).alloc (.cells #[.int .u8 a0, .int .u8 a1, .int .i64 a2, .int .i64 a3, .slice A4 l.length c4] 39)) :=
    fun j x _ q => wrong_calls G x A c w.heap.size _ (by go_simp) (Kd.C_drewN (Kd.C_alloc (Kd.C_alloc HR.out _) _) _)
  have HA := Aside0.mk hA
  clear hA
  have eg := enters_of Try.func40 (by kernel_rfl) rfl
  by_cases h1 : (l.length : Int) = arityI a0
  · have hb1 : ((l.length : Int) == arityI a0) = true := beq_iff_eq.2 h1
    have HP := Aside0.mk (show portsB G a0 l = !l.any (wrongIn G) by simp [portsB, h1])
    clear h1
    have AC := fun W => arity_calls a0 W
    generalize arityI a0 = ar at hb1 AC
    go_enter Try.func25, Try.ntmps25
    go_wp2
    go_quiet ((first | (go_at_call 41; exact Calls.quiet_of (AC _)) | (go_at_call 42; exact Calls.quiet_of ((contains_calls A4 c4 l 40 #[.pointer (some ⟨w.heap.size, 0, none⟩)] (wrongIn G) eg _ (Kd.C_drewN (Kd.C_alloc (Kd.C_alloc HR4.out _) _) _) (HA.out.drewN _))))))
    go_wp2
    go_ret
    exact ⟨by rw [HP.out]; rfl, pw_below_drewN (below_alloc (below_alloc hHB.out _) _) _⟩
  · have hb1 : ((l.length : Int) == arityI a0) = false := beq_eq_false_iff_ne.2 h1
    have HP := Aside0.mk (show portsB G a0 l = false by simp [portsB, h1])
    clear h1
    have AC := fun W => arity_calls a0 W
    generalize arityI a0 = ar at hb1 AC
    go_enter Try.func25, Try.ntmps25
    go_wp2
    go_quiet ((go_at_call 41; exact Calls.quiet_of (AC _)))
    go_wp2
    go_ret
    exact ⟨by rw [HP.out]; rfl, pw_below_drewN (below_alloc (below_alloc hHB.out _) _) _⟩
end Go.Proofs.Ytnjlonenckifpaa.X
namespace Go.Proofs.Ytnjlonenckifpaa.X
set_option linter.unusedVariables false
set_option linter.unusedSimpArgs false
open Go.RowKit Go.Proofs.YtnjlonenckifpaaW.PrintWords Go.Proofs.YtnjlonenckifpaaW.PrintLast Go.Proofs.YtnjlonenckifpaaW.PrintMore
def inRange (G : List S39) (x : Int) : Bool := decide (0 ≤ x) && decide (x < (G.length : Int))
def offDepth (G : List S39) (fed x : Int) : Bool := (rd_T39 G x).f3 != fed
set_option maxHeartbeats 2000000 in
theorem off_calls (G : List S39) (x fed : Int) (h0 : 0 ≤ x) (h1 : x < (G.length : Int)) (A : Option Addr) (c : Nat) (gb fb : Nat) (w : World) (hb : w.cell? ⟨gb, 0, none⟩ = some (.slice A G.length c))
    (hf : w.cell? ⟨fb, 0, none⟩ = some (.int .i64 fed)) (hr : Kd.C k39 w A G.length G) :
    Calls Try.prog 43 #[.int .i64 x, .pointer (some ⟨gb, 0, none⟩), .pointer (some ⟨fb, 0, none⟩)] w fun e w' => e = .returned (.bool (offDepth G fed x)) ∧ ∃ q', w' = w.drewN q' := by
  have HR := Aside0.mk hr
  have HLEN : G.length ≤ 9223372036854775807 := hr.2.1
  clear hr
  obtain ⟨ad, A4, c4, eA, -, -, -, q3, -⟩ := at_T39 HR.out x h0 h1
  subst eA
  have HP := Aside0.mk (show offDepth G fed x = ((rd_T39 G x).f3 != fed) from rfl)
  generalize (rd_T39 G x).f3 = kk at q3 HP
  go_enter Try.func43, Try.ntmps43
  go_wp2
  go_quiet (fail)
  go_wp2
  go_ret
  exact ⟨by rw [HP.out]; rfl, _, rfl⟩
def fedI (k d : Int) : Int := if k = 7 then wrap64 (d - 1) else if k = 8 then wrap64 (d + 1) else d
def depthB (G : List S39) (k d : Int) (l : List Int) : Bool :=
  !(k == 9 && decide (d < 1)) && !((k == 1 || k == 10) && d != 0) && decide (0 ≤ d) && decide (d ≤ 3) && !l.any (offDepth G (fedI k d))
def check_depth.f (G : List S39) (k _b _c d : Int) (l : List Int) : Option Bool := if l.all (inRange G) = true then some (depthB G k d l) else none
theorem Asks.off {G : List S39} {A : Option Addr} {c : Nat} {l : List Int} {w W : World} (fed : Int) {gb fb : Nat} (hl : l.all (inRange G) = true)
    (hb : W.cell? ⟨gb, 0, none⟩ = some (.slice A G.length c)) (hf : W.cell? ⟨fb, 0, none⟩ = some (.int .i64 fed)) (hr : Kd.C k39 W A G.length G) :
    Asks 43 #[.pointer (some ⟨gb, 0, none⟩), .pointer (some ⟨fb, 0, none⟩)] (offDepth G fed) l W := fun j x hj q => by
  have hx := List.all_eq_true.1 hl x (List.mem_of_getElem? hj)
  simp only [inRange, Bool.and_eq_true, decide_eq_true_eq] at hx
  exact off_calls G x fed hx.1 hx.2 A c gb fb _ hb hf (Kd.C_drewN hr q)
set_option maxHeartbeats 8000000 in
theorem check_depth.calls (A : Option Addr) (c : Nat) (G : List S39) (a0 a1 a2 a3 : Int) (A4 : Option Addr) (c4 : Nat) (l : List Int) (r : Bool) (w : World) (hr : Kd.C k39 w A G.length G) (_hc : G.length ≤ c)
    (hr4 : Kd.C (Kd.int .i64) w A4 l.length l) (_hc4 : l.length ≤ c4) (h : check_depth.f G a0 a1 a2 a3 l = some r) :
    Calls Try.prog 26 #[.slice A G.length c, .agg #[.int .u8 a0, .int .u8 a1, .int .i64 a2, .int .i64 a3, .slice A4 l.length c4]] w fun e w' => e = .returned (.bool r) ∧ Below w.heap.size w w' := by
  have hm : l.all (inRange G) = true ∧ depthB G a0 a3 l = r := by simpa [check_depth.f] using h
  obtain ⟨hall, rfl⟩ := hm
  clear h _hc _hc4
  have HALL := Aside0.mk hall
  have HR := Aside0.mk hr
  have HR4 := Aside0.mk hr4
  have HLEN : l.length ≤ 9223372036854775807 := hr4.2.1
  have HLEN2 : G.length ≤ 9223372036854775807 := hr.2.1
  clear hr hr4 hall
  have hHB := Aside0.mk (Below.refl w.heap.size w)
  have eg := enters_of Try.func43 (by kernel_rfl) rfl
  have KEY : ∀ fed : Int, ∀ W : World, W = ((w.alloc (.cells #[.slice A G.length c] 23)).alloc (.cells #[.int .u8 a0, .int .u8 a1, .int .i64 a2, .int .i64 a3, .slice A4 l.length c4] 39)).alloc (.cells #[.int .i64 fed] 3) →
      Calls Try.prog 42 #[.slice A4 l.length c4, .func (.func 43) #[] #[.pointer (some ⟨w.heap.size, 0, none⟩), .pointer (some ⟨w.heap.size + 1 + 1, 0, none⟩)]] W fun e w' => e = .returned (.bool (l.any (offDepth G fed))) ∧ ∃ q, w' = W.drewN q := by
    rintro fed W rfl
    exact contains_calls A4 c4 l 43 _ (offDepth G fed) eg _ (Kd.C_alloc (Kd.C_alloc (Kd.C_alloc HR4.out _) _) _) (Asks.off (A := A) (c := c) (w := w) fed HALL.out (by go_simp) (by go_simp) (Kd.C_alloc (Kd.C_alloc (Kd.C_alloc HR.out _) _) _))
  have HKEY := Aside0.mk KEY
  clear KEY eg
  by_cases k7 : a0 = 7
  · subst k7
    by_cases d0 : 0 ≤ a3
    · by_cases d3 : a3 ≤ 3
      · have HP := Aside0.mk (show depthB G 7 a3 l = !l.any (offDepth G (a3 - 1)) by
          have : wrap64 (a3 - 1) = a3 - 1 := IntWalk.wrap64_in _ ⟨by omega, by omega⟩
          simp [depthB, fedI, d0, d3, this])
        go_enter Try.func26, Try.ntmps26
        go_wp2_with (go_at_call 42; refine (HKEY.out _ _ rfl).mono ?_; rintro e w' ⟨rfl, q, rfl⟩)
        go_ret
        exact ⟨by rw [HP.out]; rfl, pw_below_drewN (below_alloc (below_alloc (below_alloc hHB.out _) _) _) _⟩
      · have d3' : 3 < a3 := by omega
        have HP := Aside0.mk (show depthB G 7 a3 l = false by simp [depthB, d3])
        go_enter Try.func26, Try.ntmps26
        go_wp2
        go_ret
        exact ⟨by rw [HP.out]; rfl, below_alloc (below_alloc (below_alloc hHB.out _) _) _⟩
    · have d0' : a3 < 0 := by omega
      have HP := Aside0.mk (show depthB G 7 a3 l = false by simp [depthB, d0])
      go_enter Try.func26, Try.ntmps26
      go_wp2
      go_ret
      exact ⟨by rw [HP.out]; rfl, below_alloc (below_alloc (below_alloc hHB.out _) _) _⟩
  by_cases k8 : a0 = 8
  · subst k8
    by_cases d0 : 0 ≤ a3
    · by_cases d3 : a3 ≤ 3
      · have HP := Aside0.mk (show depthB G 8 a3 l = !l.any (offDepth G (a3 + 1)) by
          have : wrap64 (a3 + 1) = a3 + 1 := IntWalk.wrap64_in _ ⟨by omega, by omega⟩
          simp [depthB, fedI, d0, d3, this])
        go_enter Try.func26, Try.ntmps26
        go_wp2_with (go_at_call 42; refine (HKEY.out _ _ rfl).mono ?_; rintro e w' ⟨rfl, q, rfl⟩)
        go_ret
        exact ⟨by rw [HP.out]; rfl, pw_below_drewN (below_alloc (below_alloc (below_alloc hHB.out _) _) _) _⟩
      · have d3' : 3 < a3 := by omega
        have HP := Aside0.mk (show depthB G 8 a3 l = false by simp [depthB, d3])
        go_enter Try.func26, Try.ntmps26
        go_wp2
        go_ret
        exact ⟨by rw [HP.out]; rfl, below_alloc (below_alloc (below_alloc hHB.out _) _) _⟩
    · have d0' : a3 < 0 := by omega
      have HP := Aside0.mk (show depthB G 8 a3 l = false by simp [depthB, d0])
      go_enter Try.func26, Try.ntmps26
      go_wp2
      go_ret
      exact ⟨by rw [HP.out]; rfl, below_alloc (below_alloc (below_alloc hHB.out _) _) _⟩
  by_cases k9 : a0 = 9
  · subst k9
    by_cases d1 : a3 < 1
    · have HP := Aside0.mk (show depthB G 9 a3 l = false by simp [depthB, d1])
      go_enter Try.func26, Try.ntmps26
      go_wp2
      go_ret
      exact ⟨by rw [HP.out]; rfl, below_alloc (below_alloc (below_alloc hHB.out _) _) _⟩
    · have d1' : 1 ≤ a3 := by omega
      have d0 : 0 ≤ a3 := by omega
      by_cases d3 : a3 ≤ 3
      · have HP := Aside0.mk (show depthB G 9 a3 l = !l.any (offDepth G a3) by simp [depthB, fedI, d0, d1, d3])
        go_enter Try.func26, Try.ntmps26
        go_wp2_with (go_at_call 42; refine (HKEY.out _ _ rfl).mono ?_; rintro e w' ⟨rfl, q, rfl⟩)
        go_ret
        exact ⟨by rw [HP.out]; rfl, pw_below_drewN (below_alloc (below_alloc (below_alloc hHB.out _) _) _) _⟩
      · have d3' : 3 < a3 := by omega
        have HP := Aside0.mk (show depthB G 9 a3 l = false by simp [depthB, d3])
        go_enter Try.func26, Try.ntmps26
        go_wp2
        go_ret
        exact ⟨by rw [HP.out]; rfl, below_alloc (below_alloc (below_alloc hHB.out _) _) _⟩
  by_cases k1 : a0 = 1
  · subst k1
    by_cases d1 : a3 = 0
    · subst d1
      have HP := Aside0.mk (show depthB G 1 0 l = !l.any (offDepth G 0) by simp [depthB, fedI])
      go_enter Try.func26, Try.ntmps26
      go_wp2_with (go_at_call 42; refine (HKEY.out _ _ rfl).mono ?_; rintro e w' ⟨rfl, q, rfl⟩)
      go_ret
      exact ⟨by rw [HP.out]; rfl, pw_below_drewN (below_alloc (below_alloc (below_alloc hHB.out _) _) _) _⟩
    · have d1b : (a3 != 0) = true := bne_iff_ne.2 d1
      have HP := Aside0.mk (show depthB G 1 a3 l = false by simp [depthB, d1])
      clear d1
      go_enter Try.func26, Try.ntmps26
      go_wp2
      go_ret
      exact ⟨by rw [HP.out]; rfl, below_alloc (below_alloc (below_alloc hHB.out _) _) _⟩
  by_cases k10 : a0 = 10
  · subst k10
    by_cases d1 : a3 = 0
    · subst d1
      have HP := Aside0.mk (show depthB G 10 0 l = !l.any (offDepth G 0) by simp [depthB, fedI])
      go_enter Try.func26, Try.ntmps26
      go_wp2_with (go_at_call 42; refine (HKEY.out _ _ rfl).mono ?_; rintro e w' ⟨rfl, q, rfl⟩)
      go_ret
      exact ⟨by rw [HP.out]; rfl, pw_below_drewN (below_alloc (below_alloc (below_alloc hHB.out _) _) _) _⟩
    · have d1b : (a3 != 0) = true := bne_iff_ne.2 d1
      have HP := Aside0.mk (show depthB G 10 a3 l = false by simp [depthB, d1])
      clear d1
      go_enter Try.func26, Try.ntmps26
      go_wp2
      go_ret
      exact ⟨by rw [HP.out]; rfl, below_alloc (below_alloc (below_alloc hHB.out _) _) _⟩
  have b7 : (a0 == 7) = false := beq_eq_false_iff_ne.2 k7
  have b8 : (a0 == 8) = false := beq_eq_false_iff_ne.2 k8
  have b9 : (a0 == 9) = false := beq_eq_false_iff_ne.2 k9
  have b1 : (a0 == 1) = false := beq_eq_false_iff_ne.2 k1
  have b10 : (a0 == 10) = false := beq_eq_false_iff_ne.2 k10
  have HF := Aside0.mk (show fedI a0 a3 = a3 by simp [fedI, k7, k8])
  clear k7 k8 k9 k1 k10
  by_cases d0 : 0 ≤ a3
  · by_cases d3 : a3 ≤ 3
    · have HP := Aside0.mk (show depthB G a0 a3 l = !l.any (offDepth G a3) by
        rw [depthB, HF.out]; simp [d0, d3, b9, b1, b10])
      go_enter Try.func26, Try.ntmps26
      go_wp2_with (go_at_call 42; refine (HKEY.out _ _ rfl).mono ?_; rintro e w' ⟨rfl, q, rfl⟩)
      go_ret
      exact ⟨by rw [HP.out]; rfl, pw_below_drewN (below_alloc (below_alloc (below_alloc hHB.out _) _) _) _⟩
    · have d3' : 3 < a3 := by omega
      have HP := Aside0.mk (show depthB G a0 a3 l = false by simp [depthB, d3])
      go_enter Try.func26, Try.ntmps26
      go_wp2
      go_ret
      exact ⟨by rw [HP.out]; rfl, below_alloc (below_alloc (below_alloc hHB.out _) _) _⟩
  · have d0' : a3 < 0 := by omega
    have HP := Aside0.mk (show depthB G a0 a3 l = false by simp [depthB, d0])
    go_enter Try.func26, Try.ntmps26
    go_wp2
    go_ret
    exact ⟨by rw [HP.out]; rfl, below_alloc (below_alloc (below_alloc hHB.out _) _) _⟩
end Go.Proofs.Ytnjlonenckifpaa.X
namespace Go.Proofs.Ytnjlonenckifpaa.X
open Go.RowKit Go.Proofs.YtnjlonenckifpaaW.PrintWords Go.Proofs.YtnjlonenckifpaaW.PrintLast Go.Proofs.YtnjlonenckifpaaW.PrintMore
set_option linter.unusedVariables false
set_option linter.unusedSimpArgs false
def check_numbers_1.f (a0_0 : Int) (a0_1 : Int) (a0_2 : Int) (a0_3 : Int) (l0_4 : List Int) : Option (Bool) := if a0_1 ≤ 3 then (if a0_1 < 3 then (some true) else (some (decide (a0_2 > 0)))) else (some false)
set_option maxHeartbeats 8000000 in
set_option maxRecDepth 100000 in
theorem check_numbers_1.calls (a0_0 : Int) (a0_1 : Int) (a0_2 : Int) (a0_3 : Int) (A0_4 : Option Addr) (c0_4 : Nat) (l0_4 : List Int) (r : Bool) (w : World) (hr0_4 : Kd.C (Kd.int .i64) w A0_4 l0_4.length l0_4) (hc0_4 : l0_4.length ≤ c0_4) (h : check_numbers_1.f a0_0 a0_1 a0_2 a0_3 l0_4 = some r) :
    Calls Try.prog 35 #[.agg #[.int .u8 a0_0, .int .u8 a0_1, .int .i64 a0_2, .int .i64 a0_3, .slice A0_4 l0_4.length c0_4]] w fun e w' => e = .returned (.bool r) ∧ Below w.heap.size w w' := by
  have hu39 := Try.underlying39
  have HR0_4 := Aside0.mk hr0_4
  have HC0_4 := Aside0.mk hc0_4
  clear hr0_4 hc0_4
  have HB := Aside0.mk (Below.refl w.heap.size w)
  have H : (if a0_1 ≤ 3 then (if a0_1 < 3 then (some true) else (some (decide (a0_2 > 0)))) else (some false)) = some r := h
  clear h
  by_cases c2 : a0_1 ≤ 3
  · rw [if_pos c2] at H
    have c2b0 : decide (a0_1 ≤ 3) = true := decide_eq_true c2
    clear c2
    by_cases c3 : a0_1 < 3
    · rw [if_pos c3] at H
      have c3b0 : decide (a0_1 < 3) = true := decide_eq_true c3
      clear c3
      obtain rfl := Option.some.inj H
      go_enter Try.func35, Try.ntmps35
      go_wp2_with (first | ((with_reducible refine gate_dst (N := 1) rfl ?_); refine box_event ?hg (N := 1) ?hd (cs := #[.int .u8 a0_0, .int .u8 a0_1, .int .i64 a0_2, .int .i64 a0_3, .slice A0_4 l0_4.length c0_4]) (t := 39) ?hr ?_; (case hd => rfl); (case hg => rfl); (case hr => first | (go_simp; done) | (go_simp; rfl)); intro gb101 hg w4 hbox hb; have n0_ := Aside0.mk (below_step (by repeat (first | (with_reducible first | exact HB.out | apply below_alloc | apply pw_below_drewN | apply below_drew1) | exact HB.out)) hb); have n1_ := Aside0.mk (hbox); have n2_ := Aside0.mk ((by rw [hg]; exact (below_size (by repeat (first | (with_reducible first | exact HB.out | apply below_alloc | apply pw_below_drewN | apply below_drew1) | exact HB.out))) : w.heap.size ≤ gb101)); have n3_ := Aside0.mk ((by rw [hg]; exact (below_size (by repeat (first | (with_reducible first | exact HB.out | apply below_alloc | apply pw_below_drewN | apply below_drew1) | exact HB.out))) : w.heap.size ≤ gb101)); clear HB; have HB := n0_; have BK101 := n1_; have GW101 := n2_; have GE101 := n3_; clear n0_ n1_ n2_ n3_; clear hb hbox hg; have hcz5_0 : w4.cell? ⟨gb101, 0, none⟩ = some (.int .u8 a0_0) := (blk_cell BK101.out 0).trans rfl; have hcz5_1 : w4.cell? ⟨gb101, 1, none⟩ = some (.int .u8 a0_1) := (blk_cell BK101.out 1).trans rfl; have hcz5_2 : w4.cell? ⟨gb101, 2, none⟩ = some (.int .i64 a0_2) := (blk_cell BK101.out 2).trans rfl; have hcz5_3 : w4.cell? ⟨gb101, 3, none⟩ = some (.int .i64 a0_3) := (blk_cell BK101.out 3).trans rfl; have hcz5_4 : w4.cell? ⟨gb101, 4, none⟩ = some (.slice A0_4 l0_4.length c0_4) := (blk_cell BK101.out 4).trans rfl; have hfz5_0 := blk_frozen BK101.out 0; have hfz5_1 := blk_frozen BK101.out 1; have hfz5_2 := blk_frozen BK101.out 2; have hfz5_3 := blk_frozen BK101.out 3; have hfz5_4 := blk_frozen BK101.out 4))
      go_ret
      exact ⟨by first | rfl | (simp [errW_none, errW_some] <;> rfl) | (simp [*, errW_none, errW_some] <;> rfl), by repeat (first | (with_reducible first | exact HB.out | apply below_alloc | apply pw_below_drewN | apply below_drew1 | refine below_set ?_ GE101.out) | exact HB.out)⟩
    · rw [if_neg c3] at H
      have c3b0 : decide (a0_1 < 3) = false := decide_eq_false c3
      clear c3
      obtain rfl := Option.some.inj H
      go_enter Try.func35, Try.ntmps35
      go_wp2_with (first | ((with_reducible refine gate_dst (N := 1) rfl ?_); refine box_event ?hg (N := 1) ?hd (cs := #[.int .u8 a0_0, .int .u8 a0_1, .int .i64 a0_2, .int .i64 a0_3, .slice A0_4 l0_4.length c0_4]) (t := 39) ?hr ?_; (case hd => rfl); (case hg => rfl); (case hr => first | (go_simp; done) | (go_simp; rfl)); intro gb101 hg w6 hbox hb; have n0_ := Aside0.mk (below_step (by repeat (first | (with_reducible first | exact HB.out | apply below_alloc | apply pw_below_drewN | apply below_drew1) | exact HB.out)) hb); have n1_ := Aside0.mk (hbox); have n2_ := Aside0.mk ((by rw [hg]; exact (below_size (by repeat (first | (with_reducible first | exact HB.out | apply below_alloc | apply pw_below_drewN | apply below_drew1) | exact HB.out))) : w.heap.size ≤ gb101)); have n3_ := Aside0.mk ((by rw [hg]; exact (below_size (by repeat (first | (with_reducible first | exact HB.out | apply below_alloc | apply pw_below_drewN | apply below_drew1) | exact HB.out))) : w.heap.size ≤ gb101)); clear HB; have HB := n0_; have BK101 := n1_; have GW101 := n2_; have GE101 := n3_; clear n0_ n1_ n2_ n3_; clear hb hbox hg; have hcz7_0 : w6.cell? ⟨gb101, 0, none⟩ = some (.int .u8 a0_0) := (blk_cell BK101.out 0).trans rfl; have hcz7_1 : w6.cell? ⟨gb101, 1, none⟩ = some (.int .u8 a0_1) := (blk_cell BK101.out 1).trans rfl; have hcz7_2 : w6.cell? ⟨gb101, 2, none⟩ = some (.int .i64 a0_2) := (blk_cell BK101.out 2).trans rfl; have hcz7_3 : w6.cell? ⟨gb101, 3, none⟩ = some (.int .i64 a0_3) := (blk_cell BK101.out 3).trans rfl; have hcz7_4 : w6.cell? ⟨gb101, 4, none⟩ = some (.slice A0_4 l0_4.length c0_4) := (blk_cell BK101.out 4).trans rfl; have hfz7_0 := blk_frozen BK101.out 0; have hfz7_1 := blk_frozen BK101.out 1; have hfz7_2 := blk_frozen BK101.out 2; have hfz7_3 := blk_frozen BK101.out 3; have hfz7_4 := blk_frozen BK101.out 4))
      go_ret
      exact ⟨by first | rfl | (simp [errW_none, errW_some] <;> rfl) | (simp [*, errW_none, errW_some] <;> rfl), by repeat (first | (with_reducible first | exact HB.out | apply below_alloc | apply pw_below_drewN | apply below_drew1 | refine below_set ?_ GE101.out) | exact HB.out)⟩
  · rw [if_neg c2] at H
    have c2b0 : decide (a0_1 ≤ 3) = false := decide_eq_false c2
    clear c2
    obtain rfl := Option.some.inj H
    go_enter Try.func35, Try.ntmps35
    go_wp2_with (first | ((with_reducible refine gate_dst (N := 1) rfl ?_); refine box_event ?hg (N := 1) ?hd (cs := #[.int .u8 a0_0, .int .u8 a0_1, .int .i64 a0_2, .int .i64 a0_3, .slice A0_4 l0_4.length c0_4]) (t := 39) ?hr ?_; (case hd => rfl); (case hg => rfl); (case hr => first | (go_simp; done) | (go_simp; rfl)); intro gb101 hg w8 hbox hb; have n0_ := Aside0.mk (below_step (by repeat (first | (with_reducible first | exact HB.out | apply below_alloc | apply pw_below_drewN | apply below_drew1) | exact HB.out)) hb); have n1_ := Aside0.mk (hbox); have n2_ := Aside0.mk ((by rw [hg]; exact (below_size (by repeat (first | (with_reducible first | exact HB.out | apply below_alloc | apply pw_below_drewN | apply below_drew1) | exact HB.out))) : w.heap.size ≤ gb101)); have n3_ := Aside0.mk ((by rw [hg]; exact (below_size (by repeat (first | (with_reducible first | exact HB.out | apply below_alloc | apply pw_below_drewN | apply below_drew1) | exact HB.out))) : w.heap.size ≤ gb101)); clear HB; have HB := n0_; have BK101 := n1_; have GW101 := n2_; have GE101 := n3_; clear n0_ n1_ n2_ n3_; clear hb hbox hg; have hcz9_0 : w8.cell? ⟨gb101, 0, none⟩ = some (.int .u8 a0_0) := (blk_cell BK101.out 0).trans rfl; have hcz9_1 : w8.cell? ⟨gb101, 1, none⟩ = some (.int .u8 a0_1) := (blk_cell BK101.out 1).trans rfl; have hcz9_2 : w8.cell? ⟨gb101, 2, none⟩ = some (.int .i64 a0_2) := (blk_cell BK101.out 2).trans rfl; have hcz9_3 : w8.cell? ⟨gb101, 3, none⟩ = some (.int .i64 a0_3) := (blk_cell BK101.out 3).trans rfl; have hcz9_4 : w8.cell? ⟨gb101, 4, none⟩ = some (.slice A0_4 l0_4.length c0_4) := (blk_cell BK101.out 4).trans rfl; have hfz9_0 := blk_frozen BK101.out 0; have hfz9_1 := blk_frozen BK101.out 1; have hfz9_2 := blk_frozen BK101.out 2; have hfz9_3 := blk_frozen BK101.out 3; have hfz9_4 := blk_frozen BK101.out 4))
    go_ret
    exact ⟨by first | rfl | (simp [errW_none, errW_some] <;> rfl) | (simp [*, errW_none, errW_some] <;> rfl), by repeat (first | (with_reducible first | exact HB.out | apply below_alloc | apply pw_below_drewN | apply below_drew1 | refine below_set ?_ GE101.out) | exact HB.out)⟩
def check_numbers_2.f (a0_0 : Int) (a0_1 : Int) (a0_2 : Int) (a0_3 : Int) (l0_4 : List Int) : Option (Bool) := if a0_1 ≤ 2 then (if a0_1 = 1 then (some (decide (a0_2 > 0))) else (some true)) else (some false)
set_option maxHeartbeats 8000000 in
set_option maxRecDepth 100000 in
theorem check_numbers_2.calls (a0_0 : Int) (a0_1 : Int) (a0_2 : Int) (a0_3 : Int) (A0_4 : Option Addr) (c0_4 : Nat) (l0_4 : List Int) (r : Bool) (w : World) (hr0_4 : Kd.C (Kd.int .i64) w A0_4 l0_4.length l0_4) (hc0_4 : l0_4.length ≤ c0_4) (h : check_numbers_2.f a0_0 a0_1 a0_2 a0_3 l0_4 = some r) :
    Calls Try.prog 36 #[.agg #[.int .u8 a0_0, .int .u8 a0_1, .int .i64 a0_2, .int .i64 a0_3, .slice A0_4 l0_4.length c0_4]] w fun e w' => e = .returned (.bool r) ∧ Below w.heap.size w w' := by
  have hu39 := Try.underlying39
  have HR0_4 := Aside0.mk hr0_4
  have HC0_4 := Aside0.mk hc0_4
  clear hr0_4 hc0_4
  have HB := Aside0.mk (Below.refl w.heap.size w)
  have H : (if a0_1 ≤ 2 then (if a0_1 = 1 then (some (decide (a0_2 > 0))) else (some true)) else (some false)) = some r := h
  clear h
  by_cases c2 : a0_1 ≤ 2
  · rw [if_pos c2] at H
    have c2b0 : decide (a0_1 ≤ 2) = true := decide_eq_true c2
    clear c2
    by_cases c3 : a0_1 = 1
    · rw [if_pos c3] at H
      have c3b0 : (a0_1 == 1) = true := beq_iff_eq.mpr c3
      have c3b1 : (a0_1 != 1) = false := bne_eq_false_iff_eq.mpr c3
      clear c3
      obtain rfl := Option.some.inj H
      go_enter Try.func36, Try.ntmps36
      go_wp2_with (first | ((with_reducible refine gate_dst (N := 1) rfl ?_); refine box_event ?hg (N := 1) ?hd (cs := #[.int .u8 a0_0, .int .u8 a0_1, .int .i64 a0_2, .int .i64 a0_3, .slice A0_4 l0_4.length c0_4]) (t := 39) ?hr ?_; (case hd => rfl); (case hg => rfl); (case hr => first | (go_simp; done) | (go_simp; rfl)); intro gb102 hg w4 hbox hb; have n0_ := Aside0.mk (below_step (by repeat (first | (with_reducible first | exact HB.out | apply below_alloc | apply pw_below_drewN | apply below_drew1) | exact HB.out)) hb); have n1_ := Aside0.mk (hbox); have n2_ := Aside0.mk ((by rw [hg]; exact (below_size (by repeat (first | (with_reducible first | exact HB.out | apply below_alloc | apply pw_below_drewN | apply below_drew1) | exact HB.out))) : w.heap.size ≤ gb102)); have n3_ := Aside0.mk ((by rw [hg]; exact (below_size (by repeat (first | (with_reducible first | exact HB.out | apply below_alloc | apply pw_below_drewN | apply below_drew1) | exact HB.out))) : w.heap.size ≤ gb102)); clear HB; have HB := n0_; have BK102 := n1_; have GW102 := n2_; have GE102 := n3_; clear n0_ n1_ n2_ n3_; clear hb hbox hg; have hcz5_0 : w4.cell? ⟨gb102, 0, none⟩ = some (.int .u8 a0_0) := (blk_cell BK102.out 0).trans rfl; have hcz5_1 : w4.cell? ⟨gb102, 1, none⟩ = some (.int .u8 a0_1) := (blk_cell BK102.out 1).trans rfl; have hcz5_2 : w4.cell? ⟨gb102, 2, none⟩ = some (.int .i64 a0_2) := (blk_cell BK102.out 2).trans rfl; have hcz5_3 : w4.cell? ⟨gb102, 3, none⟩ = some (.int .i64 a0_3) := (blk_cell BK102.out 3).trans rfl; have hcz5_4 : w4.cell? ⟨gb102, 4, none⟩ = some (.slice A0_4 l0_4.length c0_4) := (blk_cell BK102.out 4).trans rfl; have hfz5_0 := blk_frozen BK102.out 0; have hfz5_1 := blk_frozen BK102.out 1; have hfz5_2 := blk_frozen BK102.out 2; have hfz5_3 := blk_frozen BK102.out 3; have hfz5_4 := blk_frozen BK102.out 4))
      go_ret
      exact ⟨by first | rfl | (simp [errW_none, errW_some] <;> rfl) | (simp [*, errW_none, errW_some] <;> rfl), by repeat (first | (with_reducible first | exact HB.out | apply below_alloc | apply pw_below_drewN | apply below_drew1 | refine below_set ?_ GE102.out) | exact HB.out)⟩
    · rw [if_neg c3] at H
      have c3b0 : (a0_1 == 1) = false := beq_eq_false_iff_ne.mpr c3
      have c3b1 : (a0_1 != 1) = true := bne_iff_ne.mpr c3
      obtain rfl := Option.some.inj H
      go_enter Try.func36, Try.ntmps36
      go_wp2_with (first | ((with_reducible refine gate_dst (N := 1) rfl ?_); refine box_event ?hg (N := 1) ?hd (cs := #[.int .u8 a0_0, .int .u8 a0_1, .int .i64 a0_2, .int .i64 a0_3, .slice A0_4 l0_4.length c0_4]) (t := 39) ?hr ?_; (case hd => rfl); (case hg => rfl); (case hr => first | (go_simp; done) | (go_simp; rfl)); intro gb102 hg w6 hbox hb; have n0_ := Aside0.mk (below_step (by repeat (first | (with_reducible first | exact HB.out | apply below_alloc | apply pw_below_drewN | apply below_drew1) | exact HB.out)) hb); have n1_ := Aside0.mk (hbox); have n2_ := Aside0.mk ((by rw [hg]; exact (below_size (by repeat (first | (with_reducible first | exact HB.out | apply below_alloc | apply pw_below_drewN | apply below_drew1) | exact HB.out))) : w.heap.size ≤ gb102)); have n3_ := Aside0.mk ((by rw [hg]; exact (below_size (by repeat (first | (with_reducible first | exact HB.out | apply below_alloc | apply pw_below_drewN | apply below_drew1) | exact HB.out))) : w.heap.size ≤ gb102)); clear HB; have HB := n0_; have BK102 := n1_; have GW102 := n2_; have GE102 := n3_; clear n0_ n1_ n2_ n3_; clear hb hbox hg; have hcz7_0 : w6.cell? ⟨gb102, 0, none⟩ = some (.int .u8 a0_0) := (blk_cell BK102.out 0).trans rfl; have hcz7_1 : w6.cell? ⟨gb102, 1, none⟩ = some (.int .u8 a0_1) := (blk_cell BK102.out 1).trans rfl; have hcz7_2 : w6.cell? ⟨gb102, 2, none⟩ = some (.int .i64 a0_2) := (blk_cell BK102.out 2).trans rfl; have hcz7_3 : w6.cell? ⟨gb102, 3, none⟩ = some (.int .i64 a0_3) := (blk_cell BK102.out 3).trans rfl; have hcz7_4 : w6.cell? ⟨gb102, 4, none⟩ = some (.slice A0_4 l0_4.length c0_4) := (blk_cell BK102.out 4).trans rfl; have hfz7_0 := blk_frozen BK102.out 0; have hfz7_1 := blk_frozen BK102.out 1; have hfz7_2 := blk_frozen BK102.out 2; have hfz7_3 := blk_frozen BK102.out 3; have hfz7_4 := blk_frozen BK102.out 4))
      go_ret
      exact ⟨by first | rfl | (simp [errW_none, errW_some] <;> rfl) | (simp [*, errW_none, errW_some] <;> rfl), by repeat (first | (with_reducible first | exact HB.out | apply below_alloc | apply pw_below_drewN | apply below_drew1 | refine below_set ?_ GE102.out) | exact HB.out)⟩
  · rw [if_neg c2] at H
    have c2b0 : decide (a0_1 ≤ 2) = false := decide_eq_false c2
    clear c2
    obtain rfl := Option.some.inj H
    go_enter Try.func36, Try.ntmps36
    go_wp2_with (first | ((with_reducible refine gate_dst (N := 1) rfl ?_); refine box_event ?hg (N := 1) ?hd (cs := #[.int .u8 a0_0, .int .u8 a0_1, .int .i64 a0_2, .int .i64 a0_3, .slice A0_4 l0_4.length c0_4]) (t := 39) ?hr ?_; (case hd => rfl); (case hg => rfl); (case hr => first | (go_simp; done) | (go_simp; rfl)); intro gb102 hg w8 hbox hb; have n0_ := Aside0.mk (below_step (by repeat (first | (with_reducible first | exact HB.out | apply below_alloc | apply pw_below_drewN | apply below_drew1) | exact HB.out)) hb); have n1_ := Aside0.mk (hbox); have n2_ := Aside0.mk ((by rw [hg]; exact (below_size (by repeat (first | (with_reducible first | exact HB.out | apply below_alloc | apply pw_below_drewN | apply below_drew1) | exact HB.out))) : w.heap.size ≤ gb102)); have n3_ := Aside0.mk ((by rw [hg]; exact (below_size (by repeat (first | (with_reducible first | exact HB.out | apply below_alloc | apply pw_below_drewN | apply below_drew1) | exact HB.out))) : w.heap.size ≤ gb102)); clear HB; have HB := n0_; have BK102 := n1_; have GW102 := n2_; have GE102 := n3_; clear n0_ n1_ n2_ n3_; clear hb hbox hg; have hcz9_0 : w8.cell? ⟨gb102, 0, none⟩ = some (.int .u8 a0_0) := (blk_cell BK102.out 0).trans rfl; have hcz9_1 : w8.cell? ⟨gb102, 1, none⟩ = some (.int .u8 a0_1) := (blk_cell BK102.out 1).trans rfl; have hcz9_2 : w8.cell? ⟨gb102, 2, none⟩ = some (.int .i64 a0_2) := (blk_cell BK102.out 2).trans rfl; have hcz9_3 : w8.cell? ⟨gb102, 3, none⟩ = some (.int .i64 a0_3) := (blk_cell BK102.out 3).trans rfl; have hcz9_4 : w8.cell? ⟨gb102, 4, none⟩ = some (.slice A0_4 l0_4.length c0_4) := (blk_cell BK102.out 4).trans rfl; have hfz9_0 := blk_frozen BK102.out 0; have hfz9_1 := blk_frozen BK102.out 1; have hfz9_2 := blk_frozen BK102.out 2; have hfz9_3 := blk_frozen BK102.out 3; have hfz9_4 := blk_frozen BK102.out 4))
    go_ret
    exact ⟨by first | rfl | (simp [errW_none, errW_some] <;> rfl) | (simp [*, errW_none, errW_some] <;> rfl), by repeat (first | (with_reducible first | exact HB.out | apply below_alloc | apply pw_below_drewN | apply below_drew1 | refine below_set ?_ GE102.out) | exact HB.out)⟩
def check_numbers_3.f (a0_0 : Int) (a0_1 : Int) (a0_2 : Int) (a0_3 : Int) (l0_4 : List Int) : Option (Bool) := if a0_1 ≤ 3 then (some (a0_2 == 0)) else (some false)
set_option maxHeartbeats 8000000 in
set_option maxRecDepth 100000 in
theorem check_numbers_3.calls (a0_0 : Int) (a0_1 : Int) (a0_2 : Int) (a0_3 : Int) (A0_4 : Option Addr) (c0_4 : Nat) (l0_4 : List Int) (r : Bool) (w : World) (hr0_4 : Kd.C (Kd.int .i64) w A0_4 l0_4.length l0_4) (hc0_4 : l0_4.length ≤ c0_4) (h : check_numbers_3.f a0_0 a0_1 a0_2 a0_3 l0_4 = some r) :
    Calls Try.prog 37 #[.agg #[.int .u8 a0_0, .int .u8 a0_1, .int .i64 a0_2, .int .i64 a0_3, .slice A0_4 l0_4.length c0_4]] w fun e w' => e = .returned (.bool r) ∧ Below w.heap.size w w' := by
  have hu39 := Try.underlying39
  have HR0_4 := Aside0.mk hr0_4
  have HC0_4 := Aside0.mk hc0_4
  clear hr0_4 hc0_4
  have HB := Aside0.mk (Below.refl w.heap.size w)
  have H : (if a0_1 ≤ 3 then (some (a0_2 == 0)) else (some false)) = some r := h
  clear h
  by_cases c2 : a0_1 ≤ 3
  · rw [if_pos c2] at H
    have c2b0 : decide (a0_1 ≤ 3) = true := decide_eq_true c2
    clear c2
    obtain rfl := Option.some.inj H
    go_enter Try.func37, Try.ntmps37
    go_wp2_with (first | ((with_reducible refine gate_dst (N := 1) rfl ?_); refine box_event ?hg (N := 1) ?hd (cs := #[.int .u8 a0_0, .int .u8 a0_1, .int .i64 a0_2, .int .i64 a0_3, .slice A0_4 l0_4.length c0_4]) (t := 39) ?hr ?_; (case hd => rfl); (case hg => rfl); (case hr => first | (go_simp; done) | (go_simp; rfl)); intro gb103 hg w3 hbox hb; have n0_ := Aside0.mk (below_step (by repeat (first | (with_reducible first | exact HB.out | apply below_alloc | apply pw_below_drewN | apply below_drew1) | exact HB.out)) hb); have n1_ := Aside0.mk (hbox); have n2_ := Aside0.mk ((by rw [hg]; exact (below_size (by repeat (first | (with_reducible first | exact HB.out | apply below_alloc | apply pw_below_drewN | apply below_drew1) | exact HB.out))) : w.heap.size ≤ gb103)); have n3_ := Aside0.mk ((by rw [hg]; exact (below_size (by repeat (first | (with_reducible first | exact HB.out | apply below_alloc | apply pw_below_drewN | apply below_drew1) | exact HB.out))) : w.heap.size ≤ gb103)); clear HB; have HB := n0_; have BK103 := n1_; have GW103 := n2_; have GE103 := n3_; clear n0_ n1_ n2_ n3_; clear hb hbox hg; have hcz4_0 : w3.cell? ⟨gb103, 0, none⟩ = some (.int .u8 a0_0) := (blk_cell BK103.out 0).trans rfl; have hcz4_1 : w3.cell? ⟨gb103, 1, none⟩ = some (.int .u8 a0_1) := (blk_cell BK103.out 1).trans rfl; have hcz4_2 : w3.cell? ⟨gb103, 2, none⟩ = some (.int .i64 a0_2) := (blk_cell BK103.out 2).trans rfl; have hcz4_3 : w3.cell? ⟨gb103, 3, none⟩ = some (.int .i64 a0_3) := (blk_cell BK103.out 3).trans rfl; have hcz4_4 : w3.cell? ⟨gb103, 4, none⟩ = some (.slice A0_4 l0_4.length c0_4) := (blk_cell BK103.out 4).trans rfl; have hfz4_0 := blk_frozen BK103.out 0; have hfz4_1 := blk_frozen BK103.out 1; have hfz4_2 := blk_frozen BK103.out 2; have hfz4_3 := blk_frozen BK103.out 3; have hfz4_4 := blk_frozen BK103.out 4))
    go_ret
    exact ⟨by first | rfl | (simp [errW_none, errW_some] <;> rfl) | (simp [*, errW_none, errW_some] <;> rfl), by repeat (first | (with_reducible first | exact HB.out | apply below_alloc | apply pw_below_drewN | apply below_drew1 | refine below_set ?_ GE103.out) | exact HB.out)⟩
  · rw [if_neg c2] at H
    have c2b0 : decide (a0_1 ≤ 3) = false := decide_eq_false c2
    clear c2
    obtain rfl := Option.some.inj H
    go_enter Try.func37, Try.ntmps37
    go_wp2_with (first | ((with_reducible refine gate_dst (N := 1) rfl ?_); refine box_event ?hg (N := 1) ?hd (cs := #[.int .u8 a0_0, .int .u8 a0_1, .int .i64 a0_2, .int .i64 a0_3, .slice A0_4 l0_4.length c0_4]) (t := 39) ?hr ?_; (case hd => rfl); (case hg => rfl); (case hr => first | (go_simp; done) | (go_simp; rfl)); intro gb103 hg w5 hbox hb; have n0_ := Aside0.mk (below_step (by repeat (first | (with_reducible first | exact HB.out | apply below_alloc | apply pw_below_drewN | apply below_drew1) | exact HB.out)) hb); have n1_ := Aside0.mk (hbox); have n2_ := Aside0.mk ((by rw [hg]; exact (below_size (by repeat (first | (with_reducible first | exact HB.out | apply below_alloc | apply pw_below_drewN | apply below_drew1) | exact HB.out))) : w.heap.size ≤ gb103)); have n3_ := Aside0.mk ((by rw [hg]; exact (below_size (by repeat (first | (with_reducible first | exact HB.out | apply below_alloc | apply pw_below_drewN | apply below_drew1) | exact HB.out))) : w.heap.size ≤ gb103)); clear HB; have HB := n0_; have BK103 := n1_; have GW103 := n2_; have GE103 := n3_; clear n0_ n1_ n2_ n3_; clear hb hbox hg; have hcz6_0 : w5.cell? ⟨gb103, 0, none⟩ = some (.int .u8 a0_0) := (blk_cell BK103.out 0).trans rfl; have hcz6_1 : w5.cell? ⟨gb103, 1, none⟩ = some (.int .u8 a0_1) := (blk_cell BK103.out 1).trans rfl; have hcz6_2 : w5.cell? ⟨gb103, 2, none⟩ = some (.int .i64 a0_2) := (blk_cell BK103.out 2).trans rfl; have hcz6_3 : w5.cell? ⟨gb103, 3, none⟩ = some (.int .i64 a0_3) := (blk_cell BK103.out 3).trans rfl; have hcz6_4 : w5.cell? ⟨gb103, 4, none⟩ = some (.slice A0_4 l0_4.length c0_4) := (blk_cell BK103.out 4).trans rfl; have hfz6_0 := blk_frozen BK103.out 0; have hfz6_1 := blk_frozen BK103.out 1; have hfz6_2 := blk_frozen BK103.out 2; have hfz6_3 := blk_frozen BK103.out 3; have hfz6_4 := blk_frozen BK103.out 4))
    go_ret
    exact ⟨by first | rfl | (simp [errW_none, errW_some] <;> rfl) | (simp [*, errW_none, errW_some] <;> rfl), by repeat (first | (with_reducible first | exact HB.out | apply below_alloc | apply pw_below_drewN | apply below_drew1 | refine below_set ?_ GE103.out) | exact HB.out)⟩
def check_numbers_4.f (a0_0 : Int) (a0_1 : Int) (a0_2 : Int) (a0_3 : Int) (l0_4 : List Int) : Option (Bool) := if a0_1 = 0 then (if a0_2 ≥ 1 then (some (decide (a0_2 ≤ 16))) else (some false)) else (some false)
set_option maxHeartbeats 8000000 in
set_option maxRecDepth 100000 in
theorem check_numbers_4.calls (a0_0 : Int) (a0_1 : Int) (a0_2 : Int) (a0_3 : Int) (A0_4 : Option Addr) (c0_4 : Nat) (l0_4 : List Int) (r : Bool) (w : World) (hr0_4 : Kd.C (Kd.int .i64) w A0_4 l0_4.length l0_4) (hc0_4 : l0_4.length ≤ c0_4) (h : check_numbers_4.f a0_0 a0_1 a0_2 a0_3 l0_4 = some r) :
    Calls Try.prog 38 #[.agg #[.int .u8 a0_0, .int .u8 a0_1, .int .i64 a0_2, .int .i64 a0_3, .slice A0_4 l0_4.length c0_4]] w fun e w' => e = .returned (.bool r) ∧ Below w.heap.size w w' := by
  have hu39 := Try.underlying39
  have HR0_4 := Aside0.mk hr0_4
  have HC0_4 := Aside0.mk hc0_4
  clear hr0_4 hc0_4
  have HB := Aside0.mk (Below.refl w.heap.size w)
  have H : (if a0_1 = 0 then (if a0_2 ≥ 1 then (some (decide (a0_2 ≤ 16))) else (some false)) else (some false)) = some r := h
  clear h
  by_cases c2 : a0_1 = 0
  · rw [if_pos c2] at H
    have c2b0 : (a0_1 == 0) = true := beq_iff_eq.mpr c2
    have c2b1 : (a0_1 != 0) = false := bne_eq_false_iff_eq.mpr c2
    clear c2
    by_cases c3 : a0_2 ≥ 1
    · rw [if_pos c3] at H
      have c3b0 : decide (1 ≤ a0_2) = true := decide_eq_true c3
      clear c3
      obtain rfl := Option.some.inj H
      go_enter Try.func38, Try.ntmps38
      go_wp2_with (first | ((with_reducible refine gate_dst (N := 1) rfl ?_); refine box_event ?hg (N := 1) ?hd (cs := #[.int .u8 a0_0, .int .u8 a0_1, .int .i64 a0_2, .int .i64 a0_3, .slice A0_4 l0_4.length c0_4]) (t := 39) ?hr ?_; (case hd => rfl); (case hg => rfl); (case hr => first | (go_simp; done) | (go_simp; rfl)); intro gb104 hg w4 hbox hb; have n0_ := Aside0.mk (below_step (by repeat (first | (with_reducible first | exact HB.out | apply below_alloc | apply pw_below_drewN | apply below_drew1) | exact HB.out)) hb); have n1_ := Aside0.mk (hbox); have n2_ := Aside0.mk ((by rw [hg]; exact (below_size (by repeat (first | (with_reducible first | exact HB.out | apply below_alloc | apply pw_below_drewN | apply below_drew1) | exact HB.out))) : w.heap.size ≤ gb104)); have n3_ := Aside0.mk ((by rw [hg]; exact (below_size (by repeat (first | (with_reducible first | exact HB.out | apply below_alloc | apply pw_below_drewN | apply below_drew1) | exact HB.out))) : w.heap.size ≤ gb104)); clear HB; have HB := n0_; have BK104 := n1_; have GW104 := n2_; have GE104 := n3_; clear n0_ n1_ n2_ n3_; clear hb hbox hg; have hcz5_0 : w4.cell? ⟨gb104, 0, none⟩ = some (.int .u8 a0_0) := (blk_cell BK104.out 0).trans rfl; have hcz5_1 : w4.cell? ⟨gb104, 1, none⟩ = some (.int .u8 a0_1) := (blk_cell BK104.out 1).trans rfl; have hcz5_2 : w4.cell? ⟨gb104, 2, none⟩ = some (.int .i64 a0_2) := (blk_cell BK104.out 2).trans rfl; have hcz5_3 : w4.cell? ⟨gb104, 3, none⟩ = some (.int .i64 a0_3) := (blk_cell BK104.out 3).trans rfl; have hcz5_4 : w4.cell? ⟨gb104, 4, none⟩ = some (.slice A0_4 l0_4.length c0_4) := (blk_cell BK104.out 4).trans rfl; have hfz5_0 := blk_frozen BK104.out 0; have hfz5_1 := blk_frozen BK104.out 1; have hfz5_2 := blk_frozen BK104.out 2; have hfz5_3 := blk_frozen BK104.out 3; have hfz5_4 := blk_frozen BK104.out 4))
      go_ret
      exact ⟨by first | rfl | (simp [errW_none, errW_some] <;> rfl) | (simp [*, errW_none, errW_some] <;> rfl), by repeat (first | (with_reducible first | exact HB.out | apply below_alloc | apply pw_below_drewN | apply below_drew1 | refine below_set ?_ GE104.out) | exact HB.out)⟩
    · rw [if_neg c3] at H
      have c3b0 : decide (1 ≤ a0_2) = false := decide_eq_false c3
      clear c3
      obtain rfl := Option.some.inj H
      go_enter Try.func38, Try.ntmps38
      go_wp2_with (first | ((with_reducible refine gate_dst (N := 1) rfl ?_); refine box_event ?hg (N := 1) ?hd (cs := #[.int .u8 a0_0, .int .u8 a0_1, .int .i64 a0_2, .int .i64 a0_3, .slice A0_4 l0_4.length c0_4]) (t := 39) ?hr ?_; (case hd => rfl); (case hg => rfl); (case hr => first | (go_simp; done) | (go_simp; rfl)); intro gb104 hg w6 hbox hb; have n0_ := Aside0.mk (below_step (by repeat (first | (with_reducible first | exact HB.out | apply below_alloc | apply pw_below_drewN | apply below_drew1) | exact HB.out)) hb); have n1_ := Aside0.mk (hbox); have n2_ := Aside0.mk ((by rw [hg]; exact (below_size (by repeat (first | (with_reducible first | exact HB.out | apply below_alloc | apply pw_below_drewN | apply below_drew1) | exact HB.out))) : w.heap.size ≤ gb104)); have n3_ := Aside0.mk ((by rw [hg]; exact (below_size (by repeat (first | (with_reducible first | exact HB.out | apply below_alloc | apply pw_below_drewN | apply below_drew1) | exact HB.out))) : w.heap.size ≤ gb104)); clear HB; have HB := n0_; have BK104 := n1_; have GW104 := n2_; have GE104 := n3_; clear n0_ n1_ n2_ n3_; clear hb hbox hg; have hcz7_0 : w6.cell? ⟨gb104, 0, none⟩ = some (.int .u8 a0_0) := (blk_cell BK104.out 0).trans rfl; have hcz7_1 : w6.cell? ⟨gb104, 1, none⟩ = some (.int .u8 a0_1) := (blk_cell BK104.out 1).trans rfl; have hcz7_2 : w6.cell? ⟨gb104, 2, none⟩ = some (.int .i64 a0_2) := (blk_cell BK104.out 2).trans rfl; have hcz7_3 : w6.cell? ⟨gb104, 3, none⟩ = some (.int .i64 a0_3) := (blk_cell BK104.out 3).trans rfl; have hcz7_4 : w6.cell? ⟨gb104, 4, none⟩ = some (.slice A0_4 l0_4.length c0_4) := (blk_cell BK104.out 4).trans rfl; have hfz7_0 := blk_frozen BK104.out 0; have hfz7_1 := blk_frozen BK104.out 1; have hfz7_2 := blk_frozen BK104.out 2; have hfz7_3 := blk_frozen BK104.out 3; have hfz7_4 := blk_frozen BK104.out 4))
      go_ret
      exact ⟨by first | rfl | (simp [errW_none, errW_some] <;> rfl) | (simp [*, errW_none, errW_some] <;> rfl), by repeat (first | (with_reducible first | exact HB.out | apply below_alloc | apply pw_below_drewN | apply below_drew1 | refine below_set ?_ GE104.out) | exact HB.out)⟩
  · rw [if_neg c2] at H
    have c2b0 : (a0_1 == 0) = false := beq_eq_false_iff_ne.mpr c2
    have c2b1 : (a0_1 != 0) = true := bne_iff_ne.mpr c2
    obtain rfl := Option.some.inj H
    go_enter Try.func38, Try.ntmps38
    go_wp2_with (first | ((with_reducible refine gate_dst (N := 1) rfl ?_); refine box_event ?hg (N := 1) ?hd (cs := #[.int .u8 a0_0, .int .u8 a0_1, .int .i64 a0_2, .int .i64 a0_3, .slice A0_4 l0_4.length c0_4]) (t := 39) ?hr ?_; (case hd => rfl); (case hg => rfl); (case hr => first | (go_simp; done) | (go_simp; rfl)); intro gb104 hg w8 hbox hb; have n0_ := Aside0.mk (below_step (by repeat (first | (with_reducible first | exact HB.out | apply below_alloc | apply pw_below_drewN | apply below_drew1) | exact HB.out)) hb); have n1_ := Aside0.mk (hbox); have n2_ := Aside0.mk ((by rw [hg]; exact (below_size (by repeat (first | (with_reducible first | exact HB.out | apply below_alloc | apply pw_below_drewN | apply below_drew1) | exact HB.out))) : w.heap.size ≤ gb104)); have n3_ := Aside0.mk ((by rw [hg]; exact (below_size (by repeat (first | (with_reducible first | exact HB.out | apply below_alloc | apply pw_below_drewN | apply below_drew1) | exact HB.out))) : w.heap.size ≤ gb104)); clear HB; have HB := n0_; have BK104 := n1_; have GW104 := n2_; have GE104 := n3_; clear n0_ n1_ n2_ n3_; clear hb hbox hg; have hcz9_0 : w8.cell? ⟨gb104, 0, none⟩ = some (.int .u8 a0_0) := (blk_cell BK104.out 0).trans rfl; have hcz9_1 : w8.cell? ⟨gb104, 1, none⟩ = some (.int .u8 a0_1) := (blk_cell BK104.out 1).trans rfl; have hcz9_2 : w8.cell? ⟨gb104, 2, none⟩ = some (.int .i64 a0_2) := (blk_cell BK104.out 2).trans rfl; have hcz9_3 : w8.cell? ⟨gb104, 3, none⟩ = some (.int .i64 a0_3) := (blk_cell BK104.out 3).trans rfl; have hcz9_4 : w8.cell? ⟨gb104, 4, none⟩ = some (.slice A0_4 l0_4.length c0_4) := (blk_cell BK104.out 4).trans rfl; have hfz9_0 := blk_frozen BK104.out 0; have hfz9_1 := blk_frozen BK104.out 1; have hfz9_2 := blk_frozen BK104.out 2; have hfz9_3 := blk_frozen BK104.out 3; have hfz9_4 := blk_frozen BK104.out 4))
    go_ret
    exact ⟨by first | rfl | (simp [errW_none, errW_some] <;> rfl) | (simp [*, errW_none, errW_some] <;> rfl), by repeat (first | (with_reducible first | exact HB.out | apply below_alloc | apply pw_below_drewN | apply below_drew1 | refine below_set ?_ GE104.out) | exact HB.out)⟩
end Go.Proofs.Ytnjlonenckifpaa.X
namespace Go.Proofs.Ytnjlonenckifpaa.X
set_option linter.unusedVariables false
set_option linter.unusedSimpArgs false
open Go.RowKit Go.Proofs.YtnjlonenckifpaaW.PrintWords Go.Proofs.YtnjlonenckifpaaW.PrintLast Go.Proofs.YtnjlonenckifpaaW.PrintMore
theorem heap_alloc_last (W : World) (o : Obj) : (W.alloc o).heap[W.heap.size]? = some o := by
  show (W.heap.push o)[W.heap.size]? = _
  simp
theorem set_alloc_last (W : World) (o o' : Obj) : ({ W.alloc o with heap := (W.alloc o).heap.setIfInBounds W.heap.size o' } : World) = W.alloc o' := by
  have h : (W.heap.push o).setIfInBounds W.heap.size o' = W.heap.push o' := by
    apply Array.ext_getElem?
    intro i
    rw [Array.getElem?_setIfInBounds]
    by_cases hi : W.heap.size = i
    · subst hi; simp
    · rw [if_neg hi]
      simp only [Array.getElem?_push]
      rw [if_neg (by omega), if_neg (by omega)]
  show ({ W.alloc o with heap := (W.heap.push o).setIfInBounds W.heap.size o' } : World) = _
  rw [h]
  rfl
theorem run_ins0 {P : Program} (mt kt et : TypeId) (hm : P.underlying mt = some (.map kt et)) (hk : P.underlying kt = some (.int .u8)) (w : World) (r : Nat) (es : Array MapEntry) (n : Nat) (k : Int) (v : Value)
    (hb : w.heap[r]? = some (.map es n)) (hf : Instr.findNow (.int .u8) (.int .u8 k) es.toList 0 = some none) :
    (Instr.mapUpdate mt (.map (some r)) (.int .u8 k) v).run P w = .ok () { w with heap := w.heap.setIfInBounds r (.map (es.push { key := .int .u8 k, val := v, born := n }) (n + 1)) } := by
  have hc : (Instr.checkKey false 10000 kt (.int .u8 k)).run P w = .ok () w := MapKept.run_checkKey (k := .int .u8 k) hk (by simp [MapKept.IsKey]) false 9999
  simp [Instr.mapUpdate, run_underlying hm, MapKept.run_getObj_map hb, hc, MapKept.run_findKey hk hf, MapKept.run_setObj_map _ hb, Result.andThen]
theorem run_ins {P : Program} (mt kt et : TypeId) (hm : P.underlying mt = some (.map kt et)) (hk : P.underlying kt = some (.int .u8)) (W : World) (es : Array MapEntry) (n : Nat) (k : Int) (v : Value)
    (hf : Instr.findNow (.int .u8) (.int .u8 k) es.toList 0 = some none) :
    (Instr.mapUpdate mt (.map (some W.heap.size)) (.int .u8 k) v).run P (W.alloc (.map es n)) = .ok () (W.alloc (.map (es.push ⟨.int .u8 k, v, n⟩) (n + 1))) := by
  rw [run_ins0 mt kt et hm hk _ _ es n k v (heap_alloc_last W (.map es n)) hf, set_alloc_last]
theorem run_find {P : Program} (mt kt et : TypeId) (hm : P.underlying mt = some (.map kt et)) (hk : P.underlying kt = some (.int .u8)) (W : World) (b : Nat) (es : Array MapEntry) (n : Nat) (k : Int) (v : Value) (i : Nat)
    (hb : W.heap[b]? = some (.map es n)) (hf : Instr.findNow (.int .u8) (.int .u8 k) es.toList 0 = some (some (i, v))) :
    (Instr.lookup mt (.map (some b)) (.int .u8 k) true).run P W = .ok (.tuple #[v, .bool true]) W := by
  have hc : (Instr.checkKey es.isEmpty 10000 kt (.int .u8 k)).run P W = .ok () W := MapKept.run_checkKey (k := .int .u8 k) hk (by simp [MapKept.IsKey]) _ 9999
  simp [Instr.lookup, run_underlying hm, MapKept.run_getObj_map hb, hc, MapKept.run_findKey hk hf, Result.andThen]
theorem run_miss {P : Program} (mt kt et : TypeId) (hm : P.underlying mt = some (.map kt et)) (hk : P.underlying kt = some (.int .u8)) (W : World) (b : Nat) (es : Array MapEntry) (n : Nat) (k : Int) (z : Value)
    (hz : (zeroValue et).run P W = .ok z W) (hb : W.heap[b]? = some (.map es n)) (hf : Instr.findNow (.int .u8) (.int .u8 k) es.toList 0 = some none) :
    (Instr.lookup mt (.map (some b)) (.int .u8 k) true).run P W = .ok (.tuple #[z, .bool false]) W := by
  have hc : (Instr.checkKey es.isEmpty 10000 kt (.int .u8 k)).run P W = .ok () W := MapKept.run_checkKey (k := .int .u8 k) hk (by simp [MapKept.IsKey]) _ 9999
  simp [Instr.lookup, run_underlying hm, MapKept.run_getObj_map hb, hc, MapKept.run_findKey hk hf, Result.andThen, hz]
def km1 : Array MapEntry := #[⟨.int .u8 2, .func (.func 35) #[] #[], 0⟩]
def km2 : Array MapEntry := #[⟨.int .u8 2, .func (.func 35) #[] #[], 0⟩, ⟨.int .u8 3, .func (.func 36) #[] #[], 1⟩]
def km3 : Array MapEntry := #[⟨.int .u8 2, .func (.func 35) #[] #[], 0⟩, ⟨.int .u8 3, .func (.func 36) #[] #[], 1⟩, ⟨.int .u8 5, .func (.func 37) #[] #[], 2⟩]
def km4 : Array MapEntry := #[⟨.int .u8 2, .func (.func 35) #[] #[], 0⟩, ⟨.int .u8 3, .func (.func 36) #[] #[], 1⟩, ⟨.int .u8 5, .func (.func 37) #[] #[], 2⟩, ⟨.int .u8 9, .func (.func 38) #[] #[], 3⟩]
def km5 : Array MapEntry := #[⟨.int .u8 2, .func (.func 35) #[] #[], 0⟩, ⟨.int .u8 3, .func (.func 36) #[] #[], 1⟩, ⟨.int .u8 5, .func (.func 37) #[] #[], 2⟩, ⟨.int .u8 9, .func (.func 38) #[] #[], 3⟩, ⟨.int .u8 1, .func (.func 39) #[] #[], 4⟩]
def km6 : Array MapEntry := #[⟨.int .u8 2, .func (.func 35) #[] #[], 0⟩, ⟨.int .u8 3, .func (.func 36) #[] #[], 1⟩, ⟨.int .u8 5, .func (.func 37) #[] #[], 2⟩, ⟨.int .u8 9, .func (.func 38) #[] #[], 3⟩, ⟨.int .u8 1, .func (.func 39) #[] #[], 4⟩, ⟨.int .u8 4, .func (.func 39) #[] #[], 5⟩]
def km7 : Array MapEntry := #[⟨.int .u8 2, .func (.func 35) #[] #[], 0⟩, ⟨.int .u8 3, .func (.func 36) #[] #[], 1⟩, ⟨.int .u8 5, .func (.func 37) #[] #[], 2⟩, ⟨.int .u8 9, .func (.func 38) #[] #[], 3⟩, ⟨.int .u8 1, .func (.func 39) #[] #[], 4⟩, ⟨.int .u8 4, .func (.func 39) #[] #[], 5⟩, ⟨.int .u8 6, .func (.func 39) #[] #[], 6⟩]
def km8 : Array MapEntry := #[⟨.int .u8 2, .func (.func 35) #[] #[], 0⟩, ⟨.int .u8 3, .func (.func 36) #[] #[], 1⟩, ⟨.int .u8 5, .func (.func 37) #[] #[], 2⟩, ⟨.int .u8 9, .func (.func 38) #[] #[], 3⟩, ⟨.int .u8 1, .func (.func 39) #[] #[], 4⟩, ⟨.int .u8 4, .func (.func 39) #[] #[], 5⟩, ⟨.int .u8 6, .func (.func 39) #[] #[], 6⟩, ⟨.int .u8 7, .func (.func 39) #[] #[], 7⟩]
def km9 : Array MapEntry := #[⟨.int .u8 2, .func (.func 35) #[] #[], 0⟩, ⟨.int .u8 3, .func (.func 36) #[] #[], 1⟩, ⟨.int .u8 5, .func (.func 37) #[] #[], 2⟩, ⟨.int .u8 9, .func (.func 38) #[] #[], 3⟩, ⟨.int .u8 1, .func (.func 39) #[] #[], 4⟩, ⟨.int .u8 4, .func (.func 39) #[] #[], 5⟩, ⟨.int .u8 6, .func (.func 39) #[] #[], 6⟩, ⟨.int .u8 7, .func (.func 39) #[] #[], 7⟩, ⟨.int .u8 8, .func (.func 39) #[] #[], 8⟩]
def km10 : Array MapEntry := #[⟨.int .u8 2, .func (.func 35) #[] #[], 0⟩, ⟨.int .u8 3, .func (.func 36) #[] #[], 1⟩, ⟨.int .u8 5, .func (.func 37) #[] #[], 2⟩, ⟨.int .u8 9, .func (.func 38) #[] #[], 3⟩, ⟨.int .u8 1, .func (.func 39) #[] #[], 4⟩, ⟨.int .u8 4, .func (.func 39) #[] #[], 5⟩, ⟨.int .u8 6, .func (.func 39) #[] #[], 6⟩, ⟨.int .u8 7, .func (.func 39) #[] #[], 7⟩, ⟨.int .u8 8, .func (.func 39) #[] #[], 8⟩, ⟨.int .u8 10, .func (.func 39) #[] #[], 9⟩]
theorem ins0 (W : World) : (Instr.mapUpdate 53 (.map (some W.heap.size)) (.int .u8 2) (.func (.func 35) #[] #[])).run Try.prog (W.alloc (.map #[] 0)) = .ok () (W.alloc (.map km1 1)) := run_ins 53 5 46 Try.underlying53 Try.underlying5 W #[] 0 2 _ rfl
theorem ins1 (W : World) : (Instr.mapUpdate 53 (.map (some W.heap.size)) (.int .u8 3) (.func (.func 36) #[] #[])).run Try.prog (W.alloc (.map km1 1)) = .ok () (W.alloc (.map km2 2)) := run_ins 53 5 46 Try.underlying53 Try.underlying5 W km1 1 3 _ rfl
theorem ins2 (W : World) : (Instr.mapUpdate 53 (.map (some W.heap.size)) (.int .u8 5) (.func (.func 37) #[] #[])).run Try.prog (W.alloc (.map km2 2)) = .ok () (W.alloc (.map km3 3)) := run_ins 53 5 46 Try.underlying53 Try.underlying5 W km2 2 5 _ rfl
theorem ins3 (W : World) : (Instr.mapUpdate 53 (.map (some W.heap.size)) (.int .u8 9) (.func (.func 38) #[] #[])).run Try.prog (W.alloc (.map km3 3)) = .ok () (W.alloc (.map km4 4)) := run_ins 53 5 46 Try.underlying53 Try.underlying5 W km3 3 9 _ rfl
theorem ins4 (W : World) : (Instr.mapUpdate 53 (.map (some W.heap.size)) (.int .u8 1) (.func (.func 39) #[] #[])).run Try.prog (W.alloc (.map km4 4)) = .ok () (W.alloc (.map km5 5)) := run_ins 53 5 46 Try.underlying53 Try.underlying5 W km4 4 1 _ rfl
theorem ins5 (W : World) : (Instr.mapUpdate 53 (.map (some W.heap.size)) (.int .u8 4) (.func (.func 39) #[] #[])).run Try.prog (W.alloc (.map km5 5)) = .ok () (W.alloc (.map km6 6)) := run_ins 53 5 46 Try.underlying53 Try.underlying5 W km5 5 4 _ rfl
theorem ins6 (W : World) : (Instr.mapUpdate 53 (.map (some W.heap.size)) (.int .u8 6) (.func (.func 39) #[] #[])).run Try.prog (W.alloc (.map km6 6)) = .ok () (W.alloc (.map km7 7)) := run_ins 53 5 46 Try.underlying53 Try.underlying5 W km6 6 6 _ rfl
theorem ins7 (W : World) : (Instr.mapUpdate 53 (.map (some W.heap.size)) (.int .u8 7) (.func (.func 39) #[] #[])).run Try.prog (W.alloc (.map km7 7)) = .ok () (W.alloc (.map km8 8)) := run_ins 53 5 46 Try.underlying53 Try.underlying5 W km7 7 7 _ rfl
theorem ins8 (W : World) : (Instr.mapUpdate 53 (.map (some W.heap.size)) (.int .u8 8) (.func (.func 39) #[] #[])).run Try.prog (W.alloc (.map km8 8)) = .ok () (W.alloc (.map km9 9)) := run_ins 53 5 46 Try.underlying53 Try.underlying5 W km8 8 8 _ rfl
theorem ins9 (W : World) : (Instr.mapUpdate 53 (.map (some W.heap.size)) (.int .u8 10) (.func (.func 39) #[] #[])).run Try.prog (W.alloc (.map km9 9)) = .ok () (W.alloc (.map km10 10)) := run_ins 53 5 46 Try.underlying53 Try.underlying5 W km9 9 10 _ rfl
set_option maxHeartbeats 4000000 in
theorem num_hit (a0 a1 a2 a3 : Int) (A : Option Addr) (c : Nat) (l : List Int) (r : Bool) (w : World) (f i : Nat) (hf : Instr.findNow (.int .u8) (.int .u8 a0) km10.toList 0 = some (some (i, .func (.func f) #[] #[])))
    (eg : ∀ args w, (callFunc f args).run Try.prog w = .ok (.enter f args) w)
    (hC : ∀ W, Below w.heap.size w W → Calls Try.prog f #[.agg #[.int .u8 a0, .int .u8 a1, .int .i64 a2, .int .i64 a3, .slice A l.length c]] W fun e w' => e = .returned (.bool r) ∧ Below W.heap.size W w') :
    Calls Try.prog 24 #[.agg #[.int .u8 a0, .int .u8 a1, .int .i64 a2, .int .i64 a3, .slice A l.length c]] w fun e w' => e = .returned (.bool r) ∧ Below w.heap.size w w' := by
  have m0 : (Instr.mapUpdate 53 (.map (some (w.heap.size + 1))) (.int .u8 2) (.func (.func 35) #[] #[])).run Try.prog ((w.alloc (.cells #[.int .u8 a0, .int .u8 a1, .int .i64 a2, .int .i64 a3, .slice A l.length c] 39)).alloc (.map #[] 0)) = .ok () ((w.alloc (.cells #[.int .u8 a0, .int .u8 a1, .int .i64 a2, .int .i64 a3, .slice A l.length c] 39)).alloc (.map km1 1)) := by simpa using ins0 (w.alloc (.cells #[.int .u8 a0, .int .u8 a1, .int .i64 a2, .int .i64 a3, .slice A l.length c] 39))
  have m1 : (Instr.mapUpdate 53 (.map (some (w.heap.size + 1))) (.int .u8 3) (.func (.func 36) #[] #[])).run Try.prog ((w.alloc (.cells #[.int .u8 a0, .int .u8 a1, .int .i64 a2, .int .i64 a3, .slice A l.length c] 39)).alloc (.map km1 1)) = .ok () ((w.alloc (.cells #[.int .u8 a0, .int .u8 a1, .int .i64 a2, .int .i64 a3, .slice A l.length c] 39)).alloc (.map km2 2)) := by simpa using ins1 (w.alloc (.cells #[.int .u8 a0, .int .u8 a1, .int .i64 a2, .int .i64 a3, .slice A l.length c] 39))
  have m2 : (Instr.mapUpdate 53 (.map (some (w.heap.size + 1))) (.int .u8 5) (.func (.func 37) #[] #[])).run Try.prog ((w.alloc (.cells #[.int .u8 a0, .int .u8 a1, .int .i64 a2, .int .i64 a3, .slice A l.length c] 39)).alloc (.map km2 2)) = .ok () ((w.alloc (.cells #[.int .u8 a0, .int .u8 a1, .int .i64 a2, .int .i64 a3, .slice A l.length c] 39)).alloc (.map km3 3)) := by simpa using ins2 (w.alloc (.cells #[.int .u8 a0, .int .u8 a1, .int .i64 a2, .int .i64 a3, .slice A l.length c] 39))
  have m3 : (Instr.mapUpdate 53 (.map (some (w.heap.size + 1))) (.int .u8 9) (.func (.func 38) #[] #[])).run Try.prog ((w.alloc (.cells #[.int .u8 a0, .int .u8 a1, .int .i64 a2, .int .i64 a3, .slice A l.length c] 39)).alloc (.map km3 3)) = .ok () ((w.alloc (.cells #[.int .u8 a0, .int .u8 a1, .int .i64 a2, .int .i64 a3, .slice A l.length c] 39)).alloc (.map km4 4)) := by simpa using ins3 (w.alloc (.cells #[.int .u8 a0, .int .u8 a1, .int .i64 a2, .int .i64 a3, .slice A l.length c] 39))
  have m4 : (Instr.mapUpdate 53 (.map (some (w.heap.size + 1))) (.int .u8 1) (.func (.func 39) #[] #[])).run Try.prog ((w.alloc (.cells #[.int .u8 a0, .int .u8 a1, .int .i64 a2, .int .i64 a3, .slice A l.length c] 39)).alloc (.map km4 4)) = .ok () ((w.alloc (.cells #[.int .u8 a0, .int .u8 a1, .int .i64 a2, .int .i64 a3, .slice A l.length c] 39)).alloc (.map km5 5)) := by simpa using ins4 (w.alloc (.cells #[.int .u8 a0, .int .u8 a1, .int .i64 a2, .int .i64 a3, .slice A l.length c] 39))
  have m5 : (Instr.mapUpdate 53 (.map (some (w.heap.size + 1))) (.int .u8 4) (.func (.func 39) #[] #[])).run Try.prog ((w.alloc (.cells #[.int .u8 a0, .int .u8 a1, .int .i64 a2, .int .i64 a3, .slice A l.length c] 39)).alloc (.map km5 5)) = .ok () ((w.alloc (.cells #[.int .u8 a0, .int .u8 a1, .int .i64 a2, .int .i64 a3, .slice A l.length c] 39)).alloc (.map km6 6)) := by simpa using ins5 (w.alloc (.cells #[.int .u8 a0, .int .u8 a1, .int .i64 a2, .int .i64 a3, .slice A l.length c] 39))
  have m6 : (Instr.mapUpdate 53 (.map (some (w.heap.size + 1))) (.int .u8 6) (.func (.func 39) #[] #[])).run Try.prog ((w.alloc (.cells #[.int .u8 a0, .int .u8 a1, .int .i64 a2, .int .i64 a3, .slice A l.length c] 39)).alloc (.map km6 6)) = .ok () ((w.alloc (.cells #[.int .u8 a0, .int .u8 a1, .int .i64 a2, .int .i64 a3, .slice A l.length c] 39)).alloc (.map km7 7)) := by simpa using ins6 (w.alloc (.cells #[.int .u8 a0, .int .u8 a1, .int .i64 a2, .int .i64 a3, .slice A l.length c] 39))
  have m7 : (Instr.mapUpdate 53 (.map (some (w.heap.size + 1))) (.int .u8 7) (.func (.func 39) #[] #[])).run Try.prog ((w.alloc (.cells #[.int .u8 a0, .int .u8 a1, .int .i64 a2, .int .i64 a3, .slice A l.length c] 39)).alloc (.map km7 7)) = .ok () ((w.alloc (.cells #[.int .u8 a0, .int .u8 a1, .int .i64 a2, .int .i64 a3, .slice A l.length c] 39)).alloc (.map km8 8)) := by simpa using ins7 (w.alloc (.cells #[.int .u8 a0, .int .u8 a1, .int .i64 a2, .int .i64 a3, .slice A l.length c] 39))
  have m8 : (Instr.mapUpdate 53 (.map (some (w.heap.size + 1))) (.int .u8 8) (.func (.func 39) #[] #[])).run Try.prog ((w.alloc (.cells #[.int .u8 a0, .int .u8 a1, .int .i64 a2, .int .i64 a3, .slice A l.length c] 39)).alloc (.map km8 8)) = .ok () ((w.alloc (.cells #[.int .u8 a0, .int .u8 a1, .int .i64 a2, .int .i64 a3, .slice A l.length c] 39)).alloc (.map km9 9)) := by simpa using ins8 (w.alloc (.cells #[.int .u8 a0, .int .u8 a1, .int .i64 a2, .int .i64 a3, .slice A l.length c] 39))
  have m9 : (Instr.mapUpdate 53 (.map (some (w.heap.size + 1))) (.int .u8 10) (.func (.func 39) #[] #[])).run Try.prog ((w.alloc (.cells #[.int .u8 a0, .int .u8 a1, .int .i64 a2, .int .i64 a3, .slice A l.length c] 39)).alloc (.map km9 9)) = .ok () ((w.alloc (.cells #[.int .u8 a0, .int .u8 a1, .int .i64 a2, .int .i64 a3, .slice A l.length c] 39)).alloc (.map km10 10)) := by simpa using ins9 (w.alloc (.cells #[.int .u8 a0, .int .u8 a1, .int .i64 a2, .int .i64 a3, .slice A l.length c] 39))
  have mk := @run_makeMap Try.prog
  have lk : (Instr.lookup 53 (.map (some (w.heap.size + 1))) (.int .u8 a0) true).run Try.prog ((w.alloc (.cells #[.int .u8 a0, .int .u8 a1, .int .i64 a2, .int .i64 a3, .slice A l.length c] 39)).alloc (.map km10 10)) = .ok (.tuple #[.func (.func f) #[] #[], .bool true]) ((w.alloc (.cells #[.int .u8 a0, .int .u8 a1, .int .i64 a2, .int .i64 a3, .slice A l.length c] 39)).alloc (.map km10 10)) :=
    run_find 53 5 46 Try.underlying53 Try.underlying5 _ _ km10 10 a0 _ i (by simpa using heap_alloc_last (w.alloc (.cells #[.int .u8 a0, .int .u8 a1, .int .i64 a2, .int .i64 a3, .slice A l.length c] 39)) (.map km10 10)) hf
  have HC := Aside0.mk hC
  have HHB := Aside0.mk (Below.refl w.heap.size w)
  clear hf hC
  go_enter Try.func24, Try.ntmps24
  go_wp2_with (go_at_fn f; refine (HC.out _ (below_alloc (below_alloc HHB.out _) _)).mono ?_; rintro e w' ⟨rfl, hb⟩; (have HD := Aside0.mk hb; clear hb))
  go_ret
  exact ⟨rfl, (below_alloc (below_alloc HHB.out _) _).trans (HD.out.mono (by simp; omega))⟩
set_option maxHeartbeats 4000000 in
theorem num_miss (a0 a1 a2 a3 : Int) (A : Option Addr) (c : Nat) (l : List Int) (w : World) (hf : Instr.findNow (.int .u8) (.int .u8 a0) km10.toList 0 = some none) :
    Calls Try.prog 24 #[.agg #[.int .u8 a0, .int .u8 a1, .int .i64 a2, .int .i64 a3, .slice A l.length c]] w fun e w' => e = .returned (.bool false) ∧ Below w.heap.size w w' := by
  have m0 : (Instr.mapUpdate 53 (.map (some (w.heap.size + 1))) (.int .u8 2) (.func (.func 35) #[] #[])).run Try.prog ((w.alloc (.cells #[.int .u8 a0, .int .u8 a1, .int .i64 a2, .int .i64 a3, .slice A l.length c] 39)).alloc (.map #[] 0)) = .ok () ((w.alloc (.cells #[.int .u8 a0, .int .u8 a1, .int .i64 a2, .int .i64 a3, .slice A l.length c] 39)).alloc (.map km1 1)) := by simpa using ins0 (w.alloc (.cells #[.int .u8 a0, .int .u8 a1, .int .i64 a2, .int .i64 a3, .slice A l.length c] 39))
  have m1 : (Instr.mapUpdate 53 (.map (some (w.heap.size + 1))) (.int .u8 3) (.func (.func 36) #[] #[])).run Try.prog ((w.alloc (.cells #[.int .u8 a0, .int .u8 a1, .int .i64 a2, .int .i64 a3, .slice A l.length c] 39)).alloc (.map km1 1)) = .ok () ((w.alloc (.cells #[.int .u8 a0, .int .u8 a1, .int .i64 a2, .int .i64 a3, .slice A l.length c] 39)).alloc (.map km2 2)) := by simpa using ins1 (w.alloc (.cells #[.int .u8 a0, .int .u8 a1, .int .i64 a2, .int .i64 a3, .slice A l.length c] 39))
  have m2 : (Instr.mapUpdate 53 (.map (some (w.heap.size + 1))) (.int .u8 5) (.func (.func 37) #[] #[])).run Try.prog ((w.alloc (.cells #[.int .u8 a0, .int .u8 a1, .int .i64 a2, .int .i64 a3, .slice A l.length c] 39)).alloc (.map km2 2)) = .ok () ((w.alloc (.cells #[.int .u8 a0, .int .u8 a1, .int .i64 a2, .int .i64 a3, .slice A l.length c] 39)).alloc (.map km3 3)) := by simpa using ins2 (w.alloc (.cells #[.int .u8 a0, .int .u8 a1, .int .i64 a2, .int .i64 a3, .slice A l.length c] 39))
  have m3 : (Instr.mapUpdate 53 (.map (some (w.heap.size + 1))) (.int .u8 9) (.func (.func 38) #[] #[])).run Try.prog ((w.alloc (.cells #[.int .u8 a0, .int .u8 a1, .int .i64 a2, .int .i64 a3, .slice A l.length c] 39)).alloc (.map km3 3)) = .ok () ((w.alloc (.cells #[.int .u8 a0, .int .u8 a1, .int .i64 a2, .int .i64 a3, .slice A l.length c] 39)).alloc (.map km4 4)) := by simpa using ins3 (w.alloc (.cells #[.int .u8 a0, .int .u8 a1, .int .i64 a2, .int .i64 a3, .slice A l.length c] 39))
  have m4 : (Instr.mapUpdate 53 (.map (some (w.heap.size + 1))) (.int .u8 1) (.func (.func 39) #[] #[])).run Try.prog ((w.alloc (.cells #[.int .u8 a0, .int .u8 a1, .int .i64 a2, .int .i64 a3, .slice A l.length c] 39)).alloc (.map km4 4)) = .ok () ((w.alloc (.cells #[.int .u8 a0, .int .u8 a1, .int .i64 a2, .int .i64 a3, .slice A l.length c] 39)).alloc (.map km5 5)) := by simpa using ins4 (w.alloc (.cells #[.int .u8 a0, .int .u8 a1, .int .i64 a2, .int .i64 a3, .slice A l.length c] 39))
  have m5 : (Instr.mapUpdate 53 (.map (some (w.heap.size + 1))) (.int .u8 4) (.func (.func 39) #[] #[])).run Try.prog ((w.alloc (.cells #[.int .u8 a0, .int .u8 a1, .int .i64 a2, .int .i64 a3, .slice A l.length c] 39)).alloc (.map km5 5)) = .ok () ((w.alloc (.cells #[.int .u8 a0, .int .u8 a1, .int .i64 a2, .int .i64 a3, .slice A l.length c] 39)).alloc (.map km6 6)) := by simpa using ins5 (w.alloc (.cells #[.int .u8 a0, .int .u8 a1, .int .i64 a2, .int .i64 a3, .slice A l.length c] 39))
  have m6 : (Instr.mapUpdate 53 (.map (some (w.heap.size + 1))) (.int .u8 6) (.func (.func 39) #[] #[])).run Try.prog ((w.alloc (.cells #[.int .u8 a0, .int .u8 a1, .int .i64 a2, .int .i64 a3, .slice A l.length c] 39)).alloc (.map km6 6)) = .ok () ((w.alloc (.cells #[.int .u8 a0, .int .u8 a1, .int .i64 a2, .int .i64 a3, .slice A l.length c] 39)).alloc (.map km7 7)) := by simpa using ins6 (w.alloc (.cells #[.int .u8 a0, .int .u8 a1, .int .i64 a2, .int .i64 a3, .slice A l.length c] 39))
  have m7 : (Instr.mapUpdate 53 (.map (some (w.heap.size + 1))) (.int .u8 7) (.func (.func 39) #[] #[])).run Try.prog ((w.alloc (.cells #[.int .u8 a0, .int .u8 a1, .int .i64 a2, .int .i64 a3, .slice A l.length c] 39)).alloc (.map km7 7)) = .ok () ((w.alloc (.cells #[.int .u8 a0, .int .u8 a1, .int .i64 a2, .int .i64 a3, .slice A l.length c] 39)).alloc (.map km8 8)) := by simpa using ins7 (w.alloc (.cells #[.int .u8 a0, .int .u8 a1, .int .i64 a2, .int .i64 a3, .slice A l.length c] 39))
  have m8 : (Instr.mapUpdate 53 (.map (some (w.heap.size + 1))) (.int .u8 8) (.func (.func 39) #[] #[])).run Try.prog ((w.alloc (.cells #[.int .u8 a0, .int .u8 a1, .int .i64 a2, .int .i64 a3, .slice A l.length c] 39)).alloc (.map km8 8)) = .ok () ((w.alloc (.cells #[.int .u8 a0, .int .u8 a1, .int .i64 a2, .int .i64 a3, .slice A l.length c] 39)).alloc (.map km9 9)) := by simpa using ins8 (w.alloc (.cells #[.int .u8 a0, .int .u8 a1, .int .i64 a2, .int .i64 a3, .slice A l.length c] 39))
  have m9 : (Instr.mapUpdate 53 (.map (some (w.heap.size + 1))) (.int .u8 10) (.func (.func 39) #[] #[])).run Try.prog ((w.alloc (.cells #[.int .u8 a0, .int .u8 a1, .int .i64 a2, .int .i64 a3, .slice A l.length c] 39)).alloc (.map km9 9)) = .ok () ((w.alloc (.cells #[.int .u8 a0, .int .u8 a1, .int .i64 a2, .int .i64 a3, .slice A l.length c] 39)).alloc (.map km10 10)) := by simpa using ins9 (w.alloc (.cells #[.int .u8 a0, .int .u8 a1, .int .i64 a2, .int .i64 a3, .slice A l.length c] 39))
  have mk := @run_makeMap Try.prog
  have hz : ∀ W, (zeroValue 46).run Try.prog W = .ok .nilFunc W := fun _ => by kernel_rfl
  have lk : (Instr.lookup 53 (.map (some (w.heap.size + 1))) (.int .u8 a0) true).run Try.prog ((w.alloc (.cells #[.int .u8 a0, .int .u8 a1, .int .i64 a2, .int .i64 a3, .slice A l.length c] 39)).alloc (.map km10 10)) = .ok (.tuple #[.nilFunc, .bool false]) ((w.alloc (.cells #[.int .u8 a0, .int .u8 a1, .int .i64 a2, .int .i64 a3, .slice A l.length c] 39)).alloc (.map km10 10)) :=
    run_miss 53 5 46 Try.underlying53 Try.underlying5 _ _ km10 10 a0 .nilFunc (hz _) (by simpa using heap_alloc_last (w.alloc (.cells #[.int .u8 a0, .int .u8 a1, .int .i64 a2, .int .i64 a3, .slice A l.length c] 39)) (.map km10 10)) hf
  have HHB := Aside0.mk (Below.refl w.heap.size w)
  clear hf hz
  go_enter Try.func24, Try.ntmps24
  go_wp2
  go_ret
  exact ⟨rfl, below_alloc (below_alloc HHB.out _) _⟩
def numB (k a b : Int) : Bool :=
  if k = 2 then decide (a ≤ 3) && (decide (a < 3) || decide (0 < b))
  else if k = 3 then decide (a ≤ 2) && (a != 1 || decide (0 < b))
  else if k = 5 then decide (a ≤ 3) && b == 0
  else if k = 9 then a == 0 && decide (1 ≤ b) && decide (b ≤ 16)
  else decide (k = 1 ∨ k = 4 ∨ k = 6 ∨ k = 7 ∨ k = 8 ∨ k = 10) && (a == 0 && b == 0)
def check_numbers.f (a0 a1 a2 _a3 : Int) (_l : List Int) : Option Bool := some (numB a0 a1 a2)
theorem plain_f (a0 a1 a2 a3 : Int) (l : List Int) : check_plain.f a0 a1 a2 a3 l = some (a1 == 0 && a2 == 0) := by
  unfold check_plain.f
  by_cases h : a1 = 0 <;> simp [h]
theorem check_numbers.calls (a0 a1 a2 a3 : Int) (A : Option Addr) (c : Nat) (l : List Int) (r : Bool) (w : World) (hr : Kd.C (Kd.int .i64) w A l.length l) (hc : l.length ≤ c) (h : check_numbers.f a0 a1 a2 a3 l = some r) :
    Calls Try.prog 24 #[.agg #[.int .u8 a0, .int .u8 a1, .int .i64 a2, .int .i64 a3, .slice A l.length c]] w fun e w' => e = .returned (.bool r) ∧ Below w.heap.size w w' := by
  have hm : r = numB a0 a1 a2 := by simpa [check_numbers.f] using h.symm
  subst hm
  clear h
  by_cases k2 : a0 = 2
  · subst k2
    refine num_hit 2 a1 a2 a3 A c l _ w 35 0 rfl (enters_of Try.func35 (by kernel_rfl) rfl) fun W hb => check_numbers_1.calls 2 a1 a2 a3 A c l _ W (Kd.C_below hr hb) hc ?_
    unfold check_numbers_1.f numB
    by_cases h1 : a1 ≤ 3 <;> by_cases h2 : a1 < 3 <;> simp [h1, h2]
  by_cases k3 : a0 = 3
  · subst k3
    refine num_hit 3 a1 a2 a3 A c l _ w 36 1 rfl (enters_of Try.func36 (by kernel_rfl) rfl) fun W hb => check_numbers_2.calls 3 a1 a2 a3 A c l _ W (Kd.C_below hr hb) hc ?_
    unfold check_numbers_2.f numB
    by_cases h1 : a1 ≤ 2 <;> by_cases h2 : a1 = 1 <;> simp [h1, h2]
  by_cases k5 : a0 = 5
  · subst k5
    refine num_hit 5 a1 a2 a3 A c l _ w 37 2 rfl (enters_of Try.func37 (by kernel_rfl) rfl) fun W hb => check_numbers_3.calls 5 a1 a2 a3 A c l _ W (Kd.C_below hr hb) hc ?_
    unfold check_numbers_3.f numB
    by_cases h1 : a1 ≤ 3 <;> simp [h1]
  by_cases k9 : a0 = 9
  · subst k9
    refine num_hit 9 a1 a2 a3 A c l _ w 38 3 rfl (enters_of Try.func38 (by kernel_rfl) rfl) fun W hb => check_numbers_4.calls 9 a1 a2 a3 A c l _ W (Kd.C_below hr hb) hc ?_
    unfold check_numbers_4.f numB
    by_cases h1 : a1 = 0 <;> by_cases h2 : a2 ≥ 1 <;> simp [h1, h2]
  by_cases k1 : a0 = 1
  · subst k1
    exact num_hit 1 a1 a2 a3 A c l _ w 39 4 rfl (enters_of Try.func39 (by kernel_rfl) rfl) fun W hb => check_plain.calls 1 a1 a2 a3 A c l _ W (Kd.C_below hr hb) hc (by rw [plain_f]; rfl)
  by_cases k4 : a0 = 4
  · subst k4
    exact num_hit 4 a1 a2 a3 A c l _ w 39 5 rfl (enters_of Try.func39 (by kernel_rfl) rfl) fun W hb => check_plain.calls 4 a1 a2 a3 A c l _ W (Kd.C_below hr hb) hc (by rw [plain_f]; rfl)
  by_cases k6 : a0 = 6
  · subst k6
    exact num_hit 6 a1 a2 a3 A c l _ w 39 6 rfl (enters_of Try.func39 (by kernel_rfl) rfl) fun W hb => check_plain.calls 6 a1 a2 a3 A c l _ W (Kd.C_below hr hb) hc (by rw [plain_f]; rfl)
  by_cases k7 : a0 = 7
  · subst k7
    exact num_hit 7 a1 a2 a3 A c l _ w 39 7 rfl (enters_of Try.func39 (by kernel_rfl) rfl) fun W hb => check_plain.calls 7 a1 a2 a3 A c l _ W (Kd.C_below hr hb) hc (by rw [plain_f]; rfl)
  by_cases k8 : a0 = 8
  · subst k8
    exact num_hit 8 a1 a2 a3 A c l _ w 39 8 rfl (enters_of Try.func39 (by kernel_rfl) rfl) fun W hb => check_plain.calls 8 a1 a2 a3 A c l _ W (Kd.C_below hr hb) hc (by rw [plain_f]; rfl)
  by_cases k10 : a0 = 10
  · subst k10
    exact num_hit 10 a1 a2 a3 A c l _ w 39 9 rfl (enters_of Try.func39 (by kernel_rfl) rfl) fun W hb => check_plain.calls 10 a1 a2 a3 A c l _ W (Kd.C_below hr hb) hc (by rw [plain_f]; rfl)
  have hz : numB a0 a1 a2 = false := by simp [numB, k2, k3, k5, k9, k1, k4, k6, k7, k8, k10]
  rw [hz]
  refine num_miss a0 a1 a2 a3 A c l w ?_
  simp [km10, Instr.findNow, Instr.sameNow, beq_eq_false_iff_ne.2 k2, beq_eq_false_iff_ne.2 k3, beq_eq_false_iff_ne.2 k5, beq_eq_false_iff_ne.2 k9, beq_eq_false_iff_ne.2 k1, beq_eq_false_iff_ne.2 k4, beq_eq_false_iff_ne.2 k6, beq_eq_false_iff_ne.2 k7, beq_eq_false_iff_ne.2 k8, beq_eq_false_iff_ne.2 k10]
end Go.Proofs.Ytnjlonenckifpaa.X
namespace Go.Proofs.Ytnjlonenckifpaa.X
set_option linter.unusedVariables false
set_option linter.unusedSimpArgs false
open Go.RowKit Go.Proofs.YtnjlonenckifpaaW.PrintWords Go.Proofs.YtnjlonenckifpaaW.PrintLast Go.Proofs.YtnjlonenckifpaaW.PrintMore
def gone (th : List Bool) (x : Int) : Bool := !th.getD x.toNat false
def okAt (G : List S39) (th : List Bool) (i : Nat) : Bool := !th.getD i false && ((rd_T39 G (i : Int)).f0 == 9 || !(rd_T39 G (i : Int)).f4.any (gone th))
def orderGo (G : List S39) : Nat → List Bool → List Int → List Int
  | 0, _, out => out
  | f + 1, th, out => match (List.range G.length).find? (okAt G th) with
    | none => out
    | some i => orderGo G f (th.set i true) (out ++ [(i : Int)])
def orderL (G : List S39) : List Int := orderGo G (G.length + 1) (List.replicate G.length false) []
def insOk (G : List S39) : Bool := decide (G.length ≤ 64) && G.all fun n => n.f4.all (inRange G)
def check_order.f (G : List S39) : Option (List Int) := if insOk G = true then some (orderL G) else none
theorem find_range_some {n : Nat} {p : Nat → Bool} {i : Nat} (hi : i < n) (hp : p i = true) (hb : ∀ j, j < i → p j = false) : (List.range n).find? p = some i := by
  rw [List.find?_eq_some_iff_append]
  refine ⟨hp, List.range i, (List.range (n - i - 1)).map (i + 1 + ·), ?_, fun j hj => by simp [hb j (List.mem_range.1 hj)]⟩
  apply List.ext_getElem?
  intro k
  rcases Nat.lt_trichotomy k i with h | h | h
  · rw [List.getElem?_append_left (by simpa using h)]
    simp [h, show k < n by omega]
  · subst h
    rw [List.getElem?_append_right (by simp)]
    simp [hi]
  · rw [List.getElem?_append_right (by simp; omega)]
    simp only [List.length_range]
    rw [show k - i = (k - i - 1) + 1 by omega, List.getElem?_cons_succ]
    by_cases hk : k < n
    · simp [hk, show k - i - 1 < n - i - 1 by omega]; omega
    · rw [List.getElem?_eq_none (by simp; omega), List.getElem?_eq_none (by simp; omega)]
theorem find_range_none {n : Nat} {p : Nat → Bool} (hb : ∀ j, j < n → p j = false) : (List.range n).find? p = none := by
  rw [List.find?_eq_none]
  intro j hj
  simp [hb j (List.mem_range.1 hj)]
theorem count_set {th : List Bool} {i : Nat} (hi : i < th.length) (h : th.getD i false = false) : (th.set i true).count false + 1 = th.count false := by
  have h1 : th[i]? = some false := by
    simp only [List.getD_eq_getElem?_getD] at h
    rw [List.getElem?_eq_getElem hi] at h ⊢
    simpa using h
  have h2 : th[i] = false := by rw [List.getElem?_eq_getElem hi] at h1; simpa using h1
  rw [List.count_set hi]
  have h3 : 0 < th.count false := List.count_pos_iff.2 (List.mem_of_getElem? h1)
  simp [h2]
  omega
def boolRow (th : List Bool) : Array Value := (th.map Value.bool).toArray
theorem boolRow_set (th : List Bool) (i : Nat) (v : Bool) : (boolRow th).setIfInBounds i (.bool v) = boolRow (th.set i v) := by
  simp [boolRow, List.map_set]
theorem madeBools (n : Nat) : madeCells #[.bool false] (n * 1) = boolRow (List.replicate n false) := by
  apply Array.ext
  · simp [madeCells, boolRow]
  · intro i h1 h2
    simp [madeCells, boolRow, Nat.mod_one]
structure Row (w : World) (b : Nat) (th : List Bool) : Prop where mk :: (blk : w.heap[b]? = some (.cells (boolRow th) 4 (0, 0)))
theorem Row.cell {w : World} {b : Nat} {th : List Bool} (h : Row w b th) (i : Nat) (hi : i < th.length) : w.cell? ⟨b, i, none⟩ = some (.bool (th.getD i false)) := by
  simp [World.cell?, h.blk, boolRow, hi]
theorem Row.free {w : World} {b : Nat} {th : List Bool} (h : Row w b th) (i : Nat) : w.frozen? ⟨b, i, none⟩ = false := by
  simp [World.frozen?, h.blk]
theorem Row.lt {w : World} {b : Nat} {th : List Bool} (h : Row w b th) : b < w.heap.size := (Array.getElem?_eq_some_iff.1 h.blk).1
theorem Row.below {w w1 : World} {b : Nat} {th : List Bool} (h : Row w b th) (hb : Below w.heap.size w w1) : Row w1 b th := ⟨(hb.block b h.lt).trans h.blk⟩
theorem Row.grown {w w1 : World} {b : Nat} {th : List Bool} {row : Option Nat} (h : Row w b th) (hg : w.grownBy w1 row) (hne : some b ≠ row) : Row w1 b th := ⟨(hg.block b h.lt hne).trans h.blk⟩
theorem Row.drewN {w : World} {b : Nat} {th : List Bool} (h : Row w b th) (n : Nat) : Row (w.drewN n) b th := ⟨h.blk⟩
theorem Row.alloc {w : World} {b : Nat} {th : List Bool} (h : Row w b th) (o : Obj) : Row (w.alloc o) b th := h.below (below_alloc (Below.refl _ _) o)
theorem Row.set {w : World} {b : Nat} {th : List Bool} (h : Row w b th) (i : Nat) (v : Bool) : Row (w.setCell ⟨b, i, none⟩ (.bool v)) b (th.set i v) := ⟨by
  rw [heap_setCell_same w b i _ 4 _ h.blk, boolRow_set]⟩
theorem Row.far {w : World} {b : Nat} {th : List Bool} (h : Row w b th) {p : Addr} (hp : b ≠ p.block) (u : Value) : Row (w.setCell p u) b th := ⟨(Below.heap_setCell w p u b hp).trans h.blk⟩
structure Var (w : World) (b : Nat) (v : Value) (t : TypeId) : Prop where mk :: (blk : w.heap[b]? = some (.cells #[v] t (0, 0)))
theorem Var.cell {w : World} {b : Nat} {v : Value} {t : TypeId} (h : Var w b v t) : w.cell? ⟨b, 0, none⟩ = some v := by simp [World.cell?, h.blk]
theorem Var.lt {w : World} {b : Nat} {v : Value} {t : TypeId} (h : Var w b v t) : b < w.heap.size := (Array.getElem?_eq_some_iff.1 h.blk).1
theorem Var.below {w w1 : World} {b : Nat} {v : Value} {t : TypeId} (h : Var w b v t) (hb : Below w.heap.size w w1) : Var w1 b v t := ⟨(hb.block b h.lt).trans h.blk⟩
theorem Var.grown {w w1 : World} {b : Nat} {v : Value} {t : TypeId} {row : Option Nat} (h : Var w b v t) (hg : w.grownBy w1 row) (hne : some b ≠ row) : Var w1 b v t := ⟨(hg.block b h.lt hne).trans h.blk⟩
theorem Var.drewN {w : World} {b : Nat} {v : Value} {t : TypeId} (h : Var w b v t) (n : Nat) : Var (w.drewN n) b v t := ⟨h.blk⟩
theorem Var.alloc {w : World} {b : Nat} {v : Value} {t : TypeId} (h : Var w b v t) (o : Obj) : Var (w.alloc o) b v t := h.below (below_alloc (Below.refl _ _) o)
theorem Var.far {w : World} {b : Nat} {v : Value} {t : TypeId} (h : Var w b v t) {p : Addr} (hp : b ≠ p.block) (u : Value) : Var (w.setCell p u) b v t := ⟨(Below.heap_setCell w p u b hp).trans h.blk⟩
set_option maxHeartbeats 2000000 in
theorem gone_calls (th : List Bool) (n : Nat) (hn : th.length = n) (hn2 : n ≤ 64) (x : Int) (h0 : 0 ≤ x) (h1 : x < (n : Int)) (b0 b1 : Nat) (w : World) (hv : Var w b1 (.slice (some ⟨b0, 0, none⟩) n n) 37) (hr : Row w b0 th) :
    Calls Try.prog 51 #[.int .i64 x, .pointer (some ⟨b1, 0, none⟩)] w fun e w' => e = .returned (.bool (gone th x)) ∧ ∃ q', w' = w.drewN q' := by
  have hc1 := hv.cell
  have hc0 := hr.cell x.toNat (by omega)
  have HP := Aside0.mk (show gone th x = !(th.getD x.toNat false) from rfl)
  have hk : n ≤ 9223372036854775807 := by omega
  generalize th.getD x.toNat false = v at hc0 HP
  clear hv hr hn
  go_enter Try.func51, Try.ntmps51
  go_wp2
  go_ret
  exact ⟨by rw [HP.out]; rfl, 0, rfl⟩
theorem Asks.gone {th : List Bool} {n : Nat} (hn : th.length = n) (hn2 : n ≤ 64) {l : List Int} (hl : ∀ x ∈ l, 0 ≤ x ∧ x < (n : Int)) {b0 b1 : Nat} {w : World} (hv : Var w b1 (.slice (some ⟨b0, 0, none⟩) n n) 37) (hr : Row w b0 th) :
    Asks 51 #[.pointer (some ⟨b1, 0, none⟩)] (gone th) l w := fun j x hj q =>
  gone_calls th n hn hn2 x (hl x (List.mem_of_getElem? hj)).1 (hl x (List.mem_of_getElem? hj)).2 b0 b1 _ (hv.drewN q) (hr.drewN q)
end Go.Proofs.Ytnjlonenckifpaa.X
namespace Go.Proofs.Ytnjlonenckifpaa.X
set_option linter.unusedVariables false
set_option linter.unusedSimpArgs false
open Go.RowKit Go.Proofs.YtnjlonenckifpaaW.PrintWords Go.Proofs.YtnjlonenckifpaaW.PrintLast Go.Proofs.YtnjlonenckifpaaW.PrintMore
theorem insOk_at {G : List S39} (h : insOk G = true) (i : Nat) (hi : i < G.length) : ∀ x ∈ (rd_T39 G (i : Int)).f4, 0 ≤ x ∧ x < (G.length : Int) := by
  simp only [insOk, Bool.and_eq_true, List.all_eq_true] at h
  intro x hx
  have := h.2 (rd_T39 G (i : Int)) (by simp [rd_T39, hi]) x hx
  simpa [inRange] using this
theorem run_make_row0 (n : Nat) (hn : n ≤ 64) (W : World) : (Instr.makeSlice 37 (.int .i64 (n : Int)) (.int .i64 (n : Int))).run Try.prog W = .ok (.slice (some ⟨W.heap.size, 0, none⟩) n n) (W.alloc (.cells (boolRow (List.replicate n false)) 4)) := by
  obtain ⟨i, hi, hz, hs, hb⟩ := info_parts info4
  have := run_make (P := Try.prog) W 37 4 i (.bool false) Try.underlying37 hi hz .i64 .i64 (n : Int) (n : Int) (by omega) (by omega) (by rw [hb]; omega) (by omega)
  simp only [Int.toNat_natCast, hs] at this
  rw [this, ← madeBools]
  rfl
theorem okAt_step {G : List S39} {th : List Bool} {k : Nat} (h : ∀ j, j < k → okAt G th j = false) (hk : okAt G th k = false) : ∀ j, j < k + 1 → okAt G th j = false := fun j hj => by
  by_cases e : j = k
  · rw [e]; exact hk
  · exact h j (by omega)
theorem orderGo_found {G : List S39} {th : List Bool} {out : List Int} {k : Nat} (f : Nat) (hk : k < G.length) (hF : okAt G th k = true) (hb : ∀ j, j < k → okAt G th j = false) : orderGo G (f + 1) th out = orderGo G f (th.set k true) (out ++ [(k : Int)]) := by
  rw [orderGo, find_range_some hk hF hb]
theorem orderGo_none {G : List S39} {th : List Bool} {out : List Int} (f : Nat) (hb : ∀ j, j < G.length → okAt G th j = false) : orderGo G (f + 1) th out = out := by
  rw [orderGo, find_range_none hb]
theorem below_at {w W W' : World} (h : W' = W) (k : Below w.heap.size w W) : Below w.heap.size w W' := by rw [h]; exact k
theorem row_at {W W' : World} (h : W' = W) {b : Nat} {th : List Bool} (k : Row W b th) : Row W' b th := by rw [h]; exact k
theorem var_at {W W' : World} (h : W' = W) {b : Nat} {v : Value} {t : TypeId} (k : Var W b v t) : Var W' b v t := by rw [h]; exact k
theorem r_at {W W' : World} (h : W' = W) {α : Type} {d : Kd α} {e base : Nat} {ok : Nat → Prop} {v : Value} {xs : List α} (k : Kd.R d e W base ok v xs) : Kd.R d e W' base ok v xs := by rw [h]; exact k
theorem ne34 : ∀ q, q ∈ 3 :: (Kd.int .i64).E → q ≠ 4 := by
  intro q hq
  simp [Kd.int, Kd.scalar] at hq
  omega
set_option maxHeartbeats 8000000 in
set_option maxRecDepth 100000 in
theorem check_order.calls (A : Option Addr) (c : Nat) (G : List S39) (r : List Int) (w : World) (hr : Kd.C k39 w A G.length G) (_hc : G.length ≤ c) (h : check_order.f G = some r) :
    Calls Try.prog 34 #[.slice A G.length c] w fun e w' => ∃ v0_ : Value, e = .returned (v0_) ∧ Kd.R (Kd.int .i64) 3 w' w.heap.size (fun _ => True) v0_ r ∧ Below w.heap.size w w' := by
  have hm : insOk G = true ∧ orderL G = r := by simpa [check_order.f] using h
  obtain ⟨hok, hres⟩ := hm
  clear h _hc
  have hn : G.length ≤ 64 := by simp [insOk] at hok; exact hok.1
  have HOK := Aside0.mk hok
  have HRES := Aside0.mk hres
  have HR := Aside0.mk hr
  clear hr hok hres
  have hmk := fun W : World => run_make_row0 G.length hn W
  have eg := enters_of Try.func51 (by kernel_rfl) rfl
  have HB0 := Aside0.mk (Below.refl w.heap.size w)
  go_enter Try.func34, Try.ntmps34
  go_wp2
  go_loopg [5, 6] (G.length + 1) (fun gg v5 v6 wr => ∃ (th : List Bool) (out : List Int) (fb : Bool), v6 = .bool fb ∧ Aside0 (th.length = G.length) ∧ Aside0 (Row wr w.heap.size th) ∧
      Aside0 (Var wr (w.heap.size + 1) (.slice (some ⟨w.heap.size, 0, none⟩) G.length G.length) 37) ∧ Aside0 (Kd.R (Kd.int .i64) 3 wr w.heap.size (fun _ => True) v5 out) ∧
      Aside0 ((fb = true → orderGo G gg th out = r ∧ th.count false < gg) ∧ (fb = false → out = r)) ∧ Aside0 (out.length + th.count false ≤ 64) ∧ Aside0 (Below w.heap.size w wr))
  case atStart =>
    refine ⟨List.replicate G.length false, [], true, rfl, ⟨by simp⟩, ⟨Row.alloc ⟨heap_alloc_last w _⟩ _⟩, ⟨⟨?_⟩⟩, ⟨Kd.R_nil _ _ _ _ _⟩, ⟨fun _ => ⟨HRES.out, ?_⟩, fun h => by cases h⟩, ⟨?_⟩, ⟨below_alloc (below_alloc HB0.out _) _⟩⟩
    · have := heap_alloc_last (w.alloc (.cells (boolRow (List.replicate G.length false)) 4)) (.cells #[.slice (some ⟨w.heap.size, 0, none⟩) G.length G.length] 37)
      simpa using this
    · simp
    · simp; omega
  case round =>
    obtain ⟨th, out, fb, rfl, HTL, HROW, HVAR, HOUT, HGO, HCNT, HB⟩ := hrel
    cases fb with
    | false =>
      obtain rfl := HGO.out.2 rfl
      clear HGO
      go_wp2
      go_ret
      exact ⟨u5, rfl, HOUT.out, HB.out⟩
    | true =>
      cases gk with
      | zero => exact absurd (HGO.out.1 rfl).2 (by omega)
      | succ gg =>
        have HGO1 := Aside0.mk (HGO.out.1 rfl).1
        have HGO2 := Aside0.mk (HGO.out.1 rfl).2
        clear HGO
        go_wp2
        obtain ⟨wo, rfl⟩ : ∃ wo : World, wo = wr := ⟨_, rfl⟩
        go_loopg [5, 6, 16] G.length (fun g2 v5 v6 v16 wr => v5 = u5 ∧ v6 = .bool false ∧ ∃ k : Nat, v16 = .int .i64 k ∧ k ≤ G.length ∧ G.length - k ≤ g2 ∧ Aside0 (∀ j, j < k → okAt G th j = false) ∧ Aside0 (Row wr w.heap.size th) ∧
          Aside0 (Var wr (w.heap.size + 1) (.slice (some ⟨w.heap.size, 0, none⟩) G.length G.length) 37) ∧ Aside0 (Kd.R (Kd.int .i64) 3 wr w.heap.size (fun _ => True) u5 out) ∧ Aside0 (Below w.heap.size w wr))
        case atStart => exact ⟨rfl, rfl, 0, rfl, Nat.zero_le _, by omega, ⟨fun j hj => absurd hj (Nat.not_lt_zero _)⟩, HROW, HVAR, HOUT, HB⟩
        case round =>
          clear HROW HVAR HOUT HB
          obtain ⟨rfl, rfl, k, rfl, hk, hg2, HNO, HROW, HVAR, HOUT, HB⟩ := hrel
          by_cases hlt : k < G.length
          · have hltz : (k : Int) < (G.length : Int) := by omega
            obtain ⟨ad, A4, c4, eA, q0, q1, q2, q3, q4, hl4, hC4⟩ := at_T39 (Kd.C_below HR.out HB.out) (k : Int) (by omega) hltz
            subst eA
            simp only [Int.toNat_natCast] at q0 q1 q2 q3 q4
            have HC4 := Aside0.mk hC4
            have HIN := Aside0.mk (insOk_at HOK.out k hlt)
            have HOKAT := Aside0.mk (show okAt G th k = (!th.getD k false && ((rd_T39 G (k : Int)).f0 == 9 || !(rd_T39 G (k : Int)).f4.any (gone th))) from rfl)
            clear hC4 hl4
            have hc1 := HVAR.out.cell
            have hl1 := HVAR.out.lt
            have hc0 := HROW.out.cell k (by rw [HTL.out]; exact hlt)
            have hl0 := HROW.out.lt
            have hf0 := HROW.out.free k
            generalize rd_T39 G (k : Int) = nd at q0 q1 q2 q3 q4 HC4 HIN HOKAT
            have hkb : k ≤ 64 := by omega
            by_cases hth : th.getD k false = true
            · rw [hth] at hc0
              have HF := Aside0.mk (show okAt G th k = false by rw [HOKAT.out, hth]; rfl)
              clear hth
              go_wp2
              go_roundg (G.length - (k + 1))
              case measure => omega
              case rel => exact ⟨rfl, rfl, k + 1, by go_num, by omega, by omega, ⟨okAt_step HNO.out HF.out⟩, ⟨HROW.out.alloc _⟩, ⟨HVAR.out.alloc _⟩, ⟨Kd.R_alloc HOUT.out _⟩, ⟨below_alloc HB.out _⟩⟩
            · have hth' : th.getD k false = false := by simpa using hth
              clear hth
              rw [hth'] at hc0
              have HCS := Aside0.mk (count_set (by rw [HTL.out]; exact hlt) hth')
              have HTH := Aside0.mk hth'
              have HNA := Aside0.mk (Kd.R_ne HOUT.out HROW.out.blk (by decide))
              have HNB := Aside0.mk (Kd.R_ne HOUT.out HVAR.out.blk (by decide))
              clear hth'
              have HNEXT0 := Aside0.mk (fun hF : okAt G th k = true => (orderGo_found (out := out) gg hlt hF HNO.out).symm.trans HGO1.out)
              by_cases h9 : nd.f0 = 9
              · have h9b : (nd.f0 == 9) = true := beq_iff_eq.2 h9
                have HNEXT := Aside0.mk (HNEXT0.out (by rw [HOKAT.out, HTH.out, h9b]; rfl))
                clear h9
                go_wp2_with (first | ((with_reducible refine gate_builtin (b := .append) (xs := #[.tmp 41, .tmp 43]) rfl ?_); at_builtin; (refine Kd.R_append (Kd.int .i64) (w0 := w) w.heap.size rfl (.tmp 41) (.tmp 43) 33 3 (.int .i64 0) 8 rfl Try.underlying33 info3 rfl (by decide) (by omega) u5 out (k : Int) [.int .i64 (k : Int)] (fun _ => True) (fun _ => False) rfl ?aX ?aP (fun _ hk => hk.elim) ?aF ?aO ?aB ?aS ?aL ?_; (case aX => show Value.slice (some ⟨wr.heap.size + 1, 0, none⟩) 1 1 = _; simp); (case aP => exact rfl); (case aB => exact below_alloc (below_set HB.out (Nat.le_refl _)) _); (case aF => exact (fun _ _ => trivial)); (case aO => exact Kd.R_alloc (Kd.R_set HOUT.out HROW.out.blk ne34 k (.bool true)) _); (case aS => exact below_size (below_alloc (below_set HB.out (Nat.le_refl _)) _)); (case aL => have := HCNT.out; omega); intro v118 w4 ho hb hg hat; (have HOUT1 := Aside0.mk ho); (have HB1 := Aside0.mk hb); (have HROW1 := Aside0.mk (Row.grown (Row.alloc (Row.set HROW.out k true) _) hg HNA.out)); (have HVAR1 := Aside0.mk (Var.grown (Var.alloc (Var.far HVAR.out (p := ⟨w.heap.size, k, none⟩) (by simp) _) _) hg HNB.out)); clear ho hb hg hat)))
                go_roundg gg
                case measure => omega
                case rel => exact ⟨th.set k true, out ++ [(k : Int)], true, rfl, ⟨by rw [List.length_set]; exact HTL.out⟩, HROW1, HVAR1, HOUT1, ⟨(fun _ => ⟨HNEXT.out, by have := HCS.out; have := HGO2.out; omega⟩), (fun h => nomatch h)⟩, ⟨by rw [List.length_append]; have := HCS.out; have := HCNT.out; simp; omega⟩, HB1⟩
              · have h9b : (nd.f0 == 9) = false := beq_eq_false_iff_ne.2 h9
                clear h9
                cases hany : nd.f4.any (gone th) with
                | true =>
                  have HF := Aside0.mk (show okAt G th k = false by rw [HOKAT.out, hany, h9b]; simp)
                  have HANY := Aside0.mk hany
                  clear hany
                  go_wp2_with (first | (go_at_call 42; refine (contains_calls A4 c4 nd.f4 51 #[.pointer (some ⟨w.heap.size + 1, 0, none⟩)] (gone th) eg _ (Kd.C_alloc HC4.out _) (Asks.gone HTL.out hn HIN.out (HVAR.out.alloc _) (HROW.out.alloc _))).mono ?_; rintro e w6 ⟨rfl, q, hw⟩; (have HW := Aside0.mk hw; clear hw); (have HB6 := Aside0.mk (below_at HW.out (pw_below_drewN (below_alloc HB.out _) q))); (have HROW6 := Aside0.mk (row_at HW.out ((HROW.out.alloc _).drewN q))); (have HVAR6 := Aside0.mk (var_at HW.out ((HVAR.out.alloc _).drewN q))); (have HOUT6 := Aside0.mk (r_at HW.out (Kd.R_drewN (Kd.R_alloc HOUT.out _) q))); clear HW; (rw [HANY.out])))
                  go_roundg (G.length - (k + 1))
                  case measure => omega
                  case rel => exact ⟨rfl, rfl, k + 1, by go_num, by omega, by omega, ⟨okAt_step HNO.out HF.out⟩, HROW6, HVAR6, HOUT6, HB6⟩
                | false =>
                  have HNEXT := Aside0.mk (HNEXT0.out (by rw [HOKAT.out, HTH.out, h9b, hany]; rfl))
                  have HANY := Aside0.mk hany
                  clear hany
                  go_wp2_with (first | (go_at_call 42; refine (contains_calls A4 c4 nd.f4 51 #[.pointer (some ⟨w.heap.size + 1, 0, none⟩)] (gone th) eg _ (Kd.C_alloc HC4.out _) (Asks.gone HTL.out hn HIN.out (HVAR.out.alloc _) (HROW.out.alloc _))).mono ?_; rintro e w6 ⟨rfl, q, hw⟩; (have HW := Aside0.mk hw; clear hw); (have HB6 := Aside0.mk (below_at HW.out (pw_below_drewN (below_alloc HB.out _) q))); (have HROW6 := Aside0.mk (row_at HW.out ((HROW.out.alloc _).drewN q))); (have HVAR6 := Aside0.mk (var_at HW.out ((HVAR.out.alloc _).drewN q))); (have HOUT6 := Aside0.mk (r_at HW.out (Kd.R_drewN (Kd.R_alloc HOUT.out _) q))); clear HW; (rw [HANY.out]); (have c61 := HVAR6.out.cell); (have c60 := HROW6.out.cell k (by rw [HTL.out]; exact hlt)); (rw [HTH.out] at c60); (have f60 := HROW6.out.free k); (have l60 := HROW6.out.lt)) | ((with_reducible refine gate_builtin (b := .append) (xs := #[.tmp 41, .tmp 43]) rfl ?_); at_builtin; (refine Kd.R_append (Kd.int .i64) (w0 := w) w.heap.size rfl (.tmp 41) (.tmp 43) 33 3 (.int .i64 0) 8 rfl Try.underlying33 info3 rfl (by decide) (by omega) u5 out (k : Int) [.int .i64 (k : Int)] (fun _ => True) (fun _ => False) rfl ?aX ?aP (fun _ hk => hk.elim) ?aF ?aO ?aB ?aS ?aL ?_; (case aX => show Value.slice (some ⟨w6.heap.size, 0, none⟩) 1 1 = _; simp); (case aP => exact rfl); (case aB => exact below_set HB6.out (Nat.le_refl _)); (case aF => exact (fun _ _ => trivial)); (case aO => exact Kd.R_set HOUT6.out HROW6.out.blk ne34 k (.bool true)); (case aS => exact below_size (below_set HB6.out (Nat.le_refl _))); (case aL => have := HCNT.out; omega); intro v118 w4 ho hb hg hat; (have HOUT1 := Aside0.mk ho); (have HB1 := Aside0.mk hb); (have HROW1 := Aside0.mk (Row.grown (Row.set HROW6.out k true) hg HNA.out)); (have HVAR1 := Aside0.mk (Var.grown (Var.far HVAR6.out (p := ⟨w.heap.size, k, none⟩) (by simp) _) hg HNB.out)); clear ho hb hg hat)))
                  go_roundg gg
                  case measure => omega
                  case rel => exact ⟨th.set k true, out ++ [(k : Int)], true, rfl, ⟨by rw [List.length_set]; exact HTL.out⟩, HROW1, HVAR1, HOUT1, ⟨(fun _ => ⟨HNEXT.out, by have := HCS.out; have := HGO2.out; omega⟩), (fun h => nomatch h)⟩, ⟨by rw [List.length_append]; have := HCS.out; have := HCNT.out; simp; omega⟩, HB1⟩
          · have hke : k = G.length := by omega
            subst hke
            have HFIN := Aside0.mk (show out = r by have := HGO1.out; rw [orderGo_none gg HNO.out] at this; exact this)
            have hltz : ¬ (G.length : Int) < (G.length : Int) := by omega
            go_wp2
            go_roundg gg
            case measure => omega
            case rel => exact ⟨th, out, false, rfl, HTL, HROW, HVAR, HOUT, ⟨(fun h => nomatch h), fun _ => HFIN.out⟩, HCNT, HB⟩
end Go.Proofs.Ytnjlonenckifpaa.X
