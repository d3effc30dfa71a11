/- A part of the proof. -/
import Derived.Test.YtnjlonenckifpaaCP1
import Derived.WideMake
import Derived.Laws.MakeOwn
import Derived.Laws.Rows
import Derived.Outline
import Derived.Deep.DeepMust
namespace Go.Proofs.Ytnjlonenckifpaa.X
open Go.RowKit Go.Proofs.YtnjlonenckifpaaW.PrintWords Go.Proofs.YtnjlonenckifpaaW.PrintLast Go.Proofs.YtnjlonenckifpaaW.PrintMore
attribute [local go_sem] max2_int max_two
set_option linter.unusedVariables false
set_option linter.unusedSimpArgs false
def check_numbers_1.f (a0_0 : Int) (a0_1 : Int) (a0_2 : Int) (a0_3 : Int) (l0_4 : List Int) : Option (Bool) := if a0_1 ≤ 3 then (if a0_1 < 3 then (some true) else (some (decide (a0_2 > 0)))) else (some false)
set_option maxHeartbeats 8000000 in
set_option maxRecDepth 100000 in
theorem check_numbers_1.calls (a0_0 : Int) (a0_1 : Int) (a0_2 : Int) (a0_3 : Int) (A0_4 : Option Addr) (c0_4 : Nat) (l0_4 : List Int) (r : Bool) (w : World) (hr0_4 : Kd.C (Kd.int .i64) w A0_4 l0_4.length l0_4) (hc0_4 : l0_4.length ≤ c0_4) (h : check_numbers_1.f a0_0 a0_1 a0_2 a0_3 l0_4 = some r) :
    Calls Try.prog 35 #[.agg #[.int .u8 a0_0, .int .u8 a0_1, .int .i64 a0_2, .int .i64 a0_3, .slice A0_4 l0_4.length c0_4]] w fun e w' => e = .returned (.bool r) ∧ Below w.heap.size w w' := by
  have hu39 := Try.underlying39
  have HR0_4 := Aside0.mk hr0_4
  have HC0_4 := Aside0.mk hc0_4
  clear hr0_4 hc0_4
  have HB := Aside0.mk (Below.refl w.heap.size w)
  have H : (if a0_1 ≤ 3 then (if a0_1 < 3 then (some true) else (some (decide (a0_2 > 0)))) else (some false)) = some r := h
  clear h
  by_cases c2 : a0_1 ≤ 3
  · rw [if_pos c2] at H
    have c2b0 : decide (a0_1 ≤ 3) = true := decide_eq_true c2
    clear c2
    by_cases c3 : a0_1 < 3
    · rw [if_pos c3] at H
      have c3b0 : decide (a0_1 < 3) = true := decide_eq_true c3
      clear c3
      obtain rfl := Option.some.inj H
      go_enter Try.func35, Try.ntmps35
      go_wp2_with (first | ((with_reducible refine gate_dst (N := 1) rfl ?_); refine box_event ?hg (N := 1) ?hd (cs := #[.int .u8 a0_0, .int .u8 a0_1, .int .i64 a0_2, .int .i64 a0_3, .slice A0_4 l0_4.length c0_4]) (t := 39) ?hr ?_; (case hd => rfl); (case hg => rfl); (case hr => first | (go_simp; done) | (go_simp; rfl)); intro gb101 hg w4 hbox hb; have n0_ := Aside0.mk (below_step (by repeat (first | (with_reducible first | exact HB.out | apply below_alloc | apply pw_below_drewN | apply below_drew1) | exact HB.out)) hb); have n1_ := Aside0.mk (hbox); have n2_ := Aside0.mk ((by rw [hg]; exact (below_size (by repeat (first | (with_reducible first | exact HB.out | apply below_alloc | apply pw_below_drewN | apply below_drew1) | exact HB.out))) : w.heap.size ≤ gb101)); have n3_ := Aside0.mk ((by rw [hg]; exact (below_size (by repeat (first | (with_reducible first | exact HB.out | apply below_alloc | apply pw_below_drewN | apply below_drew1) | exact HB.out))) : w.heap.size ≤ gb101)); clear HB; have HB := n0_; have BK101 := n1_; have GW101 := n2_; have GE101 := n3_; clear n0_ n1_ n2_ n3_; clear hb hbox hg; have hcz5_0 : w4.cell? ⟨gb101, 0, none⟩ = some (.int .u8 a0_0) := (blk_cell BK101.out 0).trans rfl; have hcz5_1 : w4.cell? ⟨gb101, 1, none⟩ = some (.int .u8 a0_1) := (blk_cell BK101.out 1).trans rfl; have hcz5_2 : w4.cell? ⟨gb101, 2, none⟩ = some (.int .i64 a0_2) := (blk_cell BK101.out 2).trans rfl; have hcz5_3 : w4.cell? ⟨gb101, 3, none⟩ = some (.int .i64 a0_3) := (blk_cell BK101.out 3).trans rfl; have hcz5_4 : w4.cell? ⟨gb101, 4, none⟩ = some (.slice A0_4 l0_4.length c0_4) := (blk_cell BK101.out 4).trans rfl; have hfz5_0 := blk_frozen BK101.out 0; have hfz5_1 := blk_frozen BK101.out 1; have hfz5_2 := blk_frozen BK101.out 2; have hfz5_3 := blk_frozen BK101.out 3; have hfz5_4 := blk_frozen BK101.out 4))
      go_ret
      exact ⟨by first | rfl | (simp [errW_none, errW_some] <;> rfl) | (simp [*, errW_none, errW_some] <;> rfl), by repeat (first | (with_reducible first | exact HB.out | apply below_alloc | apply pw_below_drewN | apply below_drew1 | refine below_set ?_ GE101.out) | exact HB.out)⟩
    · rw [if_neg c3] at H
      have c3b0 : decide (a0_1 < 3) = false := decide_eq_false c3
      clear c3
      obtain rfl := Option.some.inj H
      go_enter Try.func35, Try.ntmps35
      go_wp2_with (first | ((with_reducible refine gate_dst (N := 1) rfl ?_); refine box_event ?hg (N := 1) ?hd (cs := #[.int .u8 a0_0, .int .u8 a0_1, .int .i64 a0_2, .int .i64 a0_3, .slice A0_4 l0_4.length c0_4]) (t := 39) ?hr ?_; (case hd => rfl); (case hg => rfl); (case hr => first | (go_simp; done) | (go_simp; rfl)); intro gb101 hg w6 hbox hb; have n0_ := Aside0.mk (below_step (by repeat (first | (with_reducible first | exact HB.out | apply below_alloc | apply pw_below_drewN | apply below_drew1) | exact HB.out)) hb); have n1_ := Aside0.mk (hbox); have n2_ := Aside0.mk ((by rw [hg]; exact (below_size (by repeat (first | (with_reducible first | exact HB.out | apply below_alloc | apply pw_below_drewN | apply below_drew1) | exact HB.out))) : w.heap.size ≤ gb101)); have n3_ := Aside0.mk ((by rw [hg]; exact (below_size (by repeat (first | (with_reducible first | exact HB.out | apply below_alloc | apply pw_below_drewN | apply below_drew1) | exact HB.out))) : w.heap.size ≤ gb101)); clear HB; have HB := n0_; have BK101 := n1_; have GW101 := n2_; have GE101 := n3_; clear n0_ n1_ n2_ n3_; clear hb hbox hg; have hcz7_0 : w6.cell? ⟨gb101, 0, none⟩ = some (.int .u8 a0_0) := (blk_cell BK101.out 0).trans rfl; have hcz7_1 : w6.cell? ⟨gb101, 1, none⟩ = some (.int .u8 a0_1) := (blk_cell BK101.out 1).trans rfl; have hcz7_2 : w6.cell? ⟨gb101, 2, none⟩ = some (.int .i64 a0_2) := (blk_cell BK101.out 2).trans rfl; have hcz7_3 : w6.cell? ⟨gb101, 3, none⟩ = some (.int .i64 a0_3) := (blk_cell BK101.out 3).trans rfl; have hcz7_4 : w6.cell? ⟨gb101, 4, none⟩ = some (.slice A0_4 l0_4.length c0_4) := (blk_cell BK101.out 4).trans rfl; have hfz7_0 := blk_frozen BK101.out 0; have hfz7_1 := blk_frozen BK101.out 1; have hfz7_2 := blk_frozen BK101.out 2; have hfz7_3 := blk_frozen BK101.out 3; have hfz7_4 := blk_frozen BK101.out 4))
      go_ret
      exact ⟨by first | rfl | (simp [errW_none, errW_some] <;> rfl) | (simp [*, errW_none, errW_some] <;> rfl), by repeat (first | (with_reducible first | exact HB.out | apply below_alloc | apply pw_below_drewN | apply below_drew1 | refine below_set ?_ GE101.out) | exact HB.out)⟩
  · rw [if_neg c2] at H
    have c2b0 : decide (a0_1 ≤ 3) = false := decide_eq_false c2
    clear c2
    obtain rfl := Option.some.inj H
    go_enter Try.func35, Try.ntmps35
    go_wp2_with (first | ((with_reducible refine gate_dst (N := 1) rfl ?_); refine box_event ?hg (N := 1) ?hd (cs := #[.int .u8 a0_0, .int .u8 a0_1, .int .i64 a0_2, .int .i64 a0_3, .slice A0_4 l0_4.length c0_4]) (t := 39) ?hr ?_; (case hd => rfl); (case hg => rfl); (case hr => first | (go_simp; done) | (go_simp; rfl)); intro gb101 hg w8 hbox hb; have n0_ := Aside0.mk (below_step (by repeat (first | (with_reducible first | exact HB.out | apply below_alloc | apply pw_below_drewN | apply below_drew1) | exact HB.out)) hb); have n1_ := Aside0.mk (hbox); have n2_ := Aside0.mk ((by rw [hg]; exact (below_size (by repeat (first | (with_reducible first | exact HB.out | apply below_alloc | apply pw_below_drewN | apply below_drew1) | exact HB.out))) : w.heap.size ≤ gb101)); have n3_ := Aside0.mk ((by rw [hg]; exact (below_size (by repeat (first | (with_reducible first | exact HB.out | apply below_alloc | apply pw_below_drewN | apply below_drew1) | exact HB.out))) : w.heap.size ≤ gb101)); clear HB; have HB := n0_; have BK101 := n1_; have GW101 := n2_; have GE101 := n3_; clear n0_ n1_ n2_ n3_; clear hb hbox hg; have hcz9_0 : w8.cell? ⟨gb101, 0, none⟩ = some (.int .u8 a0_0) := (blk_cell BK101.out 0).trans rfl; have hcz9_1 : w8.cell? ⟨gb101, 1, none⟩ = some (.int .u8 a0_1) := (blk_cell BK101.out 1).trans rfl; have hcz9_2 : w8.cell? ⟨gb101, 2, none⟩ = some (.int .i64 a0_2) := (blk_cell BK101.out 2).trans rfl; have hcz9_3 : w8.cell? ⟨gb101, 3, none⟩ = some (.int .i64 a0_3) := (blk_cell BK101.out 3).trans rfl; have hcz9_4 : w8.cell? ⟨gb101, 4, none⟩ = some (.slice A0_4 l0_4.length c0_4) := (blk_cell BK101.out 4).trans rfl; have hfz9_0 := blk_frozen BK101.out 0; have hfz9_1 := blk_frozen BK101.out 1; have hfz9_2 := blk_frozen BK101.out 2; have hfz9_3 := blk_frozen BK101.out 3; have hfz9_4 := blk_frozen BK101.out 4))
    go_ret
    exact ⟨by first | rfl | (simp [errW_none, errW_some] <;> rfl) | (simp [*, errW_none, errW_some] <;> rfl), by repeat (first | (with_reducible first | exact HB.out | apply below_alloc | apply pw_below_drewN | apply below_drew1 | refine below_set ?_ GE101.out) | exact HB.out)⟩
def check_numbers_2.f (a0_0 : Int) (a0_1 : Int) (a0_2 : Int) (a0_3 : Int) (l0_4 : List Int) : Option (Bool) := if a0_1 ≤ 2 then (if a0_1 = 1 then (some (decide (a0_2 > 0))) else (some true)) else (some false)
set_option maxHeartbeats 8000000 in
set_option maxRecDepth 100000 in
theorem check_numbers_2.calls (a0_0 : Int) (a0_1 : Int) (a0_2 : Int) (a0_3 : Int) (A0_4 : Option Addr) (c0_4 : Nat) (l0_4 : List Int) (r : Bool) (w : World) (hr0_4 : Kd.C (Kd.int .i64) w A0_4 l0_4.length l0_4) (hc0_4 : l0_4.length ≤ c0_4) (h : check_numbers_2.f a0_0 a0_1 a0_2 a0_3 l0_4 = some r) :
    Calls Try.prog 36 #[.agg #[.int .u8 a0_0, .int .u8 a0_1, .int .i64 a0_2, .int .i64 a0_3, .slice A0_4 l0_4.length c0_4]] w fun e w' => e = .returned (.bool r) ∧ Below w.heap.size w w' := by
  have hu39 := Try.underlying39
  have HR0_4 := Aside0.mk hr0_4
  have HC0_4 := Aside0.mk hc0_4
  clear hr0_4 hc0_4
  have HB := Aside0.mk (Below.refl w.heap.size w)
  have H : (if a0_1 ≤ 2 then (if a0_1 = 1 then (some (decide (a0_2 > 0))) else (some true)) else (some false)) = some r := h
  clear h
  by_cases c2 : a0_1 ≤ 2
  · rw [if_pos c2] at H
    have c2b0 : decide (a0_1 ≤ 2) = true := decide_eq_true c2
    clear c2
    by_cases c3 : a0_1 = 1
    · rw [if_pos c3] at H
      have c3b0 : (a0_1 == 1) = true := beq_iff_eq.mpr c3
      have c3b1 : (a0_1 != 1) = false := bne_eq_false_iff_eq.mpr c3
      clear c3
      obtain rfl := Option.some.inj H
      go_enter Try.func36, Try.ntmps36
      go_wp2_with (first | ((with_reducible refine gate_dst (N := 1) rfl ?_); refine box_event ?hg (N := 1) ?hd (cs := #[.int .u8 a0_0, .int .u8 a0_1, .int .i64 a0_2, .int .i64 a0_3, .slice A0_4 l0_4.length c0_4]) (t := 39) ?hr ?_; (case hd => rfl); (case hg => rfl); (case hr => first | (go_simp; done) | (go_simp; rfl)); intro gb102 hg w4 hbox hb; have n0_ := Aside0.mk (below_step (by repeat (first | (with_reducible first | exact HB.out | apply below_alloc | apply pw_below_drewN | apply below_drew1) | exact HB.out)) hb); have n1_ := Aside0.mk (hbox); have n2_ := Aside0.mk ((by rw [hg]; exact (below_size (by repeat (first | (with_reducible first | exact HB.out | apply below_alloc | apply pw_below_drewN | apply below_drew1) | exact HB.out))) : w.heap.size ≤ gb102)); have n3_ := Aside0.mk ((by rw [hg]; exact (below_size (by repeat (first | (with_reducible first | exact HB.out | apply below_alloc | apply pw_below_drewN | apply below_drew1) | exact HB.out))) : w.heap.size ≤ gb102)); clear HB; have HB := n0_; have BK102 := n1_; have GW102 := n2_; have GE102 := n3_; clear n0_ n1_ n2_ n3_; clear hb hbox hg; have hcz5_0 : w4.cell? ⟨gb102, 0, none⟩ = some (.int .u8 a0_0) := (blk_cell BK102.out 0).trans rfl; have hcz5_1 : w4.cell? ⟨gb102, 1, none⟩ = some (.int .u8 a0_1) := (blk_cell BK102.out 1).trans rfl; have hcz5_2 : w4.cell? ⟨gb102, 2, none⟩ = some (.int .i64 a0_2) := (blk_cell BK102.out 2).trans rfl; have hcz5_3 : w4.cell? ⟨gb102, 3, none⟩ = some (.int .i64 a0_3) := (blk_cell BK102.out 3).trans rfl; have hcz5_4 : w4.cell? ⟨gb102, 4, none⟩ = some (.slice A0_4 l0_4.length c0_4) := (blk_cell BK102.out 4).trans rfl; have hfz5_0 := blk_frozen BK102.out 0; have hfz5_1 := blk_frozen BK102.out 1; have hfz5_2 := blk_frozen BK102.out 2; have hfz5_3 := blk_frozen BK102.out 3; have hfz5_4 := blk_frozen BK102.out 4))
      go_ret
      exact ⟨by first | rfl | (simp [errW_none, errW_some] <;> rfl) | (simp [*, errW_none, errW_some] <;> rfl), by repeat (first | (with_reducible first | exact HB.out | apply below_alloc | apply pw_below_drewN | apply below_drew1 | refine below_set ?_ GE102.out) | exact HB.out)⟩
    · rw [if_neg c3] at H
      have c3b0 : (a0_1 == 1) = false := beq_eq_false_iff_ne.mpr c3
      have c3b1 : (a0_1 != 1) = true := bne_iff_ne.mpr c3
      obtain rfl := Option.some.inj H
      go_enter Try.func36, Try.ntmps36
      go_wp2_with (first | ((with_reducible refine gate_dst (N := 1) rfl ?_); refine box_event ?hg (N := 1) ?hd (cs := #[.int .u8 a0_0, .int .u8 a0_1, .int .i64 a0_2, .int .i64 a0_3, .slice A0_4 l0_4.length c0_4]) (t := 39) ?hr ?_; (case hd => rfl); (case hg => rfl); (case hr => first | (go_simp; done) | (go_simp; rfl)); intro gb102 hg w6 hbox hb; have n0_ := Aside0.mk (below_step (by repeat (first | (with_reducible first | exact HB.out | apply below_alloc | apply pw_below_drewN | apply below_drew1) | exact HB.out)) hb); have n1_ := Aside0.mk (hbox); have n2_ := Aside0.mk ((by rw [hg]; exact (below_size (by repeat (first | (with_reducible first | exact HB.out | apply below_alloc | apply pw_below_drewN | apply below_drew1) | exact HB.out))) : w.heap.size ≤ gb102)); have n3_ := Aside0.mk ((by rw [hg]; exact (below_size (by repeat (first | (with_reducible first | exact HB.out | apply below_alloc | apply pw_below_drewN | apply below_drew1) | exact HB.out))) : w.heap.size ≤ gb102)); clear HB; have HB := n0_; have BK102 := n1_; have GW102 := n2_; have GE102 := n3_; clear n0_ n1_ n2_ n3_; clear hb hbox hg; have hcz7_0 : w6.cell? ⟨gb102, 0, none⟩ = some (.int .u8 a0_0) := (blk_cell BK102.out 0).trans rfl; have hcz7_1 : w6.cell? ⟨gb102, 1, none⟩ = some (.int .u8 a0_1) := (blk_cell BK102.out 1).trans rfl; have hcz7_2 : w6.cell? ⟨gb102, 2, none⟩ = some (.int .i64 a0_2) := (blk_cell BK102.out 2).trans rfl; have hcz7_3 : w6.cell? ⟨gb102, 3, none⟩ = some (.int .i64 a0_3) := (blk_cell BK102.out 3).trans rfl; have hcz7_4 : w6.cell? ⟨gb102, 4, none⟩ = some (.slice A0_4 l0_4.length c0_4) := (blk_cell BK102.out 4).trans rfl; have hfz7_0 := blk_frozen BK102.out 0; have hfz7_1 := blk_frozen BK102.out 1; have hfz7_2 := blk_frozen BK102.out 2; have hfz7_3 := blk_frozen BK102.out 3; have hfz7_4 := blk_frozen BK102.out 4))
      go_ret
      exact ⟨by first | rfl | (simp [errW_none, errW_some] <;> rfl) | (simp [*, errW_none, errW_some] <;> rfl), by repeat (first | (with_reducible first | exact HB.out | apply below_alloc | apply pw_below_drewN | apply below_drew1 | refine below_set ?_ GE102.out) | exact HB.out)⟩
  · rw [if_neg c2] at H
    have c2b0 : decide (a0_1 ≤ 2) = false := decide_eq_false c2
    clear c2
    obtain rfl := Option.some.inj H
    go_enter Try.func36, Try.ntmps36
    go_wp2_with (first | ((with_reducible refine gate_dst (N := 1) rfl ?_); refine box_event ?hg (N := 1) ?hd (cs := #[.int .u8 a0_0, .int .u8 a0_1, .int .i64 a0_2, .int .i64 a0_3, .slice A0_4 l0_4.length c0_4]) (t := 39) ?hr ?_; (case hd => rfl); (case hg => rfl); (case hr => first | (go_simp; done) | (go_simp; rfl)); intro gb102 hg w8 hbox hb; have n0_ := Aside0.mk (below_step (by repeat (first | (with_reducible first | exact HB.out | apply below_alloc | apply pw_below_drewN | apply below_drew1) | exact HB.out)) hb); have n1_ := Aside0.mk (hbox); have n2_ := Aside0.mk ((by rw [hg]; exact (below_size (by repeat (first | (with_reducible first | exact HB.out | apply below_alloc | apply pw_below_drewN | apply below_drew1) | exact HB.out))) : w.heap.size ≤ gb102)); have n3_ := Aside0.mk ((by rw [hg]; exact (below_size (by repeat (first | (with_reducible first | exact HB.out | apply below_alloc | apply pw_below_drewN | apply below_drew1) | exact HB.out))) : w.heap.size ≤ gb102)); clear HB; have HB := n0_; have BK102 := n1_; have GW102 := n2_; have GE102 := n3_; clear n0_ n1_ n2_ n3_; clear hb hbox hg; have hcz9_0 : w8.cell? ⟨gb102, 0, none⟩ = some (.int .u8 a0_0) := (blk_cell BK102.out 0).trans rfl; have hcz9_1 : w8.cell? ⟨gb102, 1, none⟩ = some (.int .u8 a0_1) := (blk_cell BK102.out 1).trans rfl; have hcz9_2 : w8.cell? ⟨gb102, 2, none⟩ = some (.int .i64 a0_2) := (blk_cell BK102.out 2).trans rfl; have hcz9_3 : w8.cell? ⟨gb102, 3, none⟩ = some (.int .i64 a0_3) := (blk_cell BK102.out 3).trans rfl; have hcz9_4 : w8.cell? ⟨gb102, 4, none⟩ = some (.slice A0_4 l0_4.length c0_4) := (blk_cell BK102.out 4).trans rfl; have hfz9_0 := blk_frozen BK102.out 0; have hfz9_1 := blk_frozen BK102.out 1; have hfz9_2 := blk_frozen BK102.out 2; have hfz9_3 := blk_frozen BK102.out 3; have hfz9_4 := blk_frozen BK102.out 4))
    go_ret
    exact ⟨by first | rfl | (simp [errW_none, errW_some] <;> rfl) | (simp [*, errW_none, errW_some] <;> rfl), by repeat (first | (with_reducible first | exact HB.out | apply below_alloc | apply pw_below_drewN | apply below_drew1 | refine below_set ?_ GE102.out) | exact HB.out)⟩
def check_numbers_3.f (a0_0 : Int) (a0_1 : Int) (a0_2 : Int) (a0_3 : Int) (l0_4 : List Int) : Option (Bool) := if a0_1 ≤ 3 then (some (a0_2 == 0)) else (some false)
set_option maxHeartbeats 8000000 in
set_option maxRecDepth 100000 in
theorem check_numbers_3.calls (a0_0 : Int) (a0_1 : Int) (a0_2 : Int) (a0_3 : Int) (A0_4 : Option Addr) (c0_4 : Nat) (l0_4 : List Int) (r : Bool) (w : World) (hr0_4 : Kd.C (Kd.int .i64) w A0_4 l0_4.length l0_4) (hc0_4 : l0_4.length ≤ c0_4) (h : check_numbers_3.f a0_0 a0_1 a0_2 a0_3 l0_4 = some r) :
    Calls Try.prog 37 #[.agg #[.int .u8 a0_0, .int .u8 a0_1, .int .i64 a0_2, .int .i64 a0_3, .slice A0_4 l0_4.length c0_4]] w fun e w' => e = .returned (.bool r) ∧ Below w.heap.size w w' := by
  have hu39 := Try.underlying39
  have HR0_4 := Aside0.mk hr0_4
  have HC0_4 := Aside0.mk hc0_4
  clear hr0_4 hc0_4
  have HB := Aside0.mk (Below.refl w.heap.size w)
  have H : (if a0_1 ≤ 3 then (some (a0_2 == 0)) else (some false)) = some r := h
  clear h
  by_cases c2 : a0_1 ≤ 3
  · rw [if_pos c2] at H
    have c2b0 : decide (a0_1 ≤ 3) = true := decide_eq_true c2
    clear c2
    obtain rfl := Option.some.inj H
    go_enter Try.func37, Try.ntmps37
    go_wp2_with (first | ((with_reducible refine gate_dst (N := 1) rfl ?_); refine box_event ?hg (N := 1) ?hd (cs := #[.int .u8 a0_0, .int .u8 a0_1, .int .i64 a0_2, .int .i64 a0_3, .slice A0_4 l0_4.length c0_4]) (t := 39) ?hr ?_; (case hd => rfl); (case hg => rfl); (case hr => first | (go_simp; done) | (go_simp; rfl)); intro gb103 hg w3 hbox hb; have n0_ := Aside0.mk (below_step (by repeat (first | (with_reducible first | exact HB.out | apply below_alloc | apply pw_below_drewN | apply below_drew1) | exact HB.out)) hb); have n1_ := Aside0.mk (hbox); have n2_ := Aside0.mk ((by rw [hg]; exact (below_size (by repeat (first | (with_reducible first | exact HB.out | apply below_alloc | apply pw_below_drewN | apply below_drew1) | exact HB.out))) : w.heap.size ≤ gb103)); have n3_ := Aside0.mk ((by rw [hg]; exact (below_size (by repeat (first | (with_reducible first | exact HB.out | apply below_alloc | apply pw_below_drewN | apply below_drew1) | exact HB.out))) : w.heap.size ≤ gb103)); clear HB; have HB := n0_; have BK103 := n1_; have GW103 := n2_; have GE103 := n3_; clear n0_ n1_ n2_ n3_; clear hb hbox hg; have hcz4_0 : w3.cell? ⟨gb103, 0, none⟩ = some (.int .u8 a0_0) := (blk_cell BK103.out 0).trans rfl; have hcz4_1 : w3.cell? ⟨gb103, 1, none⟩ = some (.int .u8 a0_1) := (blk_cell BK103.out 1).trans rfl; have hcz4_2 : w3.cell? ⟨gb103, 2, none⟩ = some (.int .i64 a0_2) := (blk_cell BK103.out 2).trans rfl; have hcz4_3 : w3.cell? ⟨gb103, 3, none⟩ = some (.int .i64 a0_3) := (blk_cell BK103.out 3).trans rfl; have hcz4_4 : w3.cell? ⟨gb103, 4, none⟩ = some (.slice A0_4 l0_4.length c0_4) := (blk_cell BK103.out 4).trans rfl; have hfz4_0 := blk_frozen BK103.out 0; have hfz4_1 := blk_frozen BK103.out 1; have hfz4_2 := blk_frozen BK103.out 2; have hfz4_3 := blk_frozen BK103.out 3; have hfz4_4 := blk_frozen BK103.out 4))
    go_ret
    exact ⟨by first | rfl | (simp [errW_none, errW_some] <;> rfl) | (simp [*, errW_none, errW_some] <;> rfl), by repeat (first | (with_reducible first | exact HB.out | apply below_alloc | apply pw_below_drewN | apply below_drew1 | refine below_set ?_ GE103.out) | exact HB.out)⟩
  · rw [if_neg c2] at H
    have c2b0 : decide (a0_1 ≤ 3) = false := decide_eq_false c2
    clear c2
    obtain rfl := Option.some.inj H
    go_enter Try.func37, Try.ntmps37
    go_wp2_with (first | ((with_reducible refine gate_dst (N := 1) rfl ?_); refine box_event ?hg (N := 1) ?hd (cs := #[.int .u8 a0_0, .int .u8 a0_1, .int .i64 a0_2, .int .i64 a0_3, .slice A0_4 l0_4.length c0_4]) (t := 39) ?hr ?_; (case hd => rfl); (case hg => rfl); (case hr => first | (go_simp; done) | (go_simp; rfl)); intro gb103 hg w5 hbox hb; have n0_ := Aside0.mk (below_step (by repeat (first | (with_reducible first | exact HB.out | apply below_alloc | apply pw_below_drewN | apply below_drew1) | exact HB.out)) hb); have n1_ := Aside0.mk (hbox); have n2_ := Aside0.mk ((by rw [hg]; exact (below_size (by repeat (first | (with_reducible first | exact HB.out | apply below_alloc | apply pw_below_drewN | apply below_drew1) | exact HB.out))) : w.heap.size ≤ gb103)); have n3_ := Aside0.mk ((by rw [hg]; exact (below_size (by repeat (first | (with_reducible first | exact HB.out | apply below_alloc | apply pw_below_drewN | apply below_drew1) | exact HB.out))) : w.heap.size ≤ gb103)); clear HB; have HB := n0_; have BK103 := n1_; have GW103 := n2_; have GE103 := n3_; clear n0_ n1_ n2_ n3_; clear hb hbox hg; have hcz6_0 : w5.cell? ⟨gb103, 0, none⟩ = some (.int .u8 a0_0) := (blk_cell BK103.out 0).trans rfl; have hcz6_1 : w5.cell? ⟨gb103, 1, none⟩ = some (.int .u8 a0_1) := (blk_cell BK103.out 1).trans rfl; have hcz6_2 : w5.cell? ⟨gb103, 2, none⟩ = some (.int .i64 a0_2) := (blk_cell BK103.out 2).trans rfl; have hcz6_3 : w5.cell? ⟨gb103, 3, none⟩ = some (.int .i64 a0_3) := (blk_cell BK103.out 3).trans rfl; have hcz6_4 : w5.cell? ⟨gb103, 4, none⟩ = some (.slice A0_4 l0_4.length c0_4) := (blk_cell BK103.out 4).trans rfl; have hfz6_0 := blk_frozen BK103.out 0; have hfz6_1 := blk_frozen BK103.out 1; have hfz6_2 := blk_frozen BK103.out 2; have hfz6_3 := blk_frozen BK103.out 3; have hfz6_4 := blk_frozen BK103.out 4))
    go_ret
    exact ⟨by first | rfl | (simp [errW_none, errW_some] <;> rfl) | (simp [*, errW_none, errW_some] <;> rfl), by repeat (first | (with_reducible first | exact HB.out | apply below_alloc | apply pw_below_drewN | apply below_drew1 | refine below_set ?_ GE103.out) | exact HB.out)⟩
def check_numbers_4.f (a0_0 : Int) (a0_1 : Int) (a0_2 : Int) (a0_3 : Int) (l0_4 : List Int) : Option (Bool) := if a0_1 = 0 then (if a0_2 ≥ 1 then (some (decide (a0_2 ≤ 16))) else (some false)) else (some false)
set_option maxHeartbeats 8000000 in
set_option maxRecDepth 100000 in
theorem check_numbers_4.calls (a0_0 : Int) (a0_1 : Int) (a0_2 : Int) (a0_3 : Int) (A0_4 : Option Addr) (c0_4 : Nat) (l0_4 : List Int) (r : Bool) (w : World) (hr0_4 : Kd.C (Kd.int .i64) w A0_4 l0_4.length l0_4) (hc0_4 : l0_4.length ≤ c0_4) (h : check_numbers_4.f a0_0 a0_1 a0_2 a0_3 l0_4 = some r) :
    Calls Try.prog 38 #[.agg #[.int .u8 a0_0, .int .u8 a0_1, .int .i64 a0_2, .int .i64 a0_3, .slice A0_4 l0_4.length c0_4]] w fun e w' => e = .returned (.bool r) ∧ Below w.heap.size w w' := by
  have hu39 := Try.underlying39
  have HR0_4 := Aside0.mk hr0_4
  have HC0_4 := Aside0.mk hc0_4
  clear hr0_4 hc0_4
  have HB := Aside0.mk (Below.refl w.heap.size w)
  have H : (if a0_1 = 0 then (if a0_2 ≥ 1 then (some (decide (a0_2 ≤ 16))) else (some false)) else (some false)) = some r := h
  clear h
  by_cases c2 : a0_1 = 0
  · rw [if_pos c2] at H
    have c2b0 : (a0_1 == 0) = true := beq_iff_eq.mpr c2
    have c2b1 : (a0_1 != 0) = false := bne_eq_false_iff_eq.mpr c2
    clear c2
    by_cases c3 : a0_2 ≥ 1
    · rw [if_pos c3] at H
      have c3b0 : decide (1 ≤ a0_2) = true := decide_eq_true c3
      clear c3
      obtain rfl := Option.some.inj H
      go_enter Try.func38, Try.ntmps38
      go_wp2_with (first | ((with_reducible refine gate_dst (N := 1) rfl ?_); refine box_event ?hg (N := 1) ?hd (cs := #[.int .u8 a0_0, .int .u8 a0_1, .int .i64 a0_2, .int .i64 a0_3, .slice A0_4 l0_4.length c0_4]) (t := 39) ?hr ?_; (case hd => rfl); (case hg => rfl); (case hr => first | (go_simp; done) | (go_simp; rfl)); intro gb104 hg w4 hbox hb; have n0_ := Aside0.mk (below_step (by repeat (first | (with_reducible first | exact HB.out | apply below_alloc | apply pw_below_drewN | apply below_drew1) | exact HB.out)) hb); have n1_ := Aside0.mk (hbox); have n2_ := Aside0.mk ((by rw [hg]; exact (below_size (by repeat (first | (with_reducible first | exact HB.out | apply below_alloc | apply pw_below_drewN | apply below_drew1) | exact HB.out))) : w.heap.size ≤ gb104)); have n3_ := Aside0.mk ((by rw [hg]; exact (below_size (by repeat (first | (with_reducible first | exact HB.out | apply below_alloc | apply pw_below_drewN | apply below_drew1) | exact HB.out))) : w.heap.size ≤ gb104)); clear HB; have HB := n0_; have BK104 := n1_; have GW104 := n2_; have GE104 := n3_; clear n0_ n1_ n2_ n3_; clear hb hbox hg; have hcz5_0 : w4.cell? ⟨gb104, 0, none⟩ = some (.int .u8 a0_0) := (blk_cell BK104.out 0).trans rfl; have hcz5_1 : w4.cell? ⟨gb104, 1, none⟩ = some (.int .u8 a0_1) := (blk_cell BK104.out 1).trans rfl; have hcz5_2 : w4.cell? ⟨gb104, 2, none⟩ = some (.int .i64 a0_2) := (blk_cell BK104.out 2).trans rfl; have hcz5_3 : w4.cell? ⟨gb104, 3, none⟩ = some (.int .i64 a0_3) := (blk_cell BK104.out 3).trans rfl; have hcz5_4 : w4.cell? ⟨gb104, 4, none⟩ = some (.slice A0_4 l0_4.length c0_4) := (blk_cell BK104.out 4).trans rfl; have hfz5_0 := blk_frozen BK104.out 0; have hfz5_1 := blk_frozen BK104.out 1; have hfz5_2 := blk_frozen BK104.out 2; have hfz5_3 := blk_frozen BK104.out 3; have hfz5_4 := blk_frozen BK104.out 4))
      go_ret
      exact ⟨by first | rfl | (simp [errW_none, errW_some] <;> rfl) | (simp [*, errW_none, errW_some] <;> rfl), by repeat (first | (with_reducible first | exact HB.out | apply below_alloc | apply pw_below_drewN | apply below_drew1 | refine below_set ?_ GE104.out) | exact HB.out)⟩
    · rw [if_neg c3] at H
      have c3b0 : decide (1 ≤ a0_2) = false := decide_eq_false c3
      clear c3
      obtain rfl := Option.some.inj H
      go_enter Try.func38, Try.ntmps38
      go_wp2_with (first | ((with_reducible refine gate_dst (N := 1) rfl ?_); refine box_event ?hg (N := 1) ?hd (cs := #[.int .u8 a0_0, .int .u8 a0_1, .int .i64 a0_2, .int .i64 a0_3, .slice A0_4 l0_4.length c0_4]) (t := 39) ?hr ?_; (case hd => rfl); (case hg => rfl); (case hr => first | (go_simp; done) | (go_simp; rfl)); intro gb104 hg w6 hbox hb; have n0_ := Aside0.mk (below_step (by repeat (first | (with_reducible first | exact HB.out | apply below_alloc | apply pw_below_drewN | apply below_drew1) | exact HB.out)) hb); have n1_ := Aside0.mk (hbox); have n2_ := Aside0.mk ((by rw [hg]; exact (below_size (by repeat (first | (with_reducible first | exact HB.out | apply below_alloc | apply pw_below_drewN | apply below_drew1) | exact HB.out))) : w.heap.size ≤ gb104)); have n3_ := Aside0.mk ((by rw [hg]; exact (below_size (by repeat (first | (with_reducible first | exact HB.out | apply below_alloc | apply pw_below_drewN | apply below_drew1) | exact HB.out))) : w.heap.size ≤ gb104)); clear HB; have HB := n0_; have BK104 := n1_; have GW104 := n2_; have GE104 := n3_; clear n0_ n1_ n2_ n3_; clear hb hbox hg; have hcz7_0 : w6.cell? ⟨gb104, 0, none⟩ = some (.int .u8 a0_0) := (blk_cell BK104.out 0).trans rfl; have hcz7_1 : w6.cell? ⟨gb104, 1, none⟩ = some (.int .u8 a0_1) := (blk_cell BK104.out 1).trans rfl; have hcz7_2 : w6.cell? ⟨gb104, 2, none⟩ = some (.int .i64 a0_2) := (blk_cell BK104.out 2).trans rfl; have hcz7_3 : w6.cell? ⟨gb104, 3, none⟩ = some (.int .i64 a0_3) := (blk_cell BK104.out 3).trans rfl; have hcz7_4 : w6.cell? ⟨gb104, 4, none⟩ = some (.slice A0_4 l0_4.length c0_4) := (blk_cell BK104.out 4).trans rfl; have hfz7_0 := blk_frozen BK104.out 0; have hfz7_1 := blk_frozen BK104.out 1; have hfz7_2 := blk_frozen BK104.out 2; have hfz7_3 := blk_frozen BK104.out 3; have hfz7_4 := blk_frozen BK104.out 4))
      go_ret
      exact ⟨by first | rfl | (simp [errW_none, errW_some] <;> rfl) | (simp [*, errW_none, errW_some] <;> rfl), by repeat (first | (with_reducible first | exact HB.out | apply below_alloc | apply pw_below_drewN | apply below_drew1 | refine below_set ?_ GE104.out) | exact HB.out)⟩
  · rw [if_neg c2] at H
    have c2b0 : (a0_1 == 0) = false := beq_eq_false_iff_ne.mpr c2
    have c2b1 : (a0_1 != 0) = true := bne_iff_ne.mpr c2
    obtain rfl := Option.some.inj H
    go_enter Try.func38, Try.ntmps38
    go_wp2_with (first | ((with_reducible refine gate_dst (N := 1) rfl ?_); refine box_event ?hg (N := 1) ?hd (cs := #[.int .u8 a0_0, .int .u8 a0_1, .int .i64 a0_2, .int .i64 a0_3, .slice A0_4 l0_4.length c0_4]) (t := 39) ?hr ?_; (case hd => rfl); (case hg => rfl); (case hr => first | (go_simp; done) | (go_simp; rfl)); intro gb104 hg w8 hbox hb; have n0_ := Aside0.mk (below_step (by repeat (first | (with_reducible first | exact HB.out | apply below_alloc | apply pw_below_drewN | apply below_drew1) | exact HB.out)) hb); have n1_ := Aside0.mk (hbox); have n2_ := Aside0.mk ((by rw [hg]; exact (below_size (by repeat (first | (with_reducible first | exact HB.out | apply below_alloc | apply pw_below_drewN | apply below_drew1) | exact HB.out))) : w.heap.size ≤ gb104)); have n3_ := Aside0.mk ((by rw [hg]; exact (below_size (by repeat (first | (with_reducible first | exact HB.out | apply below_alloc | apply pw_below_drewN | apply below_drew1) | exact HB.out))) : w.heap.size ≤ gb104)); clear HB; have HB := n0_; have BK104 := n1_; have GW104 := n2_; have GE104 := n3_; clear n0_ n1_ n2_ n3_; clear hb hbox hg; have hcz9_0 : w8.cell? ⟨gb104, 0, none⟩ = some (.int .u8 a0_0) := (blk_cell BK104.out 0).trans rfl; have hcz9_1 : w8.cell? ⟨gb104, 1, none⟩ = some (.int .u8 a0_1) := (blk_cell BK104.out 1).trans rfl; have hcz9_2 : w8.cell? ⟨gb104, 2, none⟩ = some (.int .i64 a0_2) := (blk_cell BK104.out 2).trans rfl; have hcz9_3 : w8.cell? ⟨gb104, 3, none⟩ = some (.int .i64 a0_3) := (blk_cell BK104.out 3).trans rfl; have hcz9_4 : w8.cell? ⟨gb104, 4, none⟩ = some (.slice A0_4 l0_4.length c0_4) := (blk_cell BK104.out 4).trans rfl; have hfz9_0 := blk_frozen BK104.out 0; have hfz9_1 := blk_frozen BK104.out 1; have hfz9_2 := blk_frozen BK104.out 2; have hfz9_3 := blk_frozen BK104.out 3; have hfz9_4 := blk_frozen BK104.out 4))
    go_ret
    exact ⟨by first | rfl | (simp [errW_none, errW_some] <;> rfl) | (simp [*, errW_none, errW_some] <;> rfl), by repeat (first | (with_reducible first | exact HB.out | apply below_alloc | apply pw_below_drewN | apply below_drew1 | refine below_set ?_ GE104.out) | exact HB.out)⟩
end Go.Proofs.Ytnjlonenckifpaa.X
namespace Go.Proofs.Ytnjlonenckifpaa.X
set_option linter.unusedVariables false
set_option linter.unusedSimpArgs false
open Go.RowKit Go.Proofs.YtnjlonenckifpaaW.PrintWords Go.Proofs.YtnjlonenckifpaaW.PrintLast Go.Proofs.YtnjlonenckifpaaW.PrintMore
theorem heap_alloc_last (W : World) (o : Obj) : (W.alloc o).heap[W.heap.size]? = some o := by
  show (W.heap.push o)[W.heap.size]? = _
  simp
theorem set_alloc_last (W : World) (o o' : Obj) : ({ W.alloc o with heap := (W.alloc o).heap.setIfInBounds W.heap.size o' } : World) = W.alloc o' := by
  have h : (W.heap.push o).setIfInBounds W.heap.size o' = W.heap.push o' := by
    apply Array.ext_getElem?
    intro i
    rw [Array.getElem?_setIfInBounds]
    by_cases hi : W.heap.size = i
    · subst hi; simp
    · rw [if_neg hi]
      simp only [Array.getElem?_push]
      rw [if_neg (by omega), if_neg (by omega)]
  show ({ W.alloc o with heap := (W.heap.push o).setIfInBounds W.heap.size o' } : World) = _
  rw [h]
  rfl
theorem run_ins0 {P : Program} (mt kt et : TypeId) (hm : P.underlying mt = some (.map kt et)) (hk : P.underlying kt = some (.int .u8)) (w : World) (r : Nat) (es : Array MapEntry) (n : Nat) (k : Int) (v : Value)
    (hb : w.heap[r]? = some (.map es n)) (hf : Instr.findNow (.int .u8) (.int .u8 k) es.toList 0 = some none) :
    (Instr.mapUpdate mt (.map (some r)) (.int .u8 k) v).run P w = .ok () { w with heap := w.heap.setIfInBounds r (.map (es.push { key := .int .u8 k, val := v, born := n }) (n + 1)) } := by
  have hc : (Instr.checkKey false 10000 kt (.int .u8 k)).run P w = .ok () w := MapKept.run_checkKey (k := .int .u8 k) hk (by simp [MapKept.IsKey]) false 9999
  simp [Instr.mapUpdate, run_underlying hm, MapKept.run_getObj_map hb, hc, MapKept.run_findKey hk hf, MapKept.run_setObj_map _ hb, Result.andThen]
theorem run_ins {P : Program} (mt kt et : TypeId) (hm : P.underlying mt = some (.map kt et)) (hk : P.underlying kt = some (.int .u8)) (W : World) (es : Array MapEntry) (n : Nat) (k : Int) (v : Value)
    (hf : Instr.findNow (.int .u8) (.int .u8 k) es.toList 0 = some none) :
    (Instr.mapUpdate mt (.map (some W.heap.size)) (.int .u8 k) v).run P (W.alloc (.map es n)) = .ok () (W.alloc (.map (es.push ⟨.int .u8 k, v, n⟩) (n + 1))) := by
  rw [run_ins0 mt kt et hm hk _ _ es n k v (heap_alloc_last W (.map es n)) hf, set_alloc_last]
theorem run_find {P : Program} (mt kt et : TypeId) (hm : P.underlying mt = some (.map kt et)) (hk : P.underlying kt = some (.int .u8)) (W : World) (b : Nat) (es : Array MapEntry) (n : Nat) (k : Int) (v : Value) (i : Nat)
    (hb : W.heap[b]? = some (.map es n)) (hf : Instr.findNow (.int .u8) (.int .u8 k) es.toList 0 = some (some (i, v))) :
    (Instr.lookup mt (.map (some b)) (.int .u8 k) true).run P W = .ok (.tuple #[v, .bool true]) W := by
  have hc : (Instr.checkKey es.isEmpty 10000 kt (.int .u8 k)).run P W = .ok () W := MapKept.run_checkKey (k := .int .u8 k) hk (by simp [MapKept.IsKey]) _ 9999
  simp [Instr.lookup, run_underlying hm, MapKept.run_getObj_map hb, hc, MapKept.run_findKey hk hf, Result.andThen]
theorem run_miss {P : Program} (mt kt et : TypeId) (hm : P.underlying mt = some (.map kt et)) (hk : P.underlying kt = some (.int .u8)) (W : World) (b : Nat) (es : Array MapEntry) (n : Nat) (k : Int) (z : Value)
    (hz : (zeroValue et).run P W = .ok z W) (hb : W.heap[b]? = some (.map es n)) (hf : Instr.findNow (.int .u8) (.int .u8 k) es.toList 0 = some none) :
    (Instr.lookup mt (.map (some b)) (.int .u8 k) true).run P W = .ok (.tuple #[z, .bool false]) W := by
  have hc : (Instr.checkKey es.isEmpty 10000 kt (.int .u8 k)).run P W = .ok () W := MapKept.run_checkKey (k := .int .u8 k) hk (by simp [MapKept.IsKey]) _ 9999
  simp [Instr.lookup, run_underlying hm, MapKept.run_getObj_map hb, hc, MapKept.run_findKey hk hf, Result.andThen, hz]
def km1 : Array MapEntry := #[⟨.int .u8 2, .func (.func 35) #[] #[], 0⟩]
def km2 : Array MapEntry := #[⟨.int .u8 2, .func (.func 35) #[] #[], 0⟩, ⟨.int .u8 3, .func (.func 36) #[] #[], 1⟩]
def km3 : Array MapEntry := #[⟨.int .u8 2, .func (.func 35) #[] #[], 0⟩, ⟨.int .u8 3, .func (.func 36) #[] #[], 1⟩, ⟨.int .u8 5, .func (.func 37) #[] #[], 2⟩]
def km4 : Array MapEntry := #[⟨.int .u8 2, .func (.func 35) #[] #[], 0⟩, ⟨.int .u8 3, .func (.func 36) #[] #[], 1⟩, ⟨.int .u8 5, .func (.func 37) #[] #[], 2⟩, ⟨.int .u8 9, .func (.func 38) #[] #[], 3⟩]
def km5 : Array MapEntry := #[⟨.int .u8 2, .func (.func 35) #[] #[], 0⟩, ⟨.int .u8 3, .func (.func 36) #[] #[], 1⟩, ⟨.int .u8 5, .func (.func 37) #[] #[], 2⟩, ⟨.int .u8 9, .func (.func 38) #[] #[], 3⟩, ⟨.int .u8 1, .func (.func 39) #[] #[], 4⟩]
def km6 : Array MapEntry := #[⟨.int .u8 2, .func (.func 35) #[] #[], 0⟩, ⟨.int .u8 3, .func (.func 36) #[] #[], 1⟩, ⟨.int .u8 5, .func (.func 37) #[] #[], 2⟩, ⟨.int .u8 9, .func (.func 38) #[] #[], 3⟩, ⟨.int .u8 1, .func (.func 39) #[] #[], 4⟩, ⟨.int .u8 4, .func (.func 39) #[] #[], 5⟩]
def km7 : Array MapEntry := #[⟨.int .u8 2, .func (.func 35) #[] #[], 0⟩, ⟨.int .u8 3, .func (.func 36) #[] #[], 1⟩, ⟨.int .u8 5, .func (.func 37) #[] #[], 2⟩, ⟨.int .u8 9, .func (.func 38) #[] #[], 3⟩, ⟨.int .u8 1, .func (.func 39) #[] #[], 4⟩, ⟨.int .u8 4, .func (.func 39) #[] #[], 5⟩, ⟨.int .u8 6, .func (.func 39) #[] #[], 6⟩]
def km8 : Array MapEntry := #[⟨.int .u8 2, .func (.func 35) #[] #[], 0⟩, ⟨.int .u8 3, .func (.func 36) #[] #[], 1⟩, ⟨.int .u8 5, .func (.func 37) #[] #[], 2⟩, ⟨.int .u8 9, .func (.func 38) #[] #[], 3⟩, ⟨.int .u8 1, .func (.func 39) #[] #[], 4⟩, ⟨.int .u8 4, .func (.func 39) #[] #[], 5⟩, ⟨.int .u8 6, .func (.func 39) #[] #[], 6⟩, ⟨.int .u8 7, .func (.func 39) #[] #[], 7⟩]
def km9 : Array MapEntry := #[⟨.int .u8 2, .func (.func 35) #[] #[], 0⟩, ⟨.int .u8 3, .func (.func 36) #[] #[], 1⟩, ⟨.int .u8 5, .func (.func 37) #[] #[], 2⟩, ⟨.int .u8 9, .func (.func 38) #[] #[], 3⟩, ⟨.int .u8 1, .func (.func 39) #[] #[], 4⟩, ⟨.int .u8 4, .func (.func 39) #[] #[], 5⟩, ⟨.int .u8 6, .func (.func 39) #[] #[], 6⟩, ⟨.int .u8 7, .func (.func 39) #[] #[], 7⟩, ⟨.int .u8 8, .func (.func 39) #[] #[], 8⟩]
def km10 : Array MapEntry := #[⟨.int .u8 2, .func (.func 35) #[] #[], 0⟩, ⟨.int .u8 3, .func (.func 36) #[] #[], 1⟩, ⟨.int .u8 5, .func (.func 37) #[] #[], 2⟩, ⟨.int .u8 9, .func (.func 38) #[] #[], 3⟩, ⟨.int .u8 1, .func (.func 39) #[] #[], 4⟩, ⟨.int .u8 4, .func (.func 39) #[] #[], 5⟩, ⟨.int .u8 6, .func (.func 39) #[] #[], 6⟩, ⟨.int .u8 7, .func (.func 39) #[] #[], 7⟩, ⟨.int .u8 8, .func (.func 39) #[] #[], 8⟩, ⟨.int .u8 10, .func (.func 39) #[] #[], 9⟩]
theorem ins0 (W : World) : (Instr.mapUpdate 53 (.map (some W.heap.size)) (.int .u8 2) (.func (.func 35) #[] #[])).run Try.prog (W.alloc (.map #[] 0)) = .ok () (W.alloc (.map km1 1)) := run_ins 53 5 46 Try.underlying53 Try.underlying5 W #[] 0 2 _ rfl
theorem ins1 (W : World) : (Instr.mapUpdate 53 (.map (some W.heap.size)) (.int .u8 3) (.func (.func 36) #[] #[])).run Try.prog (W.alloc (.map km1 1)) = .ok () (W.alloc (.map km2 2)) := run_ins 53 5 46 Try.underlying53 Try.underlying5 W km1 1 3 _ rfl
theorem ins2 (W : World) : (Instr.mapUpdate 53 (.map (some W.heap.size)) (.int .u8 5) (.func (.func 37) #[] #[])).run Try.prog (W.alloc (.map km2 2)) = .ok () (W.alloc (.map km3 3)) := run_ins 53 5 46 Try.underlying53 Try.underlying5 W km2 2 5 _ rfl
theorem ins3 (W : World) : (Instr.mapUpdate 53 (.map (some W.heap.size)) (.int .u8 9) (.func (.func 38) #[] #[])).run Try.prog (W.alloc (.map km3 3)) = .ok () (W.alloc (.map km4 4)) := run_ins 53 5 46 Try.underlying53 Try.underlying5 W km3 3 9 _ rfl
theorem ins4 (W : World) : (Instr.mapUpdate 53 (.map (some W.heap.size)) (.int .u8 1) (.func (.func 39) #[] #[])).run Try.prog (W.alloc (.map km4 4)) = .ok () (W.alloc (.map km5 5)) := run_ins 53 5 46 Try.underlying53 Try.underlying5 W km4 4 1 _ rfl
theorem ins5 (W : World) : (Instr.mapUpdate 53 (.map (some W.heap.size)) (.int .u8 4) (.func (.func 39) #[] #[])).run Try.prog (W.alloc (.map km5 5)) = .ok () (W.alloc (.map km6 6)) := run_ins 53 5 46 Try.underlying53 Try.underlying5 W km5 5 4 _ rfl
theorem ins6 (W : World) : (Instr.mapUpdate 53 (.map (some W.heap.size)) (.int .u8 6) (.func (.func 39) #[] #[])).run Try.prog (W.alloc (.map km6 6)) = .ok () (W.alloc (.map km7 7)) := run_ins 53 5 46 Try.underlying53 Try.underlying5 W km6 6 6 _ rfl
theorem ins7 (W : World) : (Instr.mapUpdate 53 (.map (some W.heap.size)) (.int .u8 7) (.func (.func 39) #[] #[])).run Try.prog (W.alloc (.map km7 7)) = .ok () (W.alloc (.map km8 8)) := run_ins 53 5 46 Try.underlying53 Try.underlying5 W km7 7 7 _ rfl
theorem ins8 (W : World) : (Instr.mapUpdate 53 (.map (some W.heap.size)) (.int .u8 8) (.func (.func 39) #[] #[])).run Try.prog (W.alloc (.map km8 8)) = .ok () (W.alloc (.map km9 9)) := run_ins 53 5 46 Try.underlying53 Try.underlying5 W km8 8 8 _ rfl
theorem ins9 (W : World) : (Instr.mapUpdate 53 (.map (some W.heap.size)) (.int .u8 10) (.func (.func 39) #[] #[])).run Try.prog (W.alloc (.map km9 9)) = .ok () (W.alloc (.map km10 10)) := run_ins 53 5 46 Try.underlying53 Try.underlying5 W km9 9 10 _ rfl
set_option maxHeartbeats 4000000 in
theorem num_hit (a0 a1 a2 a3 : Int) (A : Option Addr) (c : Nat) (l : List Int) (r : Bool) (w : World) (f i : Nat) (hf : Instr.findNow (.int .u8) (.int .u8 a0) km10.toList 0 = some (some (i, .func (.func f) #[] #[])))
    (eg : ∀ args w, (callFunc f args).run Try.prog w = .ok (.enter f args) w)
    (hC : ∀ W, Below w.heap.size w W → Calls Try.prog f #[.agg #[.int .u8 a0, .int .u8 a1, .int .i64 a2, .int .i64 a3, .slice A l.length c]] W fun e w' => e = .returned (.bool r) ∧ Below W.heap.size W w') :
    Calls Try.prog 24 #[.agg #[.int .u8 a0, .int .u8 a1, .int .i64 a2, .int .i64 a3, .slice A l.length c]] w fun e w' => e = .returned (.bool r) ∧ Below w.heap.size w w' := by
  have m0 : (Instr.mapUpdate 53 (.map (some (w.heap.size + 1))) (.int .u8 2) (.func (.func 35) #[] #[])).run Try.prog ((w.alloc (.cells #[.int .u8 a0, .int .u8 a1, .int .i64 a2, .int .i64 a3, .slice A l.length c] 39)).alloc (.map #[] 0)) = .ok () ((w.alloc (.cells #[.int .u8 a0, .int .u8 a1, .int .i64 a2, .int .i64 a3, .slice A l.length c] 39)).alloc (.map km1 1)) := by simpa using ins0 (w.alloc (.cells #[.int .u8 a0, .int .u8 a1, .int .i64 a2, .int .i64 a3, .slice A l.length c] 39))
  have m1 : (Instr.mapUpdate 53 (.map (some (w.heap.size + 1))) (.int .u8 3) (.func (.func 36) #[] #[])).run Try.prog ((w.alloc (.cells #[.int .u8 a0, .int .u8 a1, .int .i64 a2, .int .i64 a3, .slice A l.length c] 39)).alloc (.map km1 1)) = .ok () ((w.alloc (.cells #[.int .u8 a0, .int .u8 a1, .int .i64 a2, .int .i64 a3, .slice A l.length c] 39)).alloc (.map km2 2)) := by simpa using ins1 (w.alloc (.cells #[.int .u8 a0, .int .u8 a1, .int .i64 a2, .int .i64 a3, .slice A l.length c] 39))
  have m2 : (Instr.mapUpdate 53 (.map (some (w.heap.size + 1))) (.int .u8 5) (.func (.func 37) #[] #[])).run Try.prog ((w.alloc (.cells #[.int .u8 a0, .int .u8 a1, .int .i64 a2, .int .i64 a3, .slice A l.length c] 39)).alloc (.map km2 2)) = .ok () ((w.alloc (.cells #[.int .u8 a0, .int .u8 a1, .int .i64 a2, .int .i64 a3, .slice A l.length c] 39)).alloc (.map km3 3)) := by simpa using ins2 (w.alloc (.cells #[.int .u8 a0, .int .u8 a1, .int .i64 a2, .int .i64 a3, .slice A l.length c] 39))
  have m3 : (Instr.mapUpdate 53 (.map (some (w.heap.size + 1))) (.int .u8 9) (.func (.func 38) #[] #[])).run Try.prog ((w.alloc (.cells #[.int .u8 a0, .int .u8 a1, .int .i64 a2, .int .i64 a3, .slice A l.length c] 39)).alloc (.map km3 3)) = .ok () ((w.alloc (.cells #[.int .u8 a0, .int .u8 a1, .int .i64 a2, .int .i64 a3, .slice A l.length c] 39)).alloc (.map km4 4)) := by simpa using ins3 (w.alloc (.cells #[.int .u8 a0, .int .u8 a1, .int .i64 a2, .int .i64 a3, .slice A l.length c] 39))
  have m4 : (Instr.mapUpdate 53 (.map (some (w.heap.size + 1))) (.int .u8 1) (.func (.func 39) #[] #[])).run Try.prog ((w.alloc (.cells #[.int .u8 a0, .int .u8 a1, .int .i64 a2, .int .i64 a3, .slice A l.length c] 39)).alloc (.map km4 4)) = .ok () ((w.alloc (.cells #[.int .u8 a0, .int .u8 a1, .int .i64 a2, .int .i64 a3, .slice A l.length c] 39)).alloc (.map km5 5)) := by simpa using ins4 (w.alloc (.cells #[.int .u8 a0, .int .u8 a1, .int .i64 a2, .int .i64 a3, .slice A l.length c] 39))
  have m5 : (Instr.mapUpdate 53 (.map (some (w.heap.size + 1))) (.int .u8 4) (.func (.func 39) #[] #[])).run Try.prog ((w.alloc (.cells #[.int .u8 a0, .int .u8 a1, .int .i64 a2, .int .i64 a3, .slice A l.length c] 39)).alloc (.map km5 5)) = .ok () ((w.alloc (.cells #[.int .u8 a0, .int .u8 a1, .int .i64 a2, .int .i64 a3, .slice A l.length c] 39)).alloc (.map km6 6)) := by simpa using ins5 (w.alloc (.cells #[.int .u8 a0, .int .u8 a1, .int .i64 a2, .int .i64 a3, .slice A l.length c] 39))
  have m6 : (Instr.mapUpdate 53 (.map (some (w.heap.size + 1))) (.int .u8 6) (.func (.func 39) #[] #[])).run Try.prog ((w.alloc (.cells #[.int .u8 a0, .int .u8 a1, .int .i64 a2, .int .i64 a3, .slice A l.length c] 39)).alloc (.map km6 6)) = .ok () ((w.alloc (.cells #[.int .u8 a0, .int .u8 a1, .int .i64 a2, .int .i64 a3, .slice A l.length c] 39)).alloc (.map km7 7)) := by simpa using ins6 (w.alloc (.cells #[.int .u8 a0, .int .u8 a1, .int .i64 a2, .int .i64 a3, .slice A l.length c] 39))
  have m7 : (Instr.mapUpdate 53 (.map (some (w.heap.size + 1))) (.int .u8 7) (.func (.func 39) #[] #[])).run Try.prog ((w.alloc (.cells #[.int .u8 a0, .int .u8 a1, .int .i64 a2, .int .i64 a3, .slice A l.length c] 39)).alloc (.map km7 7)) = .ok () ((w.alloc (.cells #[.int .u8 a0, .int .u8 a1, .int .i64 a2, .int .i64 a3, .slice A l.length c] 39)).alloc (.map km8 8)) := by simpa using ins7 (w.alloc (.cells #[.int .u8 a0, .int .u8 a1, .int .i64 a2, .int .i64 a3, .slice A l.length c] 39))
  have m8 : (Instr.mapUpdate 53 (.map (some (w.heap.size + 1))) (.int .u8 8) (.func (.func 39) #[] #[])).run Try.prog ((w.alloc (.cells #[.int .u8 a0, .int .u8 a1, .int .i64 a2, .int .i64 a3, .slice A l.length c] 39)).alloc (.map km8 8)) = .ok () ((w.alloc (.cells #[.int .u8 a0, .int .u8 a1, .int .i64 a2, .int .i64 a3, .slice A l.length c] 39)).alloc (.map km9 9)) := by simpa using ins8 (w.alloc (.cells #[.int .u8 a0, .int .u8 a1, .int .i64 a2, .int .i64 a3, .slice A l.length c] 39))
  have m9 : (Instr.mapUpdate 53 (.map (some (w.heap.size + 1))) (.int .u8 10) (.func (.func 39) #[] #[])).run Try.prog ((w.alloc (.cells #[.int .u8 a0, .int .u8 a1, .int .i64 a2, .int .i64 a3, .slice A l.length c] 39)).alloc (.map km9 9)) = .ok () ((w.alloc (.cells #[.int .u8 a0, .int .u8 a1, .int .i64 a2, .int .i64 a3, .slice A l.length c] 39)).alloc (.map km10 10)) := by simpa using ins9 (w.alloc (.cells #[.int .u8 a0, .int .u8 a1, .int .i64 a2, .int .i64 a3, .slice A l.length c] 39))
  have mk := @run_makeMap Try.prog
  have lk : (Instr.lookup 53 (.map (some (w.heap.size + 1))) (.int .u8 a0) true).run Try.prog ((w.alloc (.cells #[.int .u8 a0, .int .u8 a1, .int .i64 a2, .int .i64 a3, .slice A l.length c] 39)).alloc (.map km10 10)) = .ok (.tuple #[.func (.func f) #[] #[], .bool true]) ((w.alloc (.cells #[.int .u8 a0, .int .u8 a1, .int .i64 a2, .int .i64 a3, .slice A l.length c] 39)).alloc (.map km10 10)) :=
    run_find 53 5 46 Try.underlying53 Try.underlying5 _ _ km10 10 a0 _ i (by simpa using heap_alloc_last (w.alloc (.cells #[.int .u8 a0, .int .u8 a1, .int .i64 a2, .int .i64 a3, .slice A l.length c] 39)) (.map km10 10)) hf
  have HC := Aside0.mk hC
  have HHB := Aside0.mk (Below.refl w.heap.size w)
  clear hf hC
  go_enter Try.func24, Try.ntmps24
  go_wp2_with (go_at_fn f; refine (HC.out _ (below_alloc (below_alloc HHB.out _) _)).mono ?_; rintro e w' ⟨rfl, hb⟩; (have HD := Aside0.mk hb; clear hb))
  go_ret
  exact ⟨rfl, (below_alloc (below_alloc HHB.out _) _).trans (HD.out.mono (by simp; omega))⟩
set_option maxHeartbeats 4000000 in
theorem num_miss (a0 a1 a2 a3 : Int) (A : Option Addr) (c : Nat) (l : List Int) (w : World) (hf : Instr.findNow (.int .u8) (.int .u8 a0) km10.toList 0 = some none) :
    Calls Try.prog 24 #[.agg #[.int .u8 a0, .int .u8 a1, .int .i64 a2, .int .i64 a3, .slice A l.length c]] w fun e w' => e = .returned (.bool false) ∧ Below w.heap.size w w' := by
  have m0 : (Instr.mapUpdate 53 (.map (some (w.heap.size + 1))) (.int .u8 2) (.func (.func 35) #[] #[])).run Try.prog ((w.alloc (.cells #[.int .u8 a0, .int .u8 a1, .int .i64 a2, .int .i64 a3, .slice A l.length c] 39)).alloc (.map #[] 0)) = .ok () ((w.alloc (.cells #[.int .u8 a0, .int .u8 a1, .int .i64 a2, .int .i64 a3, .slice A l.length c] 39)).alloc (.map km1 1)) := by simpa using ins0 (w.alloc (.cells #[.int .u8 a0, .int .u8 a1, .int .i64 a2, .int .i64 a3, .slice A l.length c] 39))
  have m1 : (Instr.mapUpdate 53 (.map (some (w.heap.size + 1))) (.int .u8 3) (.func (.func 36) #[] #[])).run Try.prog ((w.alloc (.cells #[.int .u8 a0, .int .u8 a1, .int .i64 a2, .int .i64 a3, .slice A l.length c] 39)).alloc (.map km1 1)) = .ok () ((w.alloc (.cells #[.int .u8 a0, .int .u8 a1, .int .i64 a2, .int .i64 a3, .slice A l.length c] 39)).alloc (.map km2 2)) := by simpa using ins1 (w.alloc (.cells #[.int .u8 a0, .int .u8 a1, .int .i64 a2, .int .i64 a3, .slice A l.length c] 39))
  have m2 : (Instr.mapUpdate 53 (.map (some (w.heap.size + 1))) (.int .u8 5) (.func (.func 37) #[] #[])).run Try.prog ((w.alloc (.cells #[.int .u8 a0, .int .u8 a1, .int .i64 a2, .int .i64 a3, .slice A l.length c] 39)).alloc (.map km2 2)) = .ok () ((w.alloc (.cells #[.int .u8 a0, .int .u8 a1, .int .i64 a2, .int .i64 a3, .slice A l.length c] 39)).alloc (.map km3 3)) := by simpa using ins2 (w.alloc (.cells #[.int .u8 a0, .int .u8 a1, .int .i64 a2, .int .i64 a3, .slice A l.length c] 39))
  have m3 : (Instr.mapUpdate 53 (.map (some (w.heap.size + 1))) (.int .u8 9) (.func (.func 38) #[] #[])).run Try.prog ((w.alloc (.cells #[.int .u8 a0, .int .u8 a1, .int .i64 a2, .int .i64 a3, .slice A l.length c] 39)).alloc (.map km3 3)) = .ok () ((w.alloc (.cells #[.int .u8 a0, .int .u8 a1, .int .i64 a2, .int .i64 a3, .slice A l.length c] 39)).alloc (.map km4 4)) := by simpa using ins3 (w.alloc (.cells #[.int .u8 a0, .int .u8 a1, .int .i64 a2, .int .i64 a3, .slice A l.length c] 39))
  have m4 : (Instr.mapUpdate 53 (.map (some (w.heap.size + 1))) (.int .u8 1) (.func (.func 39) #[] #[])).run Try.prog ((w.alloc (.cells #[.int .u8 a0, .int .u8 a1, .int .i64 a2, .int .i64 a3, .slice A l.length c] 39)).alloc (.map km4 4)) = .ok () ((w.alloc (.cells #[.int .u8 a0, .int .u8 a1, .int .i64 a2, .int .i64 a3, .slice A l.length c] 39)).alloc (.map km5 5)) := by simpa using ins4 (w.alloc (.cells #[.int .u8 a0, .int .u8 a1, .int .i64 a2, .int .i64 a3, .slice A l.length c] 39))
  have m5 : (Instr.mapUpdate 53 (.map (some (w.heap.size + 1))) (.int .u8 4) (.func (.func 39) #[] #[])).run Try.prog ((w.alloc (.cells #[.int .u8 a0, .int .u8 a1, .int .i64 a2, .int .i64 a3, .slice A l.length c] 39)).alloc (.map km5 5)) = .ok () ((w.alloc (.cells #[.int .u8 a0, .int .u8 a1, .int .i64 a2, .int .i64 a3, .slice A l.length c] 39)).alloc (.map km6 6)) := by simpa using ins5 (w.alloc (.cells #[.int .u8 a0, .int .u8 a1, .int .i64 a2, .int .i64 a3, .slice A l.length c] 39))
  have m6 : (Instr.mapUpdate 53 (.map (some (w.heap.size + 1))) (.int .u8 6) (.func (.func 39) #[] #[])).run Try.prog ((w.alloc (.cells #[.int .u8 a0, .int .u8 a1, .int .i64 a2, .int .i64 a3, .slice A l.length c] 39)).alloc (.map km6 6)) = .ok () ((w.alloc (.cells #[.int .u8 a0, .int .u8 a1, .int .i64 a2, .int .i64 a3, .slice A l.length c] 39)).alloc (.map km7 7)) := by simpa using ins6 (w.alloc (.cells #[.int .u8 a0, .int .u8 a1, .int .i64 a2, .int .i64 a3, .slice A l.length c] 39))
  have m7 : (Instr.mapUpdate 53 (.map (some (w.heap.size + 1))) (.int .u8 7) (.func (.func 39) #[] #[])).run Try.prog ((w.alloc (.cells #[.int .u8 a0, .int .u8 a1, .int .i64 a2, .int .i64 a3, .slice A l.length c] 39)).alloc (.map km7 7)) = .ok () ((w.alloc (.cells #[.int .u8 a0, .int .u8 a1, .int .i64 a2, .int .i64 a3, .slice A l.length c] 39)).alloc (.map km8 8)) := by simpa using ins7 (w.alloc (.cells #[.int .u8 a0, .int .u8 a1, .int .i64 a2, .int .i64 a3, .slice A l.length c] 39))
  have m8 : (Instr.mapUpdate 53 (.map (some (w.heap.size + 1))) (.int .u8 8) (.func (.func 39) #[] #[])).run Try.prog ((w.alloc (.cells #[.int .u8 a0, .int .u8 a1, .int .i64 a2, .int .i64 a3, .slice A l.length c] 39)).alloc (.map km8 8)) = .ok () ((w.alloc (.cells #[.int .u8 a0, .int .u8 a1, .int .i64 a2, .int .i64 a3, .slice A l.length c] 39)).alloc (.map km9 9)) := by simpa using ins8 (w.alloc (.cells #[.int .u8 a0, .int .u8 a1, .int .i64 a2, .int .i64 a3, .slice A l.length c] 39))
  have m9 : (Instr.mapUpdate 53 (.map (some (w.heap.size + 1))) (.int .u8 10) (.func (.func 39) #[] #[])).run Try.prog ((w.alloc (.cells #[.int .u8 a0, .int .u8 a1, .int .i64 a2, .int .i64 a3, .slice A l.length c] 39)).alloc (.map km9 9)) = .ok () ((w.alloc (.cells #[.int .u8 a0, .int .u8 a1, .int .i64 a2, .int .i64 a3, .slice A l.length c] 39)).alloc (.map km10 10)) := by simpa using ins9 (w.alloc (.cells #[.int .u8 a0, .int .u8 a1, .int .i64 a2, .int .i64 a3, .slice A l.length c] 39))
  have mk := @run_makeMap Try.prog
  have hz : ∀ W, (zeroValue 46).run Try.prog W = .ok .nilFunc W := fun _ => by kernel_rfl
  have lk : (Instr.lookup 53 (.map (some (w.heap.size + 1))) (.int .u8 a0) true).run Try.prog ((w.alloc (.cells #[.int .u8 a0, .int .u8 a1, .int .i64 a2, .int .i64 a3, .slice A l.length c] 39)).alloc (.map km10 10)) = .ok (.tuple #[.nilFunc, .bool false]) ((w.alloc (.cells #[.int .u8 a0, .int .u8 a1, .int .i64 a2, .int .i64 a3, .slice A l.length c] 39)).alloc (.map km10 10)) :=
    run_miss 53 5 46 Try.underlying53 Try.underlying5 _ _ km10 10 a0 .nilFunc (hz _) (by simpa using heap_alloc_last (w.alloc (.cells #[.int .u8 a0, .int .u8 a1, .int .i64 a2, .int .i64 a3, .slice A l.length c] 39)) (.map km10 10)) hf
  have HHB := Aside0.mk (Below.refl w.heap.size w)
  clear hf hz
  go_enter Try.func24, Try.ntmps24
  go_wp2
  go_ret
  exact ⟨rfl, below_alloc (below_alloc HHB.out _) _⟩
def numB (k a b : Int) : Bool :=
  if k = 2 then decide (a ≤ 3) && (decide (a < 3) || decide (0 < b))
  else if k = 3 then decide (a ≤ 2) && (a != 1 || decide (0 < b))
  else if k = 5 then decide (a ≤ 3) && b == 0
  else if k = 9 then a == 0 && decide (1 ≤ b) && decide (b ≤ 16)
  else decide (k = 1 ∨ k = 4 ∨ k = 6 ∨ k = 7 ∨ k = 8 ∨ k = 10) && (a == 0 && b == 0)
def check_numbers.f (a0 a1 a2 _a3 : Int) (_l : List Int) : Option Bool := some (numB a0 a1 a2)
theorem plain_f (a0 a1 a2 a3 : Int) (l : List Int) : check_plain.f a0 a1 a2 a3 l = some (a1 == 0 && a2 == 0) := by
  unfold check_plain.f
  by_cases h : a1 = 0 <;> simp [h]
theorem check_numbers.calls (a0 a1 a2 a3 : Int) (A : Option Addr) (c : Nat) (l : List Int) (r : Bool) (w : World) (hr : Kd.C (Kd.int .i64) w A l.length l) (hc : l.length ≤ c) (h : check_numbers.f a0 a1 a2 a3 l = some r) :
    Calls Try.prog 24 #[.agg #[.int .u8 a0, .int .u8 a1, .int .i64 a2, .int .i64 a3, .slice A l.length c]] w fun e w' => e = .returned (.bool r) ∧ Below w.heap.size w w' := by
  have hm : r = numB a0 a1 a2 := by simpa [check_numbers.f] using h.symm
  subst hm
  clear h
  by_cases k2 : a0 = 2
  · subst k2
    refine num_hit 2 a1 a2 a3 A c l _ w 35 0 rfl (enters_of Try.func35 (by kernel_rfl) rfl) fun W hb => check_numbers_1.calls 2 a1 a2 a3 A c l _ W (Kd.C_below hr hb) hc ?_
    unfold check_numbers_1.f numB
    by_cases h1 : a1 ≤ 3 <;> by_cases h2 : a1 < 3 <;> simp [h1, h2]
  by_cases k3 : a0 = 3
  · subst k3
    refine num_hit 3 a1 a2 a3 A c l _ w 36 1 rfl (enters_of Try.func36 (by kernel_rfl) rfl) fun W hb => check_numbers_2.calls 3 a1 a2 a3 A c l _ W (Kd.C_below hr hb) hc ?_
    unfold check_numbers_2.f numB
    by_cases h1 : a1 ≤ 2 <;> by_cases h2 : a1 = 1 <;> simp [h1, h2]
  by_cases k5 : a0 = 5
  · subst k5
    refine num_hit 5 a1 a2 a3 A c l _ w 37 2 rfl (enters_of Try.func37 (by kernel_rfl) rfl) fun W hb => check_numbers_3.calls 5 a1 a2 a3 A c l _ W (Kd.C_below hr hb) hc ?_
    unfold check_numbers_3.f numB
    by_cases h1 : a1 ≤ 3 <;> simp [h1]
  by_cases k9 : a0 = 9
  · subst k9
    refine num_hit 9 a1 a2 a3 A c l _ w 38 3 rfl (enters_of Try.func38 (by kernel_rfl) rfl) fun W hb => check_numbers_4.calls 9 a1 a2 a3 A c l _ W (Kd.C_below hr hb) hc ?_
    unfold check_numbers_4.f numB
    by_cases h1 : a1 = 0 <;> by_cases h2 : a2 ≥ 1 <;> simp [h1, h2]
  by_cases k1 : a0 = 1
  · subst k1
    exact num_hit 1 a1 a2 a3 A c l _ w 39 4 rfl (enters_of Try.func39 (by kernel_rfl) rfl) fun W hb => check_plain.calls 1 a1 a2 a3 A c l _ W (Kd.C_below hr hb) hc (by rw [plain_f]; rfl)
  by_cases k4 : a0 = 4
  · subst k4
    exact num_hit 4 a1 a2 a3 A c l _ w 39 5 rfl (enters_of Try.func39 (by kernel_rfl) rfl) fun W hb => check_plain.calls 4 a1 a2 a3 A c l _ W (Kd.C_below hr hb) hc (by rw [plain_f]; rfl)
  by_cases k6 : a0 = 6
  · subst k6
    exact num_hit 6 a1 a2 a3 A c l _ w 39 6 rfl (enters_of Try.func39 (by kernel_rfl) rfl) fun W hb => check_plain.calls 6 a1 a2 a3 A c l _ W (Kd.C_below hr hb) hc (by rw [plain_f]; rfl)
  by_cases k7 : a0 = 7
  · subst k7
    exact num_hit 7 a1 a2 a3 A c l _ w 39 7 rfl (enters_of Try.func39 (by kernel_rfl) rfl) fun W hb => check_plain.calls 7 a1 a2 a3 A c l _ W (Kd.C_below hr hb) hc (by rw [plain_f]; rfl)
  by_cases k8 : a0 = 8
  · subst k8
    exact num_hit 8 a1 a2 a3 A c l _ w 39 8 rfl (enters_of Try.func39 (by kernel_rfl) rfl) fun W hb => check_plain.calls 8 a1 a2 a3 A c l _ W (Kd.C_below hr hb) hc (by rw [plain_f]; rfl)
  by_cases k10 : a0 = 10
  · subst k10
    exact num_hit 10 a1 a2 a3 A c l _ w 39 9 rfl (enters_of Try.func39 (by kernel_rfl) rfl) fun W hb => check_plain.calls 10 a1 a2 a3 A c l _ W (Kd.C_below hr hb) hc (by rw [plain_f]; rfl)
  have hz : numB a0 a1 a2 = false := by simp [numB, k2, k3, k5, k9, k1, k4, k6, k7, k8, k10]
  rw [hz]
  refine num_miss a0 a1 a2 a3 A c l w ?_
  simp [km10, Instr.findNow, Instr.sameNow, beq_eq_false_iff_ne.2 k2, beq_eq_false_iff_ne.2 k3, beq_eq_false_iff_ne.2 k5, beq_eq_false_iff_ne.2 k9, beq_eq_false_iff_ne.2 k1, beq_eq_false_iff_ne.2 k4, beq_eq_false_iff_ne.2 k6, beq_eq_false_iff_ne.2 k7, beq_eq_false_iff_ne.2 k8, beq_eq_false_iff_ne.2 k10]
end Go.Proofs.Ytnjlonenckifpaa.X
namespace Go.Proofs.Ytnjlonenckifpaa.X
set_option linter.unusedVariables false
set_option linter.unusedSimpArgs false
open Go.RowKit Go.Proofs.YtnjlonenckifpaaW.PrintWords Go.Proofs.YtnjlonenckifpaaW.PrintLast Go.Proofs.YtnjlonenckifpaaW.PrintMore
def gone (th : List Bool) (x : Int) : Bool := !th.getD x.toNat false
def okAt (G : List S39) (th : List Bool) (i : Nat) : Bool := !th.getD i false && ((rd_T39 G (i : Int)).f0 == 9 || !(rd_T39 G (i : Int)).f4.any (gone th))
def orderGo (G : List S39) : Nat → List Bool → List Int → List Int
  | 0, _, out => out
  | f + 1, th, out => match (List.range G.length).find? (okAt G th) with
    | none => out
    | some i => orderGo G f (th.set i true) (out ++ [(i : Int)])
def orderL (G : List S39) : List Int := orderGo G (G.length + 1) (List.replicate G.length false) []
def insOk (G : List S39) : Bool := decide (G.length ≤ 64) && G.all fun n => n.f4.all (inRange G)
def check_order.f (G : List S39) : Option (List Int) := if insOk G = true then some (orderL G) else none
theorem find_range_some {n : Nat} {p : Nat → Bool} {i : Nat} (hi : i < n) (hp : p i = true) (hb : ∀ j, j < i → p j = false) : (List.range n).find? p = some i := by
  rw [List.find?_eq_some_iff_append]
  refine ⟨hp, List.range i, (List.range (n - i - 1)).map (i + 1 + ·), ?_, fun j hj => by simp [hb j (List.mem_range.1 hj)]⟩
  apply List.ext_getElem?
  intro k
  rcases Nat.lt_trichotomy k i with h | h | h
  · rw [List.getElem?_append_left (by simpa using h)]
    simp [h, show k < n by omega]
  · subst h
    rw [List.getElem?_append_right (by simp)]
    simp [hi]
  · rw [List.getElem?_append_right (by simp; omega)]
    simp only [List.length_range]
    rw [show k - i = (k - i - 1) + 1 by omega, List.getElem?_cons_succ]
    by_cases hk : k < n
    · simp [hk, show k - i - 1 < n - i - 1 by omega]; omega
    · rw [List.getElem?_eq_none (by simp; omega), List.getElem?_eq_none (by simp; omega)]
theorem find_range_none {n : Nat} {p : Nat → Bool} (hb : ∀ j, j < n → p j = false) : (List.range n).find? p = none := by
  rw [List.find?_eq_none]
  intro j hj
  simp [hb j (List.mem_range.1 hj)]
theorem count_set {th : List Bool} {i : Nat} (hi : i < th.length) (h : th.getD i false = false) : (th.set i true).count false + 1 = th.count false := by
  have h1 : th[i]? = some false := by
    simp only [List.getD_eq_getElem?_getD] at h
    rw [List.getElem?_eq_getElem hi] at h ⊢
    simpa using h
  have h2 : th[i] = false := by rw [List.getElem?_eq_getElem hi] at h1; simpa using h1
  rw [List.count_set hi]
  have h3 : 0 < th.count false := List.count_pos_iff.2 (List.mem_of_getElem? h1)
  simp [h2]
  omega
def boolRow (th : List Bool) : Array Value := (th.map Value.bool).toArray
theorem boolRow_set (th : List Bool) (i : Nat) (v : Bool) : (boolRow th).setIfInBounds i (.bool v) = boolRow (th.set i v) := by
  simp [boolRow, List.map_set]
theorem madeBools (n : Nat) : madeCells #[.bool false] (n * 1) = boolRow (List.replicate n false) := by
  apply Array.ext
  · simp [madeCells, boolRow]
  · intro i h1 h2
    simp [madeCells, boolRow, Nat.mod_one]
structure Row (w : World) (b : Nat) (th : List Bool) : Prop where mk :: (blk : w.heap[b]? = some (.cells (boolRow th) 4 (0, 0)))
theorem Row.cell {w : World} {b : Nat} {th : List Bool} (h : Row w b th) (i : Nat) (hi : i < th.length) : w.cell? ⟨b, i, none⟩ = some (.bool (th.getD i false)) := by
  simp [World.cell?, h.blk, boolRow, hi]
theorem Row.free {w : World} {b : Nat} {th : List Bool} (h : Row w b th) (i : Nat) : w.frozen? ⟨b, i, none⟩ = false := by
  simp [World.frozen?, h.blk]
theorem Row.lt {w : World} {b : Nat} {th : List Bool} (h : Row w b th) : b < w.heap.size := (Array.getElem?_eq_some_iff.1 h.blk).1
theorem Row.below {w w1 : World} {b : Nat} {th : List Bool} (h : Row w b th) (hb : Below w.heap.size w w1) : Row w1 b th := ⟨(hb.block b h.lt).trans h.blk⟩
theorem Row.grown {w w1 : World} {b : Nat} {th : List Bool} {row : Option Nat} (h : Row w b th) (hg : w.grownBy w1 row) (hne : some b ≠ row) : Row w1 b th := ⟨(hg.block b h.lt hne).trans h.blk⟩
theorem Row.drewN {w : World} {b : Nat} {th : List Bool} (h : Row w b th) (n : Nat) : Row (w.drewN n) b th := ⟨h.blk⟩
theorem Row.alloc {w : World} {b : Nat} {th : List Bool} (h : Row w b th) (o : Obj) : Row (w.alloc o) b th := h.below (below_alloc (Below.refl _ _) o)
theorem Row.set {w : World} {b : Nat} {th : List Bool} (h : Row w b th) (i : Nat) (v : Bool) : Row (w.setCell ⟨b, i, none⟩ (.bool v)) b (th.set i v) := ⟨by
  rw [heap_setCell_same w b i _ 4 _ h.blk, boolRow_set]⟩
theorem Row.far {w : World} {b : Nat} {th : List Bool} (h : Row w b th) {p : Addr} (hp : b ≠ p.block) (u : Value) : Row (w.setCell p u) b th := ⟨(Below.heap_setCell w p u b hp).trans h.blk⟩
structure Var (w : World) (b : Nat) (v : Value) (t : TypeId) : Prop where mk :: (blk : w.heap[b]? = some (.cells #[v] t (0, 0)))
theorem Var.cell {w : World} {b : Nat} {v : Value} {t : TypeId} (h : Var w b v t) : w.cell? ⟨b, 0, none⟩ = some v := by simp [World.cell?, h.blk]
theorem Var.lt {w : World} {b : Nat} {v : Value} {t : TypeId} (h : Var w b v t) : b < w.heap.size := (Array.getElem?_eq_some_iff.1 h.blk).1
theorem Var.below {w w1 : World} {b : Nat} {v : Value} {t : TypeId} (h : Var w b v t) (hb : Below w.heap.size w w1) : Var w1 b v t := ⟨(hb.block b h.lt).trans h.blk⟩
theorem Var.grown {w w1 : World} {b : Nat} {v : Value} {t : TypeId} {row : Option Nat} (h : Var w b v t) (hg : w.grownBy w1 row) (hne : some b ≠ row) : Var w1 b v t := ⟨(hg.block b h.lt hne).trans h.blk⟩
theorem Var.drewN {w : World} {b : Nat} {v : Value} {t : TypeId} (h : Var w b v t) (n : Nat) : Var (w.drewN n) b v t := ⟨h.blk⟩
theorem Var.alloc {w : World} {b : Nat} {v : Value} {t : TypeId} (h : Var w b v t) (o : Obj) : Var (w.alloc o) b v t := h.below (below_alloc (Below.refl _ _) o)
theorem Var.far {w : World} {b : Nat} {v : Value} {t : TypeId} (h : Var w b v t) {p : Addr} (hp : b ≠ p.block) (u : Value) : Var (w.setCell p u) b v t := ⟨(Below.heap_setCell w p u b hp).trans h.blk⟩
set_option maxHeartbeats 2000000 in
theorem gone_calls (th : List Bool) (n : Nat) (hn : th.length = n) (hn2 : n ≤ 64) (x : Int) (h0 : 0 ≤ x) (h1 : x < (n : Int)) (b0 b1 : Nat) (w : World) (hv : Var w b1 (.slice (some ⟨b0, 0, none⟩) n n) 37) (hr : Row w b0 th) :
    Calls Try.prog 51 #[.int .i64 x, .pointer (some ⟨b1, 0, none⟩)] w fun e w' => e = .returned (.bool (gone th x)) ∧ ∃ q', w' = w.drewN q' := by
  have hc1 := hv.cell
  have hc0 := hr.cell x.toNat (by omega)
  have HP := Aside0.mk (show gone th x = !(th.getD x.toNat false) from rfl)
  have hk : n ≤ 9223372036854775807 := by omega
  generalize th.getD x.toNat false = v at hc0 HP
  clear hv hr hn
  go_enter Try.func51, Try.ntmps51
  go_wp2
  go_ret
  exact ⟨by rw [HP.out]; rfl, 0, rfl⟩
theorem Asks.gone {th : List Bool} {n : Nat} (hn : th.length = n) (hn2 : n ≤ 64) {l : List Int} (hl : ∀ x ∈ l, 0 ≤ x ∧ x < (n : Int)) {b0 b1 : Nat} {w : World} (hv : Var w b1 (.slice (some ⟨b0, 0, none⟩) n n) 37) (hr : Row w b0 th) :
    Asks 51 #[.pointer (some ⟨b1, 0, none⟩)] (gone th) l w := fun j x hj q =>
  gone_calls th n hn hn2 x (hl x (List.mem_of_getElem? hj)).1 (hl x (List.mem_of_getElem? hj)).2 b0 b1 _ (hv.drewN q) (hr.drewN q)
end Go.Proofs.Ytnjlonenckifpaa.X
namespace Go.Proofs.Ytnjlonenckifpaa.X
set_option linter.unusedVariables false
set_option linter.unusedSimpArgs false
open Go.RowKit Go.Proofs.YtnjlonenckifpaaW.PrintWords Go.Proofs.YtnjlonenckifpaaW.PrintLast Go.Proofs.YtnjlonenckifpaaW.PrintMore
theorem insOk_at {G : List S39} (h : insOk G = true) (i : Nat) (hi : i < G.length) : ∀ x ∈ (rd_T39 G (i : Int)).f4, 0 ≤ x ∧ x < (G.length : Int) := by
  simp only [insOk, Bool.and_eq_true, List.all_eq_true] at h
  intro x hx
  have := h.2 (rd_T39 G (i : Int)) (by simp [rd_T39, hi]) x hx
  simpa [inRange] using this
theorem run_make_row0 (n : Nat) (hn : n ≤ 64) (W : World) : (Instr.makeSlice 37 (.int .i64 (n : Int)) (.int .i64 (n : Int))).run Try.prog W = .ok (.slice (some ⟨W.heap.size, 0, none⟩) n n) (W.alloc (.cells (boolRow (List.replicate n false)) 4)) := by
  obtain ⟨i, hi, hz, hs, hb⟩ := info_parts info4
  have := run_make (P := Try.prog) W 37 4 i (.bool false) Try.underlying37 hi hz .i64 .i64 (n : Int) (n : Int) (by omega) (by omega) (by rw [hb]; omega) (by omega)
  simp only [Int.toNat_natCast, hs] at this
  rw [this, ← madeBools]
  rfl
theorem okAt_step {G : List S39} {th : List Bool} {k : Nat} (h : ∀ j, j < k → okAt G th j = false) (hk : okAt G th k = false) : ∀ j, j < k + 1 → okAt G th j = false := fun j hj => by
  by_cases e : j = k
  · rw [e]; exact hk
  · exact h j (by omega)
theorem orderGo_found {G : List S39} {th : List Bool} {out : List Int} {k : Nat} (f : Nat) (hk : k < G.length) (hF : okAt G th k = true) (hb : ∀ j, j < k → okAt G th j = false) : orderGo G (f + 1) th out = orderGo G f (th.set k true) (out ++ [(k : Int)]) := by
  rw [orderGo, find_range_some hk hF hb]
theorem orderGo_none {G : List S39} {th : List Bool} {out : List Int} (f : Nat) (hb : ∀ j, j < G.length → okAt G th j = false) : orderGo G (f + 1) th out = out := by
  rw [orderGo, find_range_none hb]
theorem below_at {w W W' : World} (h : W' = W) (k : Below w.heap.size w W) : Below w.heap.size w W' := by rw [h]; exact k
theorem row_at {W W' : World} (h : W' = W) {b : Nat} {th : List Bool} (k : Row W b th) : Row W' b th := by rw [h]; exact k
theorem var_at {W W' : World} (h : W' = W) {b : Nat} {v : Value} {t : TypeId} (k : Var W b v t) : Var W' b v t := by rw [h]; exact k
theorem r_at {W W' : World} (h : W' = W) {α : Type} {d : Kd α} {e base : Nat} {ok : Nat → Prop} {v : Value} {xs : List α} (k : Kd.R d e W base ok v xs) : Kd.R d e W' base ok v xs := by rw [h]; exact k
theorem ne34 : ∀ q, q ∈ 3 :: (Kd.int .i64).E → q ≠ 4 := by
  intro q hq
  simp [Kd.int, Kd.scalar] at hq
  omega
set_option maxHeartbeats 8000000 in
set_option maxRecDepth 100000 in
theorem check_order.calls (A : Option Addr) (c : Nat) (G : List S39) (r : List Int) (w : World) (hr : Kd.C k39 w A G.length G) (_hc : G.length ≤ c) (h : check_order.f G = some r) :
    Calls Try.prog 34 #[.slice A G.length c] w fun e w' => ∃ v0_ : Value, e = .returned (v0_) ∧ Kd.R (Kd.int .i64) 3 w' w.heap.size (fun _ => True) v0_ r ∧ Below w.heap.size w w' := by
  have hm : insOk G = true ∧ orderL G = r := by simpa [check_order.f] using h
  obtain ⟨hok, hres⟩ := hm
  clear h _hc
  have hn : G.length ≤ 64 := by simp [insOk] at hok; exact hok.1
  have HOK := Aside0.mk hok
  have HRES := Aside0.mk hres
  have HR := Aside0.mk hr
  clear hr hok hres
  have hmk := fun W : World => run_make_row0 G.length hn W
  have eg := enters_of Try.func51 (by kernel_rfl) rfl
  have HB0 := Aside0.mk (Below.refl w.heap.size w)
  go_enter Try.func34, Try.ntmps34
  go_wp2
  go_loopg [5, 6] (G.length + 1) (fun gg v5 v6 wr => ∃ (th : List Bool) (out : List Int) (fb : Bool), v6 = .bool fb ∧ Aside0 (th.length = G.length) ∧ Aside0 (Row wr w.heap.size th) ∧
      Aside0 (Var wr (w.heap.size + 1) (.slice (some ⟨w.heap.size, 0, none⟩) G.length G.length) 37) ∧ Aside0 (Kd.R (Kd.int .i64) 3 wr w.heap.size (fun _ => True) v5 out) ∧
      Aside0 ((fb = true → orderGo G gg th out = r ∧ th.count false < gg) ∧ (fb = false → out = r)) ∧ Aside0 (out.length + th.count false ≤ 64) ∧ Aside0 (Below w.heap.size w wr))
  case atStart =>
    refine ⟨List.replicate G.length false, [], true, rfl, ⟨by simp⟩, ⟨Row.alloc ⟨heap_alloc_last w _⟩ _⟩, ⟨⟨?_⟩⟩, ⟨Kd.R_nil _ _ _ _ _⟩, ⟨fun _ => ⟨HRES.out, ?_⟩, fun h => by cases h⟩, ⟨?_⟩, ⟨below_alloc (below_alloc HB0.out _) _⟩⟩
    · have := heap_alloc_last (w.alloc (.cells (boolRow (List.replicate G.length false)) 4)) (.cells #[.slice (some ⟨w.heap.size, 0, none⟩) G.length G.length] 37)
      simpa using this
    · simp
    · simp; omega
  case round =>
    obtain ⟨th, out, fb, rfl, HTL, HROW, HVAR, HOUT, HGO, HCNT, HB⟩ := hrel
    cases fb with
    | false =>
      obtain rfl := HGO.out.2 rfl
      clear HGO
      go_wp2
      go_ret
      exact ⟨u5, rfl, HOUT.out, HB.out⟩
    | true =>
      cases gk with
      | zero => exact absurd (HGO.out.1 rfl).2 (by omega)
      | succ gg =>
        have HGO1 := Aside0.mk (HGO.out.1 rfl).1
        have HGO2 := Aside0.mk (HGO.out.1 rfl).2
        clear HGO
        go_wp2
        obtain ⟨wo, rfl⟩ : ∃ wo : World, wo = wr := ⟨_, rfl⟩
        go_loopg [5, 6, 16] G.length (fun g2 v5 v6 v16 wr => v5 = u5 ∧ v6 = .bool false ∧ ∃ k : Nat, v16 = .int .i64 k ∧ k ≤ G.length ∧ G.length - k ≤ g2 ∧ Aside0 (∀ j, j < k → okAt G th j = false) ∧ Aside0 (Row wr w.heap.size th) ∧
          Aside0 (Var wr (w.heap.size + 1) (.slice (some ⟨w.heap.size, 0, none⟩) G.length G.length) 37) ∧ Aside0 (Kd.R (Kd.int .i64) 3 wr w.heap.size (fun _ => True) u5 out) ∧ Aside0 (Below w.heap.size w wr))
        case atStart => exact ⟨rfl, rfl, 0, rfl, Nat.zero_le _, by omega, ⟨fun j hj => absurd hj (Nat.not_lt_zero _)⟩, HROW, HVAR, HOUT, HB⟩
        case round =>
          clear HROW HVAR HOUT HB
          obtain ⟨rfl, rfl, k, rfl, hk, hg2, HNO, HROW, HVAR, HOUT, HB⟩ := hrel
          by_cases hlt : k < G.length
          · have hltz : (k : Int) < (G.length : Int) := by omega
            obtain ⟨ad, A4, c4, eA, q0, q1, q2, q3, q4, hl4, hC4⟩ := at_T39 (Kd.C_below HR.out HB.out) (k : Int) (by omega) hltz
            subst eA
            simp only [Int.toNat_natCast] at q0 q1 q2 q3 q4
            have HC4 := Aside0.mk hC4
            have HIN := Aside0.mk (insOk_at HOK.out k hlt)
            have HOKAT := Aside0.mk (show okAt G th k = (!th.getD k false && ((rd_T39 G (k : Int)).f0 == 9 || !(rd_T39 G (k : Int)).f4.any (gone th))) from rfl)
            clear hC4 hl4
            have hc1 := HVAR.out.cell
            have hl1 := HVAR.out.lt
            have hc0 := HROW.out.cell k (by rw [HTL.out]; exact hlt)
            have hl0 := HROW.out.lt
            have hf0 := HROW.out.free k
            generalize rd_T39 G (k : Int) = nd at q0 q1 q2 q3 q4 HC4 HIN HOKAT
            have hkb : k ≤ 64 := by omega
            by_cases hth : th.getD k false = true
            · rw [hth] at hc0
              have HF := Aside0.mk (show okAt G th k = false by rw [HOKAT.out, hth]; rfl)
              clear hth
              go_wp2
              go_roundg (G.length - (k + 1))
              case measure => omega
              case rel => exact ⟨rfl, rfl, k + 1, by go_num, by omega, by omega, ⟨okAt_step HNO.out HF.out⟩, ⟨HROW.out.alloc _⟩, ⟨HVAR.out.alloc _⟩, ⟨Kd.R_alloc HOUT.out _⟩, ⟨below_alloc HB.out _⟩⟩
            · have hth' : th.getD k false = false := by simpa using hth
              clear hth
              rw [hth'] at hc0
              have HCS := Aside0.mk (count_set (by rw [HTL.out]; exact hlt) hth')
              have HTH := Aside0.mk hth'
              have HNA := Aside0.mk (Kd.R_ne HOUT.out HROW.out.blk (by decide))
              have HNB := Aside0.mk (Kd.R_ne HOUT.out HVAR.out.blk (by decide))
              clear hth'
              have HNEXT0 := Aside0.mk (fun hF : okAt G th k = true => (orderGo_found (out := out) gg hlt hF HNO.out).symm.trans HGO1.out)
              by_cases h9 : nd.f0 = 9
              · have h9b : (nd.f0 == 9) = true := beq_iff_eq.2 h9
                have HNEXT := Aside0.mk (HNEXT0.out (by rw [HOKAT.out, HTH.out, h9b]; rfl))
                clear h9
                go_wp2_with (first | ((with_reducible refine gate_builtin (b := .append) (xs := #[.tmp 41, .tmp 43]) rfl ?_); at_builtin; (refine Kd.R_append (Kd.int .i64) (w0 := w) w.heap.size rfl (.tmp 41) (.tmp 43) 33 3 (.int .i64 0) 8 rfl Try.underlying33 info3 rfl (by decide) (by omega) u5 out (k : Int) [.int .i64 (k : Int)] (fun _ => True) (fun _ => False) rfl ?aX ?aP (fun _ hk => hk.elim) ?aF ?aO ?aB ?aS ?aL ?_; (case aX => show Value.slice (some ⟨wr.heap.size + 1, 0, none⟩) 1 1 = _; simp); (case aP => exact rfl); (case aB => exact below_alloc (below_set HB.out (Nat.le_refl _)) _); (case aF => exact (fun _ _ => trivial)); (case aO => exact Kd.R_alloc (Kd.R_set HOUT.out HROW.out.blk ne34 k (.bool true)) _); (case aS => exact below_size (below_alloc (below_set HB.out (Nat.le_refl _)) _)); (case aL => have := HCNT.out; omega); intro v118 w4 ho hb hg hat; (have HOUT1 := Aside0.mk ho); (have HB1 := Aside0.mk hb); (have HROW1 := Aside0.mk (Row.grown (Row.alloc (Row.set HROW.out k true) _) hg HNA.out)); (have HVAR1 := Aside0.mk (Var.grown (Var.alloc (Var.far HVAR.out (p := ⟨w.heap.size, k, none⟩) (by simp) _) _) hg HNB.out)); clear ho hb hg hat)))
                go_roundg gg
                case measure => omega
                case rel => exact ⟨th.set k true, out ++ [(k : Int)], true, rfl, ⟨by rw [List.length_set]; exact HTL.out⟩, HROW1, HVAR1, HOUT1, ⟨(fun _ => ⟨HNEXT.out, by have := HCS.out; have := HGO2.out; omega⟩), (fun h => nomatch h)⟩, ⟨by rw [List.length_append]; have := HCS.out; have := HCNT.out; simp; omega⟩, HB1⟩
              · have h9b : (nd.f0 == 9) = false := beq_eq_false_iff_ne.2 h9
                clear h9
                cases hany : nd.f4.any (gone th) with
                | true =>
                  have HF := Aside0.mk (show okAt G th k = false by rw [HOKAT.out, hany, h9b]; simp)
                  have HANY := Aside0.mk hany
                  clear hany
                  go_wp2_with (first | (go_at_call 42; refine (contains_calls A4 c4 nd.f4 51 #[.pointer (some ⟨w.heap.size + 1, 0, none⟩)] (gone th) eg _ (Kd.C_alloc HC4.out _) (Asks.gone HTL.out hn HIN.out (HVAR.out.alloc _) (HROW.out.alloc _))).mono ?_; rintro e w6 ⟨rfl, q, hw⟩; (have HW := Aside0.mk hw; clear hw); (have HB6 := Aside0.mk (below_at HW.out (pw_below_drewN (below_alloc HB.out _) q))); (have HROW6 := Aside0.mk (row_at HW.out ((HROW.out.alloc _).drewN q))); (have HVAR6 := Aside0.mk (var_at HW.out ((HVAR.out.alloc _).drewN q))); (have HOUT6 := Aside0.mk (r_at HW.out (Kd.R_drewN (Kd.R_alloc HOUT.out _) q))); clear HW; (rw [HANY.out])))
                  go_roundg (G.length - (k + 1))
                  case measure => omega
                  case rel => exact ⟨rfl, rfl, k + 1, by go_num, by omega, by omega, ⟨okAt_step HNO.out HF.out⟩, HROW6, HVAR6, HOUT6, HB6⟩
                | false =>
                  have HNEXT := Aside0.mk (HNEXT0.out (by rw [HOKAT.out, HTH.out, h9b, hany]; rfl))
                  have HANY := Aside0.mk hany
                  clear hany
                  go_wp2_with (first | (go_at_call 42; refine (contains_calls A4 c4 nd.f4 51 #[.pointer (some ⟨w.heap.size + 1, 0, none⟩)] (gone th) eg _ (Kd.C_alloc HC4.out _) (Asks.gone HTL.out hn HIN.out (HVAR.out.alloc _) (HROW.out.alloc _))).mono ?_; rintro e w6 ⟨rfl, q, hw⟩; (have HW := Aside0.mk hw; clear hw); (have HB6 := Aside0.mk (below_at HW.out (pw_below_drewN (below_alloc HB.out _) q))); (have HROW6 := Aside0.mk (row_at HW.out ((HROW.out.alloc _).drewN q))); (have HVAR6 := Aside0.mk (var_at HW.out ((HVAR.out.alloc _).drewN q))); (have HOUT6 := Aside0.mk (r_at HW.out (Kd.R_drewN (Kd.R_alloc HOUT.out _) q))); clear HW; (rw [HANY.out]); (have c61 := HVAR6.out.cell); (have c60 := HROW6.out.cell k (by rw [HTL.out]; exact hlt)); (rw [HTH.out] at c60); (have f60 := HROW6.out.free k); (have l60 := HROW6.out.lt)) | ((with_reducible refine gate_builtin (b := .append) (xs := #[.tmp 41, .tmp 43]) rfl ?_); at_builtin; (refine Kd.R_append (Kd.int .i64) (w0 := w) w.heap.size rfl (.tmp 41) (.tmp 43) 33 3 (.int .i64 0) 8 rfl Try.underlying33 info3 rfl (by decide) (by omega) u5 out (k : Int) [.int .i64 (k : Int)] (fun _ => True) (fun _ => False) rfl ?aX ?aP (fun _ hk => hk.elim) ?aF ?aO ?aB ?aS ?aL ?_; (case aX => show Value.slice (some ⟨w6.heap.size, 0, none⟩) 1 1 = _; simp); (case aP => exact rfl); (case aB => exact below_set HB6.out (Nat.le_refl _)); (case aF => exact (fun _ _ => trivial)); (case aO => exact Kd.R_set HOUT6.out HROW6.out.blk ne34 k (.bool true)); (case aS => exact below_size (below_set HB6.out (Nat.le_refl _))); (case aL => have := HCNT.out; omega); intro v118 w4 ho hb hg hat; (have HOUT1 := Aside0.mk ho); (have HB1 := Aside0.mk hb); (have HROW1 := Aside0.mk (Row.grown (Row.set HROW6.out k true) hg HNA.out)); (have HVAR1 := Aside0.mk (Var.grown (Var.far HVAR6.out (p := ⟨w.heap.size, k, none⟩) (by simp) _) hg HNB.out)); clear ho hb hg hat)))
                  go_roundg gg
                  case measure => omega
                  case rel => exact ⟨th.set k true, out ++ [(k : Int)], true, rfl, ⟨by rw [List.length_set]; exact HTL.out⟩, HROW1, HVAR1, HOUT1, ⟨(fun _ => ⟨HNEXT.out, by have := HCS.out; have := HGO2.out; omega⟩), (fun h => nomatch h)⟩, ⟨by rw [List.length_append]; have := HCS.out; have := HCNT.out; simp; omega⟩, HB1⟩
          · have hke : k = G.length := by omega
            subst hke
            have HFIN := Aside0.mk (show out = r by have := HGO1.out; rw [orderGo_none gg HNO.out] at this; exact this)
            have hltz : ¬ (G.length : Int) < (G.length : Int) := by omega
            go_wp2
            go_roundg gg
            case measure => omega
            case rel => exact ⟨th, out, false, rfl, HTL, HROW, HVAR, HOUT, ⟨(fun h => nomatch h), fun _ => HFIN.out⟩, HCNT, HB⟩
end Go.Proofs.Ytnjlonenckifpaa.X
namespace Go.Proofs.Ytnjlonenckifpaa.X
set_option linter.unusedVariables false
set_option linter.unusedSimpArgs false
open Go.RowKit Go.Proofs.YtnjlonenckifpaaW.PrintWords Go.Proofs.YtnjlonenckifpaaW.PrintLast Go.Proofs.YtnjlonenckifpaaW.PrintMore
def portsOf (i a : Int) : List Int → Int → List S69
  | [], _ => []
  | x :: xs, k => if x = i then ⟨a, k⟩ :: portsOf i a xs (k + 1) else portsOf i a xs (k + 1)
def toFrom (i : Int) : List S39 → Int → List S69
  | [], _ => []
  | n :: ns, a => portsOf i a n.f4 0 ++ toFrom i ns (a + 1)
def toL (G : List S39) (i : Int) : List S69 := toFrom i G 0
def small (G : List S39) : Bool := decide (G.length ≤ 64) && G.all fun n => decide (n.f4.length ≤ 64)
theorem portsOf_length (i a : Int) : ∀ (l : List Int) (k : Int), (portsOf i a l k).length ≤ l.length
  | [], _ => by simp [portsOf]
  | x :: xs, k => by
    have := portsOf_length i a xs (k + 1)
    unfold portsOf
    split <;> simp <;> omega
theorem portsOf_mem (i a : Int) : ∀ (l : List Int) (k : Int) (p : S69), p ∈ portsOf i a l k → p.f0 = a
  | [], _, _, h => by simp [portsOf] at h
  | x :: xs, k, p, h => by
    unfold portsOf at h
    split at h
    · rcases List.mem_cons.1 h with rfl | h
      · rfl
      · exact portsOf_mem i a xs _ p h
    · exact portsOf_mem i a xs _ p h
theorem portsOf_any (i a : Int) : ∀ (l : List Int) (k : Int), (portsOf i a l k ≠ []) ↔ i ∈ l
  | [], _ => by simp [portsOf]
  | x :: xs, k => by
    unfold portsOf
    by_cases h : x = i
    · simp [h]
    · rw [if_neg h, portsOf_any i a xs]
      simp [Ne.symm h]
theorem toFrom_mem (i : Int) : ∀ (G : List S39) (a : Int) (p : S69), p ∈ toFrom i G a → a ≤ p.f0 ∧ p.f0 < a + G.length
  | [], _, _, h => by simp [toFrom] at h
  | n :: ns, a, p, h => by
    rcases List.mem_append.1 h with h | h
    · have := portsOf_mem _ _ _ _ _ h
      simp; omega
    · have := toFrom_mem i ns (a + 1) p h
      simp; omega
theorem toFrom_has (i : Int) : ∀ (G : List S39) (a : Int) (j : Nat), (∃ p, p ∈ toFrom i G a ∧ p.f0 = a + j) ↔ ∃ n, G[j]? = some n ∧ i ∈ n.f4
  | [], _, _ => by simp [toFrom]
  | n :: ns, a, j => by
    have ih := toFrom_has i ns (a + 1)
    constructor
    · rintro ⟨p, hp, hj⟩
      rcases List.mem_append.1 hp with h | h
      · have h0 := portsOf_mem _ _ _ _ _ h
        have : j = 0 := by omega
        subst this
        exact ⟨n, by simp, (portsOf_any i a n.f4 0).1 (List.ne_nil_of_mem h)⟩
      · have h0 := toFrom_mem i ns (a + 1) p h
        obtain ⟨m, rfl⟩ : ∃ m, j = m + 1 := ⟨j - 1, by omega⟩
        obtain ⟨n', hn, hi⟩ := (ih m).1 ⟨p, h, by omega⟩
        exact ⟨n', by simpa using hn, hi⟩
    · rintro ⟨n', hn, hi⟩
      cases j with
      | zero =>
        simp at hn
        subst hn
        have h := (portsOf_any i a n.f4 0).2 hi
        obtain ⟨p, hp⟩ := List.exists_mem_of_ne_nil _ h
        exact ⟨p, List.mem_append_left _ hp, by have := portsOf_mem _ _ _ _ _ hp; omega⟩
      | succ m =>
        obtain ⟨p, hp, h0⟩ := (ih m).2 ⟨n', by simpa using hn, hi⟩
        exact ⟨p, List.mem_append_right _ hp, by omega⟩
theorem toL_mem {G : List S39} {i : Int} {p : S69} (h : p ∈ toL G i) : 0 ≤ p.f0 ∧ p.f0 < G.length := by
  have := toFrom_mem i G 0 p h
  omega
theorem toL_has (G : List S39) (i : Int) (j : Nat) : ((toL G i).any fun p => p.f0.toNat == j) = true ↔ ∃ n, G[j]? = some n ∧ i ∈ n.f4 := by
  rw [← toFrom_has i G 0 j, List.any_eq_true]
  constructor
  · rintro ⟨p, hp, h⟩
    have h1 := toL_mem hp
    have : p.f0.toNat = j := by simpa using h
    exact ⟨p, hp, by omega⟩
  · rintro ⟨p, hp, h⟩
    exact ⟨p, hp, by simp; omega⟩
theorem toFrom_length (i : Int) : ∀ (G : List S39) (a : Int), (∀ n ∈ G, n.f4.length ≤ 64) → (toFrom i G a).length ≤ G.length * 64
  | [], _, _ => by simp [toFrom]
  | n :: ns, a, h => by
    have h1 := toFrom_length i ns (a + 1) (fun m hm => h m (List.mem_cons_of_mem _ hm))
    have h2 := portsOf_length i a n.f4 0
    have h3 := h n List.mem_cons_self
    simp only [toFrom, List.length_append, List.length_cons]
    omega
theorem wrap_small {x : Int} (h0 : -1000000 ≤ x) (h1 : x ≤ 1000000) : wrap64 x = x := by unfold wrap64; omega
theorem rd_nat (xs : List Int) (k : Nat) : rd xs (k : Int) = xs.getD k 0 := by simp [rd]
theorem to_l1 (G : List S39) (i : Int) (a : Nat) (ha : a < G.length) (hs : small G = true) : ∀ (d k q : Nat) (out : List S69), q + d = (rd_T39 G (a : Int)).f4.length → d < k → out.length + d ≤ 1000000 →
    flow_To.l1 k i out (a : Int) G (G.length : Int) (a : Int) ((rd_T39 G (a : Int)).f4) (((rd_T39 G (a : Int)).f4).length : Int) (q : Int) =
      flow_To.l0 (k - d - 1) i (out ++ portsOf i (a : Int) ((rd_T39 G (a : Int)).f4.drop q) (q : Int)) G (G.length : Int) ((a : Int) + 1)
  | 0, k, q, out, hq, hk, _ => by
    obtain ⟨k, rfl⟩ : ∃ m, k = m + 1 := ⟨k - 1, by omega⟩
    have hG : G.length ≤ 64 := by simp [small] at hs; exact hs.1
    rw [flow_To.l1, if_neg (by omega), List.drop_eq_nil_of_le (by omega), wrap_small (by omega) (by omega)]
    simp [portsOf]
  | d + 1, k, q, out, hq, hk, hout => by
    obtain ⟨k, rfl⟩ : ∃ m, k = m + 1 := ⟨k - 1, by omega⟩
    have hG : G.length ≤ 64 := by simp [small] at hs; exact hs.1
    have hl : (rd_T39 G (a : Int)).f4.length ≤ 64 := by
      simp only [small, Bool.and_eq_true, List.all_eq_true, decide_eq_true_eq] at hs
      exact hs.2 _ (by simp [rd_T39, ha])
    have hlt : q < (rd_T39 G (a : Int)).f4.length := by omega
    rw [flow_To.l1, if_pos (by omega), if_pos (by omega), if_pos (by omega), wrap_small (by omega) (by omega), rd_nat]
    have hd : (rd_T39 G (a : Int)).f4.drop q = (rd_T39 G (a : Int)).f4.getD q 0 :: (rd_T39 G (a : Int)).f4.drop (q + 1) := by
      rw [List.drop_eq_getElem_cons hlt]; simp [hlt]
    rw [hd, portsOf]
    by_cases h : (rd_T39 G (a : Int)).f4.getD q 0 = i
    · rw [if_pos h, if_pos (by omega), if_pos h]
      have := to_l1 G i a ha hs d k (q + 1) (out ++ [⟨(a : Int), (q : Int)⟩]) (by omega) (by omega) (by simp; omega)
      rw [show ((q : Int) + 1) = ((q + 1 : Nat) : Int) by omega, this, List.append_assoc]
      rw [show k - d - 1 = k + 1 - (d + 1) - 1 by omega]
      rfl
    · rw [if_neg h, if_neg h]
      have := to_l1 G i a ha hs d k (q + 1) out (by omega) (by omega) (by omega)
      rw [show ((q : Int) + 1) = ((q + 1 : Nat) : Int) by omega, this]
      rw [show k - d - 1 = k + 1 - (d + 1) - 1 by omega]
theorem to_l0 (G : List S39) (i : Int) (hs : small G = true) : ∀ (d k a : Nat) (out : List S69), a + d = G.length → d * 70 < k → out.length + d * 64 ≤ 900000 →
    flow_To.l0 k i out G (G.length : Int) (a : Int) = some (out ++ toFrom i (G.drop a) (a : Int))
  | 0, k, a, out, ha, hk, _ => by
    obtain ⟨k, rfl⟩ : ∃ m, k = m + 1 := ⟨k - 1, by omega⟩
    rw [flow_To.l0, if_neg (by omega), List.drop_eq_nil_of_le (by omega)]
    simp [toFrom]
  | d + 1, k, a, out, ha, hk, hout => by
    obtain ⟨k, rfl⟩ : ∃ m, k = m + 1 := ⟨k - 1, by omega⟩
    have hlt : a < G.length := by omega
    have hl : (rd_T39 G (a : Int)).f4.length ≤ 64 := by
      simp only [small, Bool.and_eq_true, List.all_eq_true, decide_eq_true_eq] at hs
      exact hs.2 _ (by simp [rd_T39, hlt])
    have hp := portsOf_length i (a : Int) ((rd_T39 G (a : Int)).f4) 0
    have h1 := to_l1 G i a hlt hs (rd_T39 G (a : Int)).f4.length k 0 out (by omega) (by omega) (by omega)
    have hd : G.drop a = rd_T39 G (a : Int) :: G.drop (a + 1) := by
      rw [List.drop_eq_getElem_cons hlt]; simp [rd_T39, hlt]
    rw [flow_To.l0, if_pos (by omega), if_pos (by omega), if_pos (by omega), hd, toFrom]
    rw [show ((0 : Nat) : Int) = 0 from rfl, List.drop_zero] at h1
    rw [h1, show ((a : Int) + 1) = ((a + 1 : Nat) : Int) by omega, to_l0 G i hs d _ (a + 1) _ (by omega) (by omega) (by simp; omega), List.append_assoc]
theorem to_tells (G : List S39) (i : Int) (hs : small G = true) : ∃ k, flow_To.f k G i = some (toL G i) :=
  ⟨G.length * 70 + 1, by
    have hG : G.length ≤ 64 := by simp [small] at hs; exact hs.1
    have := to_l0 G i hs G.length (G.length * 70 + 1) 0 [] (by omega) (by omega) (by simp; omega)
    unfold flow_To.f toL
    simpa using this⟩
end Go.Proofs.Ytnjlonenckifpaa.X
namespace Go.Proofs.Ytnjlonenckifpaa.X
set_option linter.unusedVariables false
set_option linter.unusedSimpArgs false
open Go.RowKit Go.Proofs.YtnjlonenckifpaaW.PrintWords Go.Proofs.YtnjlonenckifpaaW.PrintLast Go.Proofs.YtnjlonenckifpaaW.PrintMore
def staysB (kind d least : Int) : Bool := decide (least < d) || (d == least && kind != 9)
def staysAt (G : List S39) (least : Int) (i : Nat) : Bool := staysB (rd_T39 G (i : Int)).f0 (rd_T39 G (i : Int)).f3 least
def rowF (ps : List S69) (val : Nat → Bool) : Nat → Bool := fun j => (ps.any fun p => p.f0.toNat == j) && val j
def edgeM (G : List S39) (least : Int) (i : Nat) : Nat → Bool := rowF (toL G (i : Int)) fun j => staysAt G least i && staysAt G least j
def upd2 (M : Nat → Nat → Bool) (i j : Nat) (v : Bool) : Nat → Nat → Bool := fun a b => if a = i ∧ b = j then v else M a b
def stepJ (k i : Nat) (M : Nat → Nat → Bool) (j : Nat) : Nat → Nat → Bool := upd2 M i j (M i j || (M i k && M k j))
def rowW (n k : Nat) (M : Nat → Nat → Bool) (i : Nat) : Nat → Nat → Bool := (List.range n).foldl (stepJ k i) M
def colW (n : Nat) (M : Nat → Nat → Bool) (k : Nat) : Nat → Nat → Bool := (List.range n).foldl (rowW n k) M
def wsh (n : Nat) (M : Nat → Nat → Bool) : Nat → Nat → Bool := (List.range n).foldl (colW n) M
def waysM (G : List S39) (least : Int) : Nat → Nat → Bool := wsh G.length (edgeM G least)
theorem fold_range_succ {α : Type} (f : α → Nat → α) (a : α) (n : Nat) : (List.range (n + 1)).foldl f a = f ((List.range n).foldl f a) n := by
  rw [List.range_succ, List.foldl_append]; rfl
theorem rowF_succ (ps : List S69) (val : Nat → Bool) (q : Nat) (p : S69) (h : ps[q]? = some p) : rowF (ps.take (q + 1)) val = fun j => if j = p.f0.toNat then val j else rowF (ps.take q) val j := by
  funext j
  simp only [rowF]
  rw [List.take_add_one, h]
  by_cases e : j = p.f0.toNat
  · simp [e]
  · have e2 : (p.f0.toNat == j) = false := by simp; omega
    simp [e, e2]
def rowL (n : Nat) (f : Nat → Bool) : List Bool := (List.range n).map f
theorem rowL_set (n : Nat) (f : Nat → Bool) (j : Nat) (v : Bool) : (rowL n f).set j v = rowL n (fun b => if b = j then v else f b) := by
  apply List.ext_getElem?
  intro a
  simp only [rowL, List.getElem?_set, List.getElem?_map, List.length_map, List.length_range]
  by_cases e : j = a
  · subst e
    by_cases h : j < n <;> simp [h]
  · by_cases h : a < n <;> simp [e, h, Ne.symm e]
theorem rowL_length (n : Nat) (f : Nat → Bool) : (rowL n f).length = n := by simp [rowL]
theorem rowL_getD (n : Nat) (f : Nat → Bool) (j : Nat) (h : j < n) : (rowL n f).getD j false = f j := by simp [rowL, h]
theorem rowL_congr {n : Nat} {f g : Nat → Bool} (h : ∀ j, j < n → f j = g j) : rowL n f = rowL n g := by
  simp only [rowL]
  exact List.map_congr_left fun j hj => h j (List.mem_range.1 hj)
theorem rowL_false (n : Nat) : List.replicate n false = rowL n (fun _ => false) := by
  apply List.ext_getElem?
  intro a
  by_cases h : a < n <;> simp [rowL, h]
def outerA (n k : Nat) (R : Nat → Nat) : Array Value := ((List.range n).map fun i => if i < k then Value.slice (some ⟨R i, 0, none⟩) n n else .slice none 0 0).toArray
structure Mat (w : World) (base gb n k : Nat) (R : Nat → Nat) (M : Nat → Nat → Bool) : Prop where
  out : w.heap[gb]? = some (.cells (outerA n k R) 37 (0, 0))
  row : ∀ i, i < k → Row w (R i) (rowL n (M i))
  geg : base ≤ gb
  ge : ∀ i, i < k → base ≤ R i
  inj : ∀ i j, i < k → j < k → R i = R j → i = j
section
variable {w w1 : World} {base gb n k : Nat} {R : Nat → Nat} {M : Nat → Nat → Bool}
theorem Mat.lt (h : Mat w base gb n k R M) : gb < w.heap.size := (Array.getElem?_eq_some_iff.1 h.out).1
theorem Mat.below (h : Mat w base gb n k R M) (hb : Below w.heap.size w w1) : Mat w1 base gb n k R M :=
  ⟨(hb.block gb h.lt).trans h.out, fun i hi => (h.row i hi).below hb, h.geg, h.ge, h.inj⟩
theorem Mat.alloc (h : Mat w base gb n k R M) (o : Obj) : Mat (w.alloc o) base gb n k R M := h.below (below_alloc (Below.refl _ _) o)
theorem Mat.drewN (h : Mat w base gb n k R M) (m : Nat) : Mat (w.drewN m) base gb n k R M := ⟨h.out, fun i hi => (h.row i hi).drewN m, h.geg, h.ge, h.inj⟩
theorem Mat.ocell (h : Mat w base gb n k R M) (i : Nat) (hi : i < k) (hn : i < n) : w.cell? ⟨gb, i, none⟩ = some (.slice (some ⟨R i, 0, none⟩) n n) := by
  simp [World.cell?, h.out, outerA, hi, hn]
theorem Mat.onil (h : Mat w base gb n k R M) (i : Nat) (hi : k ≤ i) (hn : i < n) : w.cell? ⟨gb, i, none⟩ = some (.slice none 0 0) := by
  simp [World.cell?, h.out, outerA, hn, show ¬ i < k by omega]
theorem Mat.ofree (h : Mat w base gb n k R M) (i : Nat) : w.frozen? ⟨gb, i, none⟩ = false := by simp [World.frozen?, h.out]
theorem Mat.cell (h : Mat w base gb n k R M) (i j : Nat) (hi : i < k) (hj : j < n) : w.cell? ⟨R i, j, none⟩ = some (.bool (M i j)) := by
  rw [(h.row i hi).cell j (by rw [rowL_length]; exact hj), rowL_getD _ _ _ hj]
theorem Mat.free (h : Mat w base gb n k R M) (i j : Nat) (hi : i < k) : w.frozen? ⟨R i, j, none⟩ = false := (h.row i hi).free j
theorem Mat.ne (h : Mat w base gb n k R M) (i : Nat) (hi : i < k) : gb ≠ R i := by
  intro e
  have h1 := h.out
  rw [e, (h.row i hi).blk] at h1
  injection h1 with h1
  injection h1 with _ h1
  exact absurd h1 (by decide)
theorem Mat.set (h : Mat w base gb n k R M) (i j : Nat) (hi : i < k) (v : Bool) : Mat (w.setCell ⟨R i, j, none⟩ (.bool v)) base gb n k R (upd2 M i j v) := by
  refine ⟨(Below.heap_setCell w _ _ gb (h.ne i hi)).trans h.out, fun a ha => ?_, h.geg, h.ge, h.inj⟩
  by_cases e : a = i
  · subst e
    have := (h.row a hi).set j v
    rw [rowL_set] at this
    rw [rowL_congr (g := fun b => if b = j then v else M a b) fun b _ => by simp [upd2]]
    exact this
  · rw [rowL_congr (g := M a) fun b _ => by simp [upd2, e]]
    exact (h.row a ha).far (fun e2 => e (h.inj a i ha hi e2)) _
theorem Mat.push (h : Mat w base gb n k R M) (nb : Nat) (hk : k < n) (hr : Row w nb (rowL n fun _ => false)) (hge : base ≤ nb) (hne : ∀ i, i < k → R i ≠ nb) :
    Mat (w.setCell ⟨gb, k, none⟩ (.slice (some ⟨nb, 0, none⟩) n n)) base gb n (k + 1) (fun i => if i = k then nb else R i) (fun i => if i = k then fun _ => false else M i) := by
  have hgn : gb ≠ nb := by
    intro e
    have h1 := h.out
    rw [e, hr.blk] at h1
    injection h1 with h1
    injection h1 with _ h1
    exact absurd h1 (by decide)
  refine ⟨?_, fun a ha => ?_, h.geg, fun a ha => ?_, fun a b ha hb e => ?_⟩
  · rw [heap_setCell_same w gb k _ 37 _ h.out]
    congr 2
    apply Array.ext_getElem?
    intro a
    simp only [outerA, Array.getElem?_setIfInBounds, List.getElem?_toArray, List.getElem?_map, List.size_toArray, List.length_map, List.length_range]
    by_cases e : k = a
    · subst e; simp [hk]
    · by_cases h2 : a < n
      · simp only [e, if_false, List.getElem?_range h2, Option.map_some, Ne.symm e]
        by_cases h3 : a < k
        · simp [h3, show a < k + 1 by omega]
        · simp [h3, show ¬ a < k + 1 by omega]
      · simp [e, h2]
  · by_cases e : a = k
    · subst e
      simp only [if_true]
      exact hr.far (Ne.symm hgn) _
    · simp only [e, if_false]
      exact (h.row a (by omega)).far (Ne.symm (h.ne a (by omega))) _
  · by_cases e : a = k
    · simp [e, hge]
    · simp only [e, if_false]
      exact h.ge a (by omega)
  · by_cases e1 : a = k <;> by_cases e2 : b = k
    · omega
    · simp only [e1, e2, if_true, if_false] at e
      exact absurd e.symm (hne b (by omega))
    · simp only [e1, e2, if_true, if_false] at e
      exact absurd e (hne a (by omega))
    · simp only [e1, e2, if_false] at e
      exact h.inj a b (by omega) (by omega) e
theorem Mat.congr {M' : Nat → Nat → Bool} (h : Mat w base gb n k R M) (e : ∀ i j, i < k → j < n → M i j = M' i j) : Mat w base gb n k R M' :=
  ⟨h.out, fun i hi => by rw [← rowL_congr (f := M i) fun j hj => e i j hi hj]; exact h.row i hi, h.geg, h.ge, h.inj⟩
end
set_option maxHeartbeats 4000000 in
theorem stays_calls (nd : S39) (A4 : Option Addr) (c4 : Nat) (least : Int) (bl : Nat) (w : World) (hv : Var w bl (.int .i64 least) 3) :
    Calls Try.prog 54 #[.agg #[.int .u8 nd.f0, .int .u8 nd.f1, .int .i64 nd.f2, .int .i64 nd.f3, .slice A4 nd.f4.length c4], .pointer (some ⟨bl, 0, none⟩)] w fun e w' => e = .returned (.bool (staysB nd.f0 nd.f3 least)) ∧ Below w.heap.size w w' := by
  have hc := hv.cell
  have hl := hv.lt
  have HB := Aside0.mk (Below.refl w.heap.size w)
  clear hv
  generalize nd.f4.length = ln
  generalize nd.f0 = kd
  generalize nd.f1 = kb
  generalize nd.f2 = kc
  generalize nd.f3 = d
  by_cases h1 : least < d
  · have HP := Aside0.mk (show staysB kd d least = true by simp [staysB, h1])
    go_enter Try.func54, Try.ntmps54
    go_wp2
    go_ret
    exact ⟨by rw [HP.out]; rfl, below_alloc HB.out _⟩
  · by_cases h2 : d = least
    · subst h2
      have hb : (d == d) = true := by simp
      have HP := Aside0.mk (show staysB kd d d = (kd != 9) by simp [staysB])
      clear h1
      by_cases h3 : kd = 9
      · have h3b : (kd != 9) = false := by simp [h3]
        rw [h3b] at HP
        clear h3
        go_enter Try.func54, Try.ntmps54
        go_wp2
        go_ret
        exact ⟨by rw [HP.out]; rfl, below_alloc HB.out _⟩
      · have h3b : (kd != 9) = true := by simp [h3]
        rw [h3b] at HP
        clear h3
        go_enter Try.func54, Try.ntmps54
        go_wp2
        go_ret
        exact ⟨by rw [HP.out]; rfl, below_alloc HB.out _⟩
    · have hb : (d == least) = false := beq_eq_false_iff_ne.2 h2
      have h1' : d ≤ least := by omega
      have HP := Aside0.mk (show staysB kd d least = decide (least < d) by simp [staysB, hb])
      clear h1 h2
      go_enter Try.func54, Try.ntmps54
      go_wp2
      go_ret
      exact ⟨by rw [HP.out]; rfl, below_alloc HB.out _⟩
end Go.Proofs.Ytnjlonenckifpaa.X
