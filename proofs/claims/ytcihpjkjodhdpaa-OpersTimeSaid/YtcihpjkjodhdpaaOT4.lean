/- A part of the proof. -/
import Derived.Test.YtcihpjkjodhdpaaOT3
import Derived.Deep.Slices
import Derived.ChangeSlices
import Derived.WideShapes
import Derived.ChangeKeysEq
import Derived.OpenShut
namespace Go.Proofs.Ytcihpjkjodhdpaa.X
open Go.RowKit Go.Proofs.YtcihpjkjodhdpaaW.PrintWords Go.Proofs.YtcihpjkjodhdpaaW.PrintLast Go.Proofs.YtcihpjkjodhdpaaW.PrintMore
attribute [local go_sem] max2_int min2_int max_two min_two
set_option linter.unusedVariables false
set_option linter.unusedSimpArgs false
def check_Node.j0 : Nat → List (S24) → Int → Bool → Option (Int)
  | 0, _, _, _ => none
  | k + 1, x0, x1, x5 => if x5 = true then (some 2) else (if 0 ≤ x1 then (if x1 < (x0.length : Int) then ((check_numbers.f ((rd_T24 x0 x1).f0) ((rd_T24 x0 x1).f1) ((rd_T24 x0 x1).f2) ((rd_T24 x0 x1).f3) ((rd_T24 x0 x1).f4)).bind fun t103 => (if t103 = true then ((check_ports.f x0 ((rd_T24 x0 x1).f0) ((rd_T24 x0 x1).f1) ((rd_T24 x0 x1).f2) ((rd_T24 x0 x1).f3) ((rd_T24 x0 x1).f4)).bind fun t105 => (if t105 = true then ((check_depth.f x0 ((rd_T24 x0 x1).f0) ((rd_T24 x0 x1).f1) ((rd_T24 x0 x1).f2) ((rd_T24 x0 x1).f3) ((rd_T24 x0 x1).f4)).bind fun t107 => (if t107 = true then (some 0) else (some 101))) else (some 100))) else (some 130))) else (none)) else (none))
def check_Node.f (k : Nat) (l0 : List (S24)) (a1 : Int) : Option (Int) := if a1 < 0 then (check_Node.j0 k l0 a1 true) else (check_Node.j0 k l0 a1 (decide (a1 ≥ (l0.length : Int))))
set_option maxHeartbeats 8000000 in
set_option maxRecDepth 100000 in
theorem check_Node.calls (k : Nat) (A0 : Option Addr) (c0 : Nat) (l0 : List (S24)) (a1 : Int) (r : Int) (w : World) (hr0 : Kd.C k24 w A0 l0.length l0) (hc0 : l0.length ≤ c0) (h : check_Node.f k l0 a1 = some r) :
    Calls Try.prog 25 #[.slice A0 l0.length c0, .int .i64 a1] w fun e w' => e = .returned (.int .i64 r) ∧ Below w.heap.size w w' := by
  have hu24 := Try.underlying24
  have HR0 := Aside0.mk hr0
  have HC0 := Aside0.mk hc0
  clear hr0 hc0
  have HB := Aside0.mk (Below.refl w.heap.size w)
  have H : (if a1 < 0 then (check_Node.j0 k l0 a1 true) else (check_Node.j0 k l0 a1 (decide (a1 ≥ (l0.length : Int))))) = some r := h
  clear h
  have HC3 := Aside0.mk H
  clear H
  go_enter Try.func25, Try.ntmps25
  go_upto_region 1 with (fail)
  go_cut [5] (fun v5 wc => ∃ (kq : Nat) (x5_2 : Bool), v5 = .bool x5_2 ∧ Aside0 (check_Node.j0 kq l0 a1 x5_2 = some r) ∧ Aside0 (kq ≤ k) ∧ Aside0 (Below w.heap.size w wc))
  case first =>
    have H := HC3.out
    clear HC3
    by_cases c4 : a1 < 0
    · rw [if_pos c4] at H
      have c4b0 : decide (a1 < 0) = true := decide_eq_true c4
      clear c4
      (first | rw [c4b0] | (simp only [i64_w, i32_w]; rw [c4b0]) | skip)
      have H' := Aside0.mk H
      clear H
      go_wp2
      go_meet
      case rel => exact ⟨_, (true), (by first | rfl | (simp; done) | (simp [*]; done)), H', ⟨by first | omega | exact Nat.le_refl _⟩, ⟨by repeat (first | (with_reducible first | exact HB.out | apply below_alloc | apply pw_below_drewN | apply below_drew1) | exact HB.out)⟩⟩
    · rw [if_neg c4] at H
      have c4b0 : decide (a1 < 0) = false := decide_eq_false c4
      clear c4
      (first | rw [c4b0] | (simp only [i64_w, i32_w]; rw [c4b0]) | skip)
      have H' := Aside0.mk H
      clear H
      go_wp2
      go_meet
      case rel => exact ⟨_, (decide (a1 ≥ (l0.length : Int))), (by first | rfl | (simp; done) | (simp [*]; done)), H', ⟨by first | omega | exact Nat.le_refl _⟩, ⟨by repeat (first | (with_reducible first | exact HB.out | apply below_alloc | apply pw_below_drewN | apply below_drew1) | exact HB.out)⟩⟩
  case rest =>
    clear HC3
    try clear c2
    try clear p2
    try clear c4
    try clear c4b0
    obtain ⟨kq, x5_2, rfl, HA, HJ2, HB⟩ := hcut
    cases kq with
    | zero => exact absurd HA.out (by simp [check_Node.j0])
    | succ kj2 =>
      have H := HA.out
      clear HA
      simp only [check_Node.j0] at H
      by_cases c5 : x5_2 = true
      · subst c5
        have H1 : (some 2) = some r := by rw [if_pos rfl] at H; exact H
        clear H
        have H := H1
        clear H1
        obtain rfl := Option.some.inj H
        go_wp2
        go_ret
        exact ⟨by first | rfl | (simp [errW_none, errW_some] <;> rfl) | (simp [*, errW_none, errW_some] <;> rfl), by repeat (first | (with_reducible first | exact HB.out | apply below_alloc | apply pw_below_drewN | apply below_drew1) | exact HB.out)⟩
      · replace c5 := Bool.eq_false_iff.mpr c5
        subst c5
        have H1 : (if 0 ≤ a1 then (if a1 < (l0.length : Int) then ((check_numbers.f ((rd_T24 l0 a1).f0) ((rd_T24 l0 a1).f1) ((rd_T24 l0 a1).f2) ((rd_T24 l0 a1).f3) ((rd_T24 l0 a1).f4)).bind fun t103 => (if t103 = true then ((check_ports.f l0 ((rd_T24 l0 a1).f0) ((rd_T24 l0 a1).f1) ((rd_T24 l0 a1).f2) ((rd_T24 l0 a1).f3) ((rd_T24 l0 a1).f4)).bind fun t105 => (if t105 = true then ((check_depth.f l0 ((rd_T24 l0 a1).f0) ((rd_T24 l0 a1).f1) ((rd_T24 l0 a1).f2) ((rd_T24 l0 a1).f3) ((rd_T24 l0 a1).f4)).bind fun t107 => (if t107 = true then (some 0) else (some 101))) else (some 100))) else (some 130))) else (none)) else (none)) = some r := by rw [if_neg (show ¬ (false = true) by decide)] at H; exact H
        clear H
        have H := H1
        clear H1
        by_cases c6 : 0 ≤ a1
        · rw [if_pos c6] at H
          have c6b0 : decide (0 ≤ a1) = true := decide_eq_true c6
          clear c6
          by_cases c7 : a1 < (l0.length : Int)
          · rw [if_pos c7] at H
            have c7b0 : decide (a1 < (l0.length : Int)) = true := decide_eq_true c7
            clear c7
            replace H := Option.bind_eq_some_iff.mp H
            obtain ⟨t103, A80, H⟩ := H
            replace H : (if t103 = true then ((check_ports.f l0 ((rd_T24 l0 a1).f0) ((rd_T24 l0 a1).f1) ((rd_T24 l0 a1).f2) ((rd_T24 l0 a1).f3) ((rd_T24 l0 a1).f4)).bind fun t105 => (if t105 = true then ((check_depth.f l0 ((rd_T24 l0 a1).f0) ((rd_T24 l0 a1).f1) ((rd_T24 l0 a1).f2) ((rd_T24 l0 a1).f3) ((rd_T24 l0 a1).f4)).bind fun t107 => (if t107 = true then (some 0) else (some 101))) else (some 100))) else (some 130)) = some r := H
            have A8 := Aside0.mk A80
            clear A80
            by_cases c9 : t103 = true
            · subst c9
              have H1 : ((check_ports.f l0 ((rd_T24 l0 a1).f0) ((rd_T24 l0 a1).f1) ((rd_T24 l0 a1).f2) ((rd_T24 l0 a1).f3) ((rd_T24 l0 a1).f4)).bind fun t105 => (if t105 = true then ((check_depth.f l0 ((rd_T24 l0 a1).f0) ((rd_T24 l0 a1).f1) ((rd_T24 l0 a1).f2) ((rd_T24 l0 a1).f3) ((rd_T24 l0 a1).f4)).bind fun t107 => (if t107 = true then (some 0) else (some 101))) else (some 100))) = some r := by rw [if_pos rfl] at H; exact H
              clear H
              have H := H1
              clear H1
              replace H := Option.bind_eq_some_iff.mp H
              obtain ⟨t105, A100, H⟩ := H
              replace H : (if t105 = true then ((check_depth.f l0 ((rd_T24 l0 a1).f0) ((rd_T24 l0 a1).f1) ((rd_T24 l0 a1).f2) ((rd_T24 l0 a1).f3) ((rd_T24 l0 a1).f4)).bind fun t107 => (if t107 = true then (some 0) else (some 101))) else (some 100)) = some r := H
              have A10 := Aside0.mk A100
              clear A100
              by_cases c11 : t105 = true
              · subst c11
                have H1 : ((check_depth.f l0 ((rd_T24 l0 a1).f0) ((rd_T24 l0 a1).f1) ((rd_T24 l0 a1).f2) ((rd_T24 l0 a1).f3) ((rd_T24 l0 a1).f4)).bind fun t107 => (if t107 = true then (some 0) else (some 101))) = some r := by rw [if_pos rfl] at H; exact H
                clear H
                have H := H1
                clear H1
                replace H := Option.bind_eq_some_iff.mp H
                obtain ⟨t107, A120, H⟩ := H
                replace H : (if t107 = true then (some 0) else (some 101)) = some r := H
                have A12 := Aside0.mk A120
                clear A120
                by_cases c13 : t107 = true
                · subst c13
                  have H1 : (some 0) = some r := by rw [if_pos rfl] at H; exact H
                  clear H
                  have H := H1
                  clear H1
                  obtain rfl := Option.some.inj H
                  have p102 : 0 ≤ (a1 : Int) := of_decide_eq_true (by first | (with_reducible assumption) | assumption)
                  have q102 : a1 < (l0.length : Int) := of_decide_eq_true (by first | (with_reducible assumption) | assumption)
                  obtain ⟨ad102, A102_4, c102_4, e102, hx102_0, hx102_1, hx102_2, hx102_3, hx102_4, hl102_4, hi102_4⟩ := at_T24 HR0.out a1 p102 q102
                  cases e102
                  replace hx102_0 := (HB.out.cell (World.block_lt_of_cell? w _ hx102_0)).trans hx102_0
                  replace hx102_1 := (HB.out.cell (World.block_lt_of_cell? w _ hx102_1)).trans hx102_1
                  replace hx102_2 := (HB.out.cell (World.block_lt_of_cell? w _ hx102_2)).trans hx102_2
                  replace hx102_3 := (HB.out.cell (World.block_lt_of_cell? w _ hx102_3)).trans hx102_3
                  replace hx102_4 := (HB.out.cell (World.block_lt_of_cell? w _ hx102_4)).trans hx102_4
                  have HR102_4 := Aside0.mk hi102_4
                  have HC102_4 := Aside0.mk hl102_4
                  clear hi102_4 hl102_4
                  replace p102 := eq_true p102
                  replace q102 := eq_true q102
                  go_wp2_with (first | ((with_reducible refine gate_callee (f := 49) rfl ?_); refine goesL_ (some 19) rfl rfl Try.func49 (by kernel_rfl) rfl #[.agg #[.int .u8 ((rd_T24 l0 a1).f0), .int .u8 ((rd_T24 l0 a1).f1), .int .i64 ((rd_T24 l0 a1).f2), .int .i64 ((rd_T24 l0 a1).f3), .slice A102_4 ((rd_T24 l0 a1).f4).length c102_4]] rfl (by (try simp only [List.map_toArray, List.map_cons, List.map_nil]); first | done | rfl | (simp only [List.length_drop, List.length_take]; rfl)) ?_; (with_reducible refine (check_numbers.calls ((rd_T24 l0 a1).f0) ((rd_T24 l0 a1).f1) ((rd_T24 l0 a1).f2) ((rd_T24 l0 a1).f3) _ _ ((rd_T24 l0 a1).f4) true _ ?side1 ?side2 A8.out).mono ?_); (case side1 => repeat (first | exact (Kd.C_below HR102_4.out HB.out) | (with_reducible refine Kd.C_alloc ?_ _) | (with_reducible refine Kd.C_drewN ?_ _) | (with_reducible refine Kd.C_drew ?_))); (case side2 => exact HC102_4.out); rintro e w14 ⟨rfl, hb⟩; refine ⟨_, rfl, ?_⟩; have n0_ := Aside0.mk (below_step (by repeat (first | (with_reducible first | exact HB.out | apply below_alloc | apply pw_below_drewN | apply below_drew1) | exact HB.out)) hb); clear HB; have HB := n0_; clear n0_; (try clear hb); (try clear hb2); (try clear hk); (try clear hi); have p104 : 0 ≤ (a1 : Int) := of_decide_eq_true (by first | (with_reducible assumption) | assumption); have q104 : a1 < (l0.length : Int) := of_decide_eq_true (by first | (with_reducible assumption) | assumption); obtain ⟨ad104, A104_4, c104_4, e104, hx104_0, hx104_1, hx104_2, hx104_3, hx104_4, hl104_4, hi104_4⟩ := at_T24 HR0.out a1 p104 q104; obtain rfl : ad102 = ad104 := (by injection e104); replace hx104_0 := (HB.out.cell (World.block_lt_of_cell? w _ hx104_0)).trans hx104_0; replace hx104_1 := (HB.out.cell (World.block_lt_of_cell? w _ hx104_1)).trans hx104_1; replace hx104_2 := (HB.out.cell (World.block_lt_of_cell? w _ hx104_2)).trans hx104_2; replace hx104_3 := (HB.out.cell (World.block_lt_of_cell? w _ hx104_3)).trans hx104_3; replace hx104_4 := (HB.out.cell (World.block_lt_of_cell? w _ hx104_4)).trans hx104_4; have HR104_4 := Aside0.mk hi104_4; have HC104_4 := Aside0.mk hl104_4; clear hi104_4 hl104_4; replace p104 := eq_true p104; replace q104 := eq_true q104) | ((with_reducible refine gate_callee (f := 50) rfl ?_); refine goesL_ (some 27) rfl rfl Try.func50 (by kernel_rfl) rfl #[.slice (some ad102) l0.length c0, .agg #[.int .u8 ((rd_T24 l0 a1).f0), .int .u8 ((rd_T24 l0 a1).f1), .int .i64 ((rd_T24 l0 a1).f2), .int .i64 ((rd_T24 l0 a1).f3), .slice A104_4 ((rd_T24 l0 a1).f4).length c104_4]] rfl (by (try simp only [List.map_toArray, List.map_cons, List.map_nil]); first | done | rfl | (simp only [List.length_drop, List.length_take]; rfl)) ?_; (with_reducible refine (check_ports.calls _ _ l0 ((rd_T24 l0 a1).f0) ((rd_T24 l0 a1).f1) ((rd_T24 l0 a1).f2) ((rd_T24 l0 a1).f3) _ _ ((rd_T24 l0 a1).f4) true _ ?side1 ?side2 ?side3 ?side4 A10.out).mono ?_); (case side1 => repeat (first | exact (Kd.C_below HR0.out HB.out) | (with_reducible refine Kd.C_alloc ?_ _) | (with_reducible refine Kd.C_drewN ?_ _) | (with_reducible refine Kd.C_drew ?_))); (case side2 => exact HC0.out); (case side3 => repeat (first | exact (Kd.C_below HR104_4.out HB.out) | (with_reducible refine Kd.C_alloc ?_ _) | (with_reducible refine Kd.C_drewN ?_ _) | (with_reducible refine Kd.C_drew ?_))); (case side4 => exact HC104_4.out); rintro e w15 ⟨rfl, hb⟩; refine ⟨_, rfl, ?_⟩; have n0_ := Aside0.mk (below_step (by repeat (first | (with_reducible first | exact HB.out | apply below_alloc | apply pw_below_drewN | apply below_drew1) | exact HB.out)) hb); clear HB; have HB := n0_; clear n0_; (try clear hb); (try clear hb2); (try clear hk); (try clear hi); have p106 : 0 ≤ (a1 : Int) := of_decide_eq_true (by first | (with_reducible assumption) | assumption); have q106 : a1 < (l0.length : Int) := of_decide_eq_true (by first | (with_reducible assumption) | assumption); obtain ⟨ad106, A106_4, c106_4, e106, hx106_0, hx106_1, hx106_2, hx106_3, hx106_4, hl106_4, hi106_4⟩ := at_T24 HR0.out a1 p106 q106; obtain rfl : ad102 = ad106 := (by injection e106); replace hx106_0 := (HB.out.cell (World.block_lt_of_cell? w _ hx106_0)).trans hx106_0; replace hx106_1 := (HB.out.cell (World.block_lt_of_cell? w _ hx106_1)).trans hx106_1; replace hx106_2 := (HB.out.cell (World.block_lt_of_cell? w _ hx106_2)).trans hx106_2; replace hx106_3 := (HB.out.cell (World.block_lt_of_cell? w _ hx106_3)).trans hx106_3; replace hx106_4 := (HB.out.cell (World.block_lt_of_cell? w _ hx106_4)).trans hx106_4; have HR106_4 := Aside0.mk hi106_4; have HC106_4 := Aside0.mk hl106_4; clear hi106_4 hl106_4; replace p106 := eq_true p106; replace q106 := eq_true q106) | ((with_reducible refine gate_callee (f := 51) rfl ?_); refine goesL_ (some 35) rfl rfl Try.func51 (by kernel_rfl) rfl #[.slice (some ad102) l0.length c0, .agg #[.int .u8 ((rd_T24 l0 a1).f0), .int .u8 ((rd_T24 l0 a1).f1), .int .i64 ((rd_T24 l0 a1).f2), .int .i64 ((rd_T24 l0 a1).f3), .slice A106_4 ((rd_T24 l0 a1).f4).length c106_4]] rfl (by (try simp only [List.map_toArray, List.map_cons, List.map_nil]); first | done | rfl | (simp only [List.length_drop, List.length_take]; rfl)) ?_; (with_reducible refine (check_depth.calls _ _ l0 ((rd_T24 l0 a1).f0) ((rd_T24 l0 a1).f1) ((rd_T24 l0 a1).f2) ((rd_T24 l0 a1).f3) _ _ ((rd_T24 l0 a1).f4) true _ ?side1 ?side2 ?side3 ?side4 A12.out).mono ?_); (case side1 => repeat (first | exact (Kd.C_below HR0.out HB.out) | (with_reducible refine Kd.C_alloc ?_ _) | (with_reducible refine Kd.C_drewN ?_ _) | (with_reducible refine Kd.C_drew ?_))); (case side2 => exact HC0.out); (case side3 => repeat (first | exact (Kd.C_below HR106_4.out HB.out) | (with_reducible refine Kd.C_alloc ?_ _) | (with_reducible refine Kd.C_drewN ?_ _) | (with_reducible refine Kd.C_drew ?_))); (case side4 => exact HC106_4.out); rintro e w16 ⟨rfl, hb⟩; refine ⟨_, rfl, ?_⟩; have n0_ := Aside0.mk (below_step (by repeat (first | (with_reducible first | exact HB.out | apply below_alloc | apply pw_below_drewN | apply below_drew1) | exact HB.out)) hb); clear HB; have HB := n0_; clear n0_; (try clear hb); (try clear hb2); (try clear hk); (try clear hi)))
                  go_ret
                  exact ⟨by first | rfl | (simp [errW_none, errW_some] <;> rfl) | (simp [*, errW_none, errW_some] <;> rfl), by repeat (first | (with_reducible first | exact HB.out | apply below_alloc | apply pw_below_drewN | apply below_drew1) | exact HB.out)⟩
                · replace c13 := Bool.eq_false_iff.mpr c13
                  subst c13
                  have H1 : (some 101) = some r := by rw [if_neg (show ¬ (false = true) by decide)] at H; exact H
                  clear H
                  have H := H1
                  clear H1
                  obtain rfl := Option.some.inj H
                  have p102 : 0 ≤ (a1 : Int) := of_decide_eq_true (by first | (with_reducible assumption) | assumption)
                  have q102 : a1 < (l0.length : Int) := of_decide_eq_true (by first | (with_reducible assumption) | assumption)
                  obtain ⟨ad102, A102_4, c102_4, e102, hx102_0, hx102_1, hx102_2, hx102_3, hx102_4, hl102_4, hi102_4⟩ := at_T24 HR0.out a1 p102 q102
                  cases e102
                  replace hx102_0 := (HB.out.cell (World.block_lt_of_cell? w _ hx102_0)).trans hx102_0
                  replace hx102_1 := (HB.out.cell (World.block_lt_of_cell? w _ hx102_1)).trans hx102_1
                  replace hx102_2 := (HB.out.cell (World.block_lt_of_cell? w _ hx102_2)).trans hx102_2
                  replace hx102_3 := (HB.out.cell (World.block_lt_of_cell? w _ hx102_3)).trans hx102_3
                  replace hx102_4 := (HB.out.cell (World.block_lt_of_cell? w _ hx102_4)).trans hx102_4
                  have HR102_4 := Aside0.mk hi102_4
                  have HC102_4 := Aside0.mk hl102_4
                  clear hi102_4 hl102_4
                  replace p102 := eq_true p102
                  replace q102 := eq_true q102
                  go_wp2_with (first | ((with_reducible refine gate_callee (f := 49) rfl ?_); refine goesL_ (some 19) rfl rfl Try.func49 (by kernel_rfl) rfl #[.agg #[.int .u8 ((rd_T24 l0 a1).f0), .int .u8 ((rd_T24 l0 a1).f1), .int .i64 ((rd_T24 l0 a1).f2), .int .i64 ((rd_T24 l0 a1).f3), .slice A102_4 ((rd_T24 l0 a1).f4).length c102_4]] rfl (by (try simp only [List.map_toArray, List.map_cons, List.map_nil]); first | done | rfl | (simp only [List.length_drop, List.length_take]; rfl)) ?_; (with_reducible refine (check_numbers.calls ((rd_T24 l0 a1).f0) ((rd_T24 l0 a1).f1) ((rd_T24 l0 a1).f2) ((rd_T24 l0 a1).f3) _ _ ((rd_T24 l0 a1).f4) true _ ?side1 ?side2 A8.out).mono ?_); (case side1 => repeat (first | exact (Kd.C_below HR102_4.out HB.out) | (with_reducible refine Kd.C_alloc ?_ _) | (with_reducible refine Kd.C_drewN ?_ _) | (with_reducible refine Kd.C_drew ?_))); (case side2 => exact HC102_4.out); rintro e w17 ⟨rfl, hb⟩; refine ⟨_, rfl, ?_⟩; have n0_ := Aside0.mk (below_step (by repeat (first | (with_reducible first | exact HB.out | apply below_alloc | apply pw_below_drewN | apply below_drew1) | exact HB.out)) hb); clear HB; have HB := n0_; clear n0_; (try clear hb); (try clear hb2); (try clear hk); (try clear hi); have p104 : 0 ≤ (a1 : Int) := of_decide_eq_true (by first | (with_reducible assumption) | assumption); have q104 : a1 < (l0.length : Int) := of_decide_eq_true (by first | (with_reducible assumption) | assumption); obtain ⟨ad104, A104_4, c104_4, e104, hx104_0, hx104_1, hx104_2, hx104_3, hx104_4, hl104_4, hi104_4⟩ := at_T24 HR0.out a1 p104 q104; obtain rfl : ad102 = ad104 := (by injection e104); replace hx104_0 := (HB.out.cell (World.block_lt_of_cell? w _ hx104_0)).trans hx104_0; replace hx104_1 := (HB.out.cell (World.block_lt_of_cell? w _ hx104_1)).trans hx104_1; replace hx104_2 := (HB.out.cell (World.block_lt_of_cell? w _ hx104_2)).trans hx104_2; replace hx104_3 := (HB.out.cell (World.block_lt_of_cell? w _ hx104_3)).trans hx104_3; replace hx104_4 := (HB.out.cell (World.block_lt_of_cell? w _ hx104_4)).trans hx104_4; have HR104_4 := Aside0.mk hi104_4; have HC104_4 := Aside0.mk hl104_4; clear hi104_4 hl104_4; replace p104 := eq_true p104; replace q104 := eq_true q104) | ((with_reducible refine gate_callee (f := 50) rfl ?_); refine goesL_ (some 27) rfl rfl Try.func50 (by kernel_rfl) rfl #[.slice (some ad102) l0.length c0, .agg #[.int .u8 ((rd_T24 l0 a1).f0), .int .u8 ((rd_T24 l0 a1).f1), .int .i64 ((rd_T24 l0 a1).f2), .int .i64 ((rd_T24 l0 a1).f3), .slice A104_4 ((rd_T24 l0 a1).f4).length c104_4]] rfl (by (try simp only [List.map_toArray, List.map_cons, List.map_nil]); first | done | rfl | (simp only [List.length_drop, List.length_take]; rfl)) ?_; (with_reducible refine (check_ports.calls _ _ l0 ((rd_T24 l0 a1).f0) ((rd_T24 l0 a1).f1) ((rd_T24 l0 a1).f2) ((rd_T24 l0 a1).f3) _ _ ((rd_T24 l0 a1).f4) true _ ?side1 ?side2 ?side3 ?side4 A10.out).mono ?_); (case side1 => repeat (first | exact (Kd.C_below HR0.out HB.out) | (with_reducible refine Kd.C_alloc ?_ _) | (with_reducible refine Kd.C_drewN ?_ _) | (with_reducible refine Kd.C_drew ?_))); (case side2 => exact HC0.out); (case side3 => repeat (first | exact (Kd.C_below HR104_4.out HB.out) | (with_reducible refine Kd.C_alloc ?_ _) | (with_reducible refine Kd.C_drewN ?_ _) | (with_reducible refine Kd.C_drew ?_))); (case side4 => exact HC104_4.out); rintro e w18 ⟨rfl, hb⟩; refine ⟨_, rfl, ?_⟩; have n0_ := Aside0.mk (below_step (by repeat (first | (with_reducible first | exact HB.out | apply below_alloc | apply pw_below_drewN | apply below_drew1) | exact HB.out)) hb); clear HB; have HB := n0_; clear n0_; (try clear hb); (try clear hb2); (try clear hk); (try clear hi); have p106 : 0 ≤ (a1 : Int) := of_decide_eq_true (by first | (with_reducible assumption) | assumption); have q106 : a1 < (l0.length : Int) := of_decide_eq_true (by first | (with_reducible assumption) | assumption); obtain ⟨ad106, A106_4, c106_4, e106, hx106_0, hx106_1, hx106_2, hx106_3, hx106_4, hl106_4, hi106_4⟩ := at_T24 HR0.out a1 p106 q106; obtain rfl : ad102 = ad106 := (by injection e106); replace hx106_0 := (HB.out.cell (World.block_lt_of_cell? w _ hx106_0)).trans hx106_0; replace hx106_1 := (HB.out.cell (World.block_lt_of_cell? w _ hx106_1)).trans hx106_1; replace hx106_2 := (HB.out.cell (World.block_lt_of_cell? w _ hx106_2)).trans hx106_2; replace hx106_3 := (HB.out.cell (World.block_lt_of_cell? w _ hx106_3)).trans hx106_3; replace hx106_4 := (HB.out.cell (World.block_lt_of_cell? w _ hx106_4)).trans hx106_4; have HR106_4 := Aside0.mk hi106_4; have HC106_4 := Aside0.mk hl106_4; clear hi106_4 hl106_4; replace p106 := eq_true p106; replace q106 := eq_true q106) | ((with_reducible refine gate_callee (f := 51) rfl ?_); refine goesL_ (some 35) rfl rfl Try.func51 (by kernel_rfl) rfl #[.slice (some ad102) l0.length c0, .agg #[.int .u8 ((rd_T24 l0 a1).f0), .int .u8 ((rd_T24 l0 a1).f1), .int .i64 ((rd_T24 l0 a1).f2), .int .i64 ((rd_T24 l0 a1).f3), .slice A106_4 ((rd_T24 l0 a1).f4).length c106_4]] rfl (by (try simp only [List.map_toArray, List.map_cons, List.map_nil]); first | done | rfl | (simp only [List.length_drop, List.length_take]; rfl)) ?_; (with_reducible refine (check_depth.calls _ _ l0 ((rd_T24 l0 a1).f0) ((rd_T24 l0 a1).f1) ((rd_T24 l0 a1).f2) ((rd_T24 l0 a1).f3) _ _ ((rd_T24 l0 a1).f4) false _ ?side1 ?side2 ?side3 ?side4 A12.out).mono ?_); (case side1 => repeat (first | exact (Kd.C_below HR0.out HB.out) | (with_reducible refine Kd.C_alloc ?_ _) | (with_reducible refine Kd.C_drewN ?_ _) | (with_reducible refine Kd.C_drew ?_))); (case side2 => exact HC0.out); (case side3 => repeat (first | exact (Kd.C_below HR106_4.out HB.out) | (with_reducible refine Kd.C_alloc ?_ _) | (with_reducible refine Kd.C_drewN ?_ _) | (with_reducible refine Kd.C_drew ?_))); (case side4 => exact HC106_4.out); rintro e w19 ⟨rfl, hb⟩; refine ⟨_, rfl, ?_⟩; have n0_ := Aside0.mk (below_step (by repeat (first | (with_reducible first | exact HB.out | apply below_alloc | apply pw_below_drewN | apply below_drew1) | exact HB.out)) hb); clear HB; have HB := n0_; clear n0_; (try clear hb); (try clear hb2); (try clear hk); (try clear hi)))
                  go_ret
                  exact ⟨by first | rfl | (simp [errW_none, errW_some] <;> rfl) | (simp [*, errW_none, errW_some] <;> rfl), by repeat (first | (with_reducible first | exact HB.out | apply below_alloc | apply pw_below_drewN | apply below_drew1) | exact HB.out)⟩
              · replace c11 := Bool.eq_false_iff.mpr c11
                subst c11
                have H1 : (some 100) = some r := by rw [if_neg (show ¬ (false = true) by decide)] at H; exact H
                clear H
                have H := H1
                clear H1
                obtain rfl := Option.some.inj H
                have p102 : 0 ≤ (a1 : Int) := of_decide_eq_true (by first | (with_reducible assumption) | assumption)
                have q102 : a1 < (l0.length : Int) := of_decide_eq_true (by first | (with_reducible assumption) | assumption)
                obtain ⟨ad102, A102_4, c102_4, e102, hx102_0, hx102_1, hx102_2, hx102_3, hx102_4, hl102_4, hi102_4⟩ := at_T24 HR0.out a1 p102 q102
                cases e102
                replace hx102_0 := (HB.out.cell (World.block_lt_of_cell? w _ hx102_0)).trans hx102_0
                replace hx102_1 := (HB.out.cell (World.block_lt_of_cell? w _ hx102_1)).trans hx102_1
                replace hx102_2 := (HB.out.cell (World.block_lt_of_cell? w _ hx102_2)).trans hx102_2
                replace hx102_3 := (HB.out.cell (World.block_lt_of_cell? w _ hx102_3)).trans hx102_3
                replace hx102_4 := (HB.out.cell (World.block_lt_of_cell? w _ hx102_4)).trans hx102_4
                have HR102_4 := Aside0.mk hi102_4
                have HC102_4 := Aside0.mk hl102_4
                clear hi102_4 hl102_4
                replace p102 := eq_true p102
                replace q102 := eq_true q102
                go_wp2_with (first | ((with_reducible refine gate_callee (f := 49) rfl ?_); refine goesL_ (some 19) rfl rfl Try.func49 (by kernel_rfl) rfl #[.agg #[.int .u8 ((rd_T24 l0 a1).f0), .int .u8 ((rd_T24 l0 a1).f1), .int .i64 ((rd_T24 l0 a1).f2), .int .i64 ((rd_T24 l0 a1).f3), .slice A102_4 ((rd_T24 l0 a1).f4).length c102_4]] rfl (by (try simp only [List.map_toArray, List.map_cons, List.map_nil]); first | done | rfl | (simp only [List.length_drop, List.length_take]; rfl)) ?_; (with_reducible refine (check_numbers.calls ((rd_T24 l0 a1).f0) ((rd_T24 l0 a1).f1) ((rd_T24 l0 a1).f2) ((rd_T24 l0 a1).f3) _ _ ((rd_T24 l0 a1).f4) true _ ?side1 ?side2 A8.out).mono ?_); (case side1 => repeat (first | exact (Kd.C_below HR102_4.out HB.out) | (with_reducible refine Kd.C_alloc ?_ _) | (with_reducible refine Kd.C_drewN ?_ _) | (with_reducible refine Kd.C_drew ?_))); (case side2 => exact HC102_4.out); rintro e w20 ⟨rfl, hb⟩; refine ⟨_, rfl, ?_⟩; have n0_ := Aside0.mk (below_step (by repeat (first | (with_reducible first | exact HB.out | apply below_alloc | apply pw_below_drewN | apply below_drew1) | exact HB.out)) hb); clear HB; have HB := n0_; clear n0_; (try clear hb); (try clear hb2); (try clear hk); (try clear hi); have p104 : 0 ≤ (a1 : Int) := of_decide_eq_true (by first | (with_reducible assumption) | assumption); have q104 : a1 < (l0.length : Int) := of_decide_eq_true (by first | (with_reducible assumption) | assumption); obtain ⟨ad104, A104_4, c104_4, e104, hx104_0, hx104_1, hx104_2, hx104_3, hx104_4, hl104_4, hi104_4⟩ := at_T24 HR0.out a1 p104 q104; obtain rfl : ad102 = ad104 := (by injection e104); replace hx104_0 := (HB.out.cell (World.block_lt_of_cell? w _ hx104_0)).trans hx104_0; replace hx104_1 := (HB.out.cell (World.block_lt_of_cell? w _ hx104_1)).trans hx104_1; replace hx104_2 := (HB.out.cell (World.block_lt_of_cell? w _ hx104_2)).trans hx104_2; replace hx104_3 := (HB.out.cell (World.block_lt_of_cell? w _ hx104_3)).trans hx104_3; replace hx104_4 := (HB.out.cell (World.block_lt_of_cell? w _ hx104_4)).trans hx104_4; have HR104_4 := Aside0.mk hi104_4; have HC104_4 := Aside0.mk hl104_4; clear hi104_4 hl104_4; replace p104 := eq_true p104; replace q104 := eq_true q104) | ((with_reducible refine gate_callee (f := 50) rfl ?_); refine goesL_ (some 27) rfl rfl Try.func50 (by kernel_rfl) rfl #[.slice (some ad102) l0.length c0, .agg #[.int .u8 ((rd_T24 l0 a1).f0), .int .u8 ((rd_T24 l0 a1).f1), .int .i64 ((rd_T24 l0 a1).f2), .int .i64 ((rd_T24 l0 a1).f3), .slice A104_4 ((rd_T24 l0 a1).f4).length c104_4]] rfl (by (try simp only [List.map_toArray, List.map_cons, List.map_nil]); first | done | rfl | (simp only [List.length_drop, List.length_take]; rfl)) ?_; (with_reducible refine (check_ports.calls _ _ l0 ((rd_T24 l0 a1).f0) ((rd_T24 l0 a1).f1) ((rd_T24 l0 a1).f2) ((rd_T24 l0 a1).f3) _ _ ((rd_T24 l0 a1).f4) false _ ?side1 ?side2 ?side3 ?side4 A10.out).mono ?_); (case side1 => repeat (first | exact (Kd.C_below HR0.out HB.out) | (with_reducible refine Kd.C_alloc ?_ _) | (with_reducible refine Kd.C_drewN ?_ _) | (with_reducible refine Kd.C_drew ?_))); (case side2 => exact HC0.out); (case side3 => repeat (first | exact (Kd.C_below HR104_4.out HB.out) | (with_reducible refine Kd.C_alloc ?_ _) | (with_reducible refine Kd.C_drewN ?_ _) | (with_reducible refine Kd.C_drew ?_))); (case side4 => exact HC104_4.out); rintro e w21 ⟨rfl, hb⟩; refine ⟨_, rfl, ?_⟩; have n0_ := Aside0.mk (below_step (by repeat (first | (with_reducible first | exact HB.out | apply below_alloc | apply pw_below_drewN | apply below_drew1) | exact HB.out)) hb); clear HB; have HB := n0_; clear n0_; (try clear hb); (try clear hb2); (try clear hk); (try clear hi)))
                go_ret
                exact ⟨by first | rfl | (simp [errW_none, errW_some] <;> rfl) | (simp [*, errW_none, errW_some] <;> rfl), by repeat (first | (with_reducible first | exact HB.out | apply below_alloc | apply pw_below_drewN | apply below_drew1) | exact HB.out)⟩
            · replace c9 := Bool.eq_false_iff.mpr c9
              subst c9
              have H1 : (some 130) = some r := by rw [if_neg (show ¬ (false = true) by decide)] at H; exact H
              clear H
              have H := H1
              clear H1
              obtain rfl := Option.some.inj H
              have p102 : 0 ≤ (a1 : Int) := of_decide_eq_true (by first | (with_reducible assumption) | assumption)
              have q102 : a1 < (l0.length : Int) := of_decide_eq_true (by first | (with_reducible assumption) | assumption)
              obtain ⟨ad102, A102_4, c102_4, e102, hx102_0, hx102_1, hx102_2, hx102_3, hx102_4, hl102_4, hi102_4⟩ := at_T24 HR0.out a1 p102 q102
              cases e102
              replace hx102_0 := (HB.out.cell (World.block_lt_of_cell? w _ hx102_0)).trans hx102_0
              replace hx102_1 := (HB.out.cell (World.block_lt_of_cell? w _ hx102_1)).trans hx102_1
              replace hx102_2 := (HB.out.cell (World.block_lt_of_cell? w _ hx102_2)).trans hx102_2
              replace hx102_3 := (HB.out.cell (World.block_lt_of_cell? w _ hx102_3)).trans hx102_3
              replace hx102_4 := (HB.out.cell (World.block_lt_of_cell? w _ hx102_4)).trans hx102_4
              have HR102_4 := Aside0.mk hi102_4
              have HC102_4 := Aside0.mk hl102_4
              clear hi102_4 hl102_4
              replace p102 := eq_true p102
              replace q102 := eq_true q102
              go_wp2_with (first | ((with_reducible refine gate_callee (f := 49) rfl ?_); refine goesL_ (some 19) rfl rfl Try.func49 (by kernel_rfl) rfl #[.agg #[.int .u8 ((rd_T24 l0 a1).f0), .int .u8 ((rd_T24 l0 a1).f1), .int .i64 ((rd_T24 l0 a1).f2), .int .i64 ((rd_T24 l0 a1).f3), .slice A102_4 ((rd_T24 l0 a1).f4).length c102_4]] rfl (by (try simp only [List.map_toArray, List.map_cons, List.map_nil]); first | done | rfl | (simp only [List.length_drop, List.length_take]; rfl)) ?_; (with_reducible refine (check_numbers.calls ((rd_T24 l0 a1).f0) ((rd_T24 l0 a1).f1) ((rd_T24 l0 a1).f2) ((rd_T24 l0 a1).f3) _ _ ((rd_T24 l0 a1).f4) false _ ?side1 ?side2 A8.out).mono ?_); (case side1 => repeat (first | exact (Kd.C_below HR102_4.out HB.out) | (with_reducible refine Kd.C_alloc ?_ _) | (with_reducible refine Kd.C_drewN ?_ _) | (with_reducible refine Kd.C_drew ?_))); (case side2 => exact HC102_4.out); rintro e w22 ⟨rfl, hb⟩; refine ⟨_, rfl, ?_⟩; have n0_ := Aside0.mk (below_step (by repeat (first | (with_reducible first | exact HB.out | apply below_alloc | apply pw_below_drewN | apply below_drew1) | exact HB.out)) hb); clear HB; have HB := n0_; clear n0_; (try clear hb); (try clear hb2); (try clear hk); (try clear hi)))
              go_ret
              exact ⟨by first | rfl | (simp [errW_none, errW_some] <;> rfl) | (simp [*, errW_none, errW_some] <;> rfl), by repeat (first | (with_reducible first | exact HB.out | apply below_alloc | apply pw_below_drewN | apply below_drew1) | exact HB.out)⟩
          · rw [if_neg c7] at H
            exact absurd H (by simp)
        · rw [if_neg c6] at H
          exact absurd H (by simp)
end Go.Proofs.Ytcihpjkjodhdpaa.X
namespace Go.Proofs.Ytcihpjkjodhdpaa.X
set_option linter.unusedVariables false
set_option linter.unusedSimpArgs false
open Go.RowKit Go.Proofs.YtcihpjkjodhdpaaW.PrintWords Go.Proofs.YtcihpjkjodhdpaaW.PrintLast Go.Proofs.YtcihpjkjodhdpaaW.PrintMore
theorem le_srt (l : List S36) : (srt l).Pairwise (fun x y => (!(ltOf cmpR) y x) = true) := by
  refine List.pairwise_mergeSort (le := fun x y => !(ltOf cmpR) y x) ?_ ?_ l
  · intro x y z h1 h2
    simp only [Bool.not_eq_true'] at *
    exact swoR.ntrans z y x h2 h1
  · intro x y
    rw [ltOf_cmpR, ltOf_cmpR]
    simp only [Bool.or_eq_true, Bool.not_eq_true', decide_eq_false_iff_not]
    omega
theorem srt_unique {l m : List S36} (h : m.Pairwise (fun x y => (!(ltOf cmpR) y x) = true)) (hp : m.Perm l) : m = srt l := by
  refine List.Perm.eq_of_pairwise (le := fun x y => (!(ltOf cmpR) y x) = true) ?_ h (le_srt l) (hp.trans (List.mergeSort_perm _ _).symm)
  intro x y _ _ h1 h2
  simp only [Bool.not_eq_true'] at h1 h2
  exact totR x y h2 h1
theorem srt_perm {l m : List S36} (h : l.Perm m) : srt l = srt m := srt_unique (le_srt l) ((List.mergeSort_perm _ _).trans h)
def firsts : List Int → List S36 → List Int
  | _, [] => []
  | seen, x :: r => if seen.contains x.f0 then firsts seen r else x.f0 :: firsts (seen ++ [x.f0]) r
theorem firsts_mem : ∀ (r : List S36) (seen : List Int) (k : Int), k ∈ firsts seen r ↔ (k ∈ r.map S36.f0 ∧ k ∉ seen)
  | [], seen, k => by simp [firsts]
  | x :: r, seen, k => by
    unfold firsts
    by_cases h : seen.contains x.f0 = true
    · rw [if_pos h, firsts_mem r seen k]
      have h' : x.f0 ∈ seen := by simpa using h
      constructor
      · rintro ⟨h1, h2⟩; exact ⟨by simp at h1 ⊢; right; exact h1, h2⟩
      · rintro ⟨h1, h2⟩
        simp at h1
        rcases h1 with h1 | h1
        · rw [h1] at h2; exact absurd h' h2
        · exact ⟨by simpa using h1, h2⟩
    · rw [if_neg h, List.mem_cons, firsts_mem r _ k]
      have h' : x.f0 ∉ seen := by simpa using h
      constructor
      · rintro (rfl | ⟨h1, h2⟩)
        · exact ⟨by simp, h'⟩
        · exact ⟨by simp at h1 ⊢; right; exact h1, fun e => h2 (by simp [e])⟩
      · rintro ⟨h1, h2⟩
        by_cases e : k = x.f0
        · left; exact e
        · right
          simp at h1
          rcases h1 with h1 | h1
          · exact absurd h1 e
          · exact ⟨by simpa using h1, by simp [h2, e]⟩
theorem firsts_nodup : ∀ (r : List S36) (seen : List Int), (firsts seen r).Nodup
  | [], seen => by simp [firsts]
  | x :: r, seen => by
    unfold firsts
    by_cases h : seen.contains x.f0 = true
    · rw [if_pos h]; exact firsts_nodup r seen
    · rw [if_neg h, List.nodup_cons]
      refine ⟨fun hm => ?_, firsts_nodup r _⟩
      exact ((firsts_mem r _ _).1 hm).2 (by simp)
def redL (a : Int) (l : List S36) : List S36 := (firsts [] l).map fun k => ⟨k, (redS a l k).getD 0⟩
theorem redFold_some (a : Int) : ∀ (r : List S36) (f : Int → Option Int) (k : Int), ((r.foldl (redStep a) f) k).isSome = ((f k).isSome || (r.map S36.f0).contains k)
  | [], f, k => by simp
  | x :: r, f, k => by
    rw [List.foldl_cons, redFold_some a r _ k]
    unfold redStep
    by_cases e : k = x.f0
    · simp [e]
    · have e2 : (k == x.f0) = false := beq_eq_false_iff_ne.2 e
      simp [e, e2]
theorem redS_some (a : Int) (l : List S36) (k : Int) : (redS a l k).isSome = (l.map S36.f0).contains k := by
  unfold redS
  rw [redFold_some]
  simp
theorem redL_nodup (a : Int) (l : List S36) : (redL a l).Nodup := by
  unfold redL
  rw [List.nodup_iff_pairwise_ne, List.pairwise_map]
  exact (firsts_nodup l []).imp (fun h e => h (by injection e))
theorem redL_mem (a : Int) (l : List S36) (x : S36) : x ∈ redL a l ↔ redS a l x.f0 = some x.f1 := by
  unfold redL
  rw [List.mem_map]
  constructor
  · rintro ⟨k, hk, rfl⟩
    have h := redS_some a l k
    rw [((List.contains_iff_mem).2 ((firsts_mem l [] k).1 hk).1)] at h
    obtain ⟨v, hv⟩ := Option.isSome_iff_exists.1 h
    simp [hv]
  · intro h
    have h2 := redS_some a l x.f0
    rw [h] at h2
    have h3 : x.f0 ∈ l.map S36.f0 := by
      rw [← List.contains_iff_mem, ← h2]; rfl
    exact ⟨x.f0, (firsts_mem l [] x.f0).2 ⟨h3, by simp⟩, by rw [h]; rfl⟩
theorem outIs_perm {a : Int} {l out : List S36} (h : OutIs (redS a l) (fun _ => false) out) : out.Perm (redL a l) := by
  have hn : out.Nodup := by
    have := h.1
    rw [List.nodup_iff_pairwise_ne, List.pairwise_map] at this
    rw [List.nodup_iff_pairwise_ne]
    exact this.imp (fun h e => h (by rw [e]))
  refine (List.perm_ext_iff_of_nodup hn (redL_nodup a l)).2 (fun x => ?_)
  rw [h.2 x, redL_mem]
  simp
theorem node_code (k a b : Int) : ∃ e, check_Node.f 1 [⟨k, a, b, 0, []⟩] 0 = some e ∧ (e = 130 ↔ numB k a b = false) := by
  unfold check_Node.f
  simp only [check_Node.j0, rd_T24, check_numbers.f, check_ports.f, check_depth.f]
  cases hn : numB k a b with
  | false => exact ⟨130, by simp [hn], by simp⟩
  | true =>
    cases hp : portsB [⟨k, a, b, 0, []⟩] k [] with
    | false => exact ⟨100, by simp [hn, hp], by simp⟩
    | true =>
      cases hd : depthB [⟨k, a, b, 0, []⟩] k 0 [] with
      | false => exact ⟨101, by simp [hn, hp, hd], by simp⟩
      | true => exact ⟨0, by simp [hn, hp, hd], by simp⟩
end Go.Proofs.Ytcihpjkjodhdpaa.X
namespace Go.Proofs.Ytcihpjkjodhdpaa.X
set_option linter.unusedVariables false
set_option linter.unusedSimpArgs false
open Go.RowKit Go.Proofs.YtcihpjkjodhdpaaW.PrintWords Go.Proofs.YtcihpjkjodhdpaaW.PrintLast Go.Proofs.YtcihpjkjodhdpaaW.PrintMore
def rm1 : Array MapEntry := #[⟨.int .u8 2, .func (.func 27) #[] #[], 0⟩]
def rm2 : Array MapEntry := #[⟨.int .u8 2, .func (.func 27) #[] #[], 0⟩, ⟨.int .u8 3, .func (.func 28) #[] #[], 1⟩]
def rm3 : Array MapEntry := #[⟨.int .u8 2, .func (.func 27) #[] #[], 0⟩, ⟨.int .u8 3, .func (.func 28) #[] #[], 1⟩, ⟨.int .u8 5, .func (.func 29) #[] #[], 2⟩]
def rm4 : Array MapEntry := #[⟨.int .u8 2, .func (.func 27) #[] #[], 0⟩, ⟨.int .u8 3, .func (.func 28) #[] #[], 1⟩, ⟨.int .u8 5, .func (.func 29) #[] #[], 2⟩, ⟨.int .u8 6, .func (.func 30) #[] #[], 3⟩]
theorem rins0 (W : World) : (Instr.mapUpdate 61 (.map (some W.heap.size)) (.int .u8 2) (.func (.func 27) #[] #[])).run Try.prog (W.alloc (.map #[] 0)) = .ok () (W.alloc (.map rm1 1)) := run_ins 61 5 60 Try.underlying61 Try.underlying5 W #[] 0 2 _ rfl
theorem rins1 (W : World) : (Instr.mapUpdate 61 (.map (some W.heap.size)) (.int .u8 3) (.func (.func 28) #[] #[])).run Try.prog (W.alloc (.map rm1 1)) = .ok () (W.alloc (.map rm2 2)) := run_ins 61 5 60 Try.underlying61 Try.underlying5 W rm1 1 3 _ rfl
theorem rins2 (W : World) : (Instr.mapUpdate 61 (.map (some W.heap.size)) (.int .u8 5) (.func (.func 29) #[] #[])).run Try.prog (W.alloc (.map rm2 2)) = .ok () (W.alloc (.map rm3 3)) := run_ins 61 5 60 Try.underlying61 Try.underlying5 W rm2 2 5 _ rfl
theorem rins3 (W : World) : (Instr.mapUpdate 61 (.map (some W.heap.size)) (.int .u8 6) (.func (.func 30) #[] #[])).run Try.prog (W.alloc (.map rm3 3)) = .ok () (W.alloc (.map rm4 4)) := run_ins 61 5 60 Try.underlying61 Try.underlying5 W rm3 3 6 _ rfl
theorem reads_node (W : World) (nd : S24) (h4 : nd.f4 = []) : Kd.C k24 (W.alloc (.cells #[.int .u8 nd.f0, .int .u8 nd.f1, .int .i64 nd.f2, .int .i64 nd.f3, .slice none 0 0] 24)) (some ⟨W.heap.size, 0, none⟩) ([nd] : List S24).length [nd] := by
  refine ⟨rfl, by simp, fun _ => ⟨_, rfl, fun j p hj => ?_⟩⟩
  match j, hj with
  | 0, hj =>
    simp at hj; subst hj
    obtain ⟨a, b, c, d, l⟩ := nd
    simp only at h4
    subst h4
    refine ⟨[.int .u8 a, .int .u8 b, .int .i64 c, .int .i64 d, .slice none 0 0], rfl, k24_mk _ ⟨a, b, c, d, []⟩ (A4 := none) (c4 := 0) (Nat.le_refl _) ⟨rfl, by simp, fun h => absurd h (by simp)⟩, fun i u hu => ?_⟩
    rw [add_plain]
    match i, hu with
    | 0, hu => simp at hu; subst hu; simp [go_sem]
    | 1, hu => simp at hu; subst hu; simp [go_sem]
    | 2, hu => simp at hu; subst hu; simp [go_sem]
    | 3, hu => simp at hu; subst hu; simp [go_sem]
    | 4, hu => simp at hu; subst hu; simp [go_sem]
    | i + 5, hu => simp at hu
  | j + 1, hj => simp at hj
def DoesRun (f : Nat) (k a b : Int) (A : Option Addr) (n c : Nat) (w : World) (Good : List S36 → Prop) : Prop :=
  ∀ W, Below w.heap.size w W → Calls Try.prog f #[.agg #[.int .u8 k, .int .u8 a, .int .i64 b, .int .i64 0, .slice none 0 0], .slice A n c] W fun e w' => ∃ v out, e = .returned v ∧ Kd.R k36 36 w' W.heap.size (fun _ => True) v out ∧ Below W.heap.size W w' ∧ Good out ∧ out.length ≤ 1000000
set_option maxHeartbeats 4000000 in
set_option maxRecDepth 100000 in
theorem run_bad (k a b d : Int) (A4 : Option Addr) (n4 c4 : Nat) (A : Option Addr) (n c : Nat) (w : World) (hn : numB k a b = false) :
    Calls Try.prog 12 #[.agg #[.int .u8 k, .int .u8 a, .int .i64 b, .int .i64 d, .slice A4 n4 c4], .slice A n c] w fun e w' => e = .returned (.tuple #[.slice none 0 0, .int .i64 130]) ∧ Below w.heap.size w w' := by
  obtain ⟨e, he, hiff⟩ := node_code k a b
  obtain rfl := hiff.2 hn
  have hB0 := below_alloc (Below.refl w.heap.size w) (.cells #[.int .u8 k, .int .u8 a, .int .i64 b, .int .i64 0, .slice none 0 0] 24)
  have hB1 := below_alloc hB0 (.cells #[.int .u8 k, .int .u8 a, .int .i64 b, .int .i64 0, .slice none 0 0] 24)
  have HC := Aside0.mk (check_Node.calls 1 (some ⟨w.heap.size + 1, 0, none⟩) 1 [⟨k, a, b, 0, []⟩] 0 130 _ (by simpa using reads_node (w.alloc (.cells #[.int .u8 k, .int .u8 a, .int .i64 b, .int .i64 0, .slice none 0 0] 24)) ⟨k, a, b, 0, []⟩ rfl) (by simp) he)
  have HB1 := Aside0.mk hB1
  clear he hiff hn hB0 hB1
  go_enter Try.func12, Try.ntmps12
  go_wp2_with (go_at_call 25; refine HC.out.mono ?_; rintro e w1 ⟨rfl, hb⟩; have HB2 := Aside0.mk (below_step HB1.out hb); clear hb)
  go_ret2
  exact ⟨rfl, HB2.out⟩
set_option maxHeartbeats 4000000 in
set_option maxRecDepth 100000 in
theorem run_ports (k a b d : Int) (A4 : Option Addr) (n4 c4 : Nat) (A : Option Addr) (n c : Nat) (w : World) (hn : numB k a b = true) (hp : (n : Int) ≠ arityI k) (hm : n ≤ 9223372036854775807) :
    Calls Try.prog 12 #[.agg #[.int .u8 k, .int .u8 a, .int .i64 b, .int .i64 d, .slice A4 n4 c4], .slice A n c] w fun e w' => e = .returned (.tuple #[.slice none 0 0, .int .i64 100]) ∧ Below w.heap.size w w' := by
  obtain ⟨e, he, hiff⟩ := node_code k a b
  have hne : ¬ e = 130 := fun h => by rw [hiff.1 h] at hn; cases hn
  have hB0 := below_alloc (Below.refl w.heap.size w) (.cells #[.int .u8 k, .int .u8 a, .int .i64 b, .int .i64 0, .slice none 0 0] 24)
  have hB1 := below_alloc hB0 (.cells #[.int .u8 k, .int .u8 a, .int .i64 b, .int .i64 0, .slice none 0 0] 24)
  have HC := Aside0.mk (check_Node.calls 1 (some ⟨w.heap.size + 1, 0, none⟩) 1 [⟨k, a, b, 0, []⟩] 0 e _ (by simpa using reads_node (w.alloc (.cells #[.int .u8 k, .int .u8 a, .int .i64 b, .int .i64 0, .slice none 0 0] 24)) ⟨k, a, b, 0, []⟩ rfl) (by simp) he)
  have HB1 := Aside0.mk hB1
  have HBX := Aside0.mk (blk_alloc (blk_new w (.cells #[.int .u8 k, .int .u8 a, .int .i64 b, .int .i64 0, .slice none 0 0] 24)) (.cells #[.int .u8 k, .int .u8 a, .int .i64 b, .int .i64 0, .slice none 0 0] 24))
  have ar : opers_arity.f k = some (arityI k) := by
    unfold opers_arity.f arityI
    by_cases h1 : k = 1 <;> by_cases h4 : k = 4 <;> by_cases h6 : k = 6 <;> simp [h1, h4, h6]
  have HA := Aside0.mk (fun W => opers_arity.calls k _ W ar)
  have b0 : (e == 130) = false := beq_eq_false_iff_ne.2 hne
  have b1 : ((n : Int) != arityI k) = true := bne_iff_ne.2 hp
  generalize arityI k = r at HA b1
  clear he hiff hn hne hB0 hB1 hp ar
  go_enter Try.func12, Try.ntmps12
  go_wp2_with (first | (go_at_call 25; refine HC.out.mono ?_; rintro e w1 ⟨rfl, hb⟩; have HB2 := Aside0.mk (below_step HB1.out hb); have p0 := (blk_cell (blk_below HBX.out hb) 0).trans rfl; clear hb) | (go_at_call 26; refine (HA.out _).mono ?_; rintro e w2 ⟨rfl, hd⟩; have HB3 := Aside0.mk (below_step HB2.out hd.below); clear hd))
  go_ret2
  exact ⟨rfl, HB3.out⟩
end Go.Proofs.Ytcihpjkjodhdpaa.X
namespace Go.Proofs.Ytcihpjkjodhdpaa.X
set_option linter.unusedVariables false
set_option linter.unusedSimpArgs false
open Go.RowKit Go.Proofs.YtcihpjkjodhdpaaW.PrintWords Go.Proofs.YtcihpjkjodhdpaaW.PrintLast Go.Proofs.YtcihpjkjodhdpaaW.PrintMore
set_option maxHeartbeats 4000000 in
set_option maxRecDepth 100000 in
theorem run_hit (k a b d : Int) (A4 : Option Addr) (n4 c4 : Nat) (A : Option Addr) (n c : Nat) (w : World) (f i : Nat) (hf : Instr.findNow (.int .u8) (.int .u8 k) rm4.toList 0 = some (some (i, .func (.func f) #[] #[])))
    (eg : ∀ args w, (callFunc f args).run Try.prog w = .ok (.enter f args) w) (Good : List S36 → Prop) (hn : numB k a b = true) (hp : (n : Int) = arityI k) (hm : n ≤ 9223372036854775807) (hD : DoesRun f k a b A n c w Good) :
    Calls Try.prog 12 #[.agg #[.int .u8 k, .int .u8 a, .int .i64 b, .int .i64 d, .slice A4 n4 c4], .slice A n c] w fun e w' => ∃ v out, e = .returned (.tuple #[v, .int .i64 0]) ∧ Kd.R k36 36 w' w.heap.size (fun _ => True) v (srt out) ∧ Good out ∧ Below w.heap.size w w' := by
  have hlk : ∀ W : World, (Instr.lookup 61 (.map (some W.heap.size)) (.int .u8 k) true).run Try.prog (W.alloc (.map rm4 4)) = .ok (.tuple #[.func (.func f) #[] #[], .bool true]) (W.alloc (.map rm4 4)) := fun W =>
    run_find 61 5 60 Try.underlying61 Try.underlying5 _ _ rm4 4 k _ i (heap_alloc_last W (.map rm4 4)) hf
  obtain ⟨e, he, hiff⟩ := node_code k a b
  have hne : ¬ e = 130 := fun h => by rw [hiff.1 h] at hn; cases hn
  have hB0 := below_alloc (Below.refl w.heap.size w) (.cells #[.int .u8 k, .int .u8 a, .int .i64 b, .int .i64 0, .slice none 0 0] 24)
  have hB1 := below_alloc hB0 (.cells #[.int .u8 k, .int .u8 a, .int .i64 b, .int .i64 0, .slice none 0 0] 24)
  have HC := Aside0.mk (check_Node.calls 1 (some ⟨w.heap.size + 1, 0, none⟩) 1 [⟨k, a, b, 0, []⟩] 0 e _ (by simpa using reads_node (w.alloc (.cells #[.int .u8 k, .int .u8 a, .int .i64 b, .int .i64 0, .slice none 0 0] 24)) ⟨k, a, b, 0, []⟩ rfl) (by simp) he)
  have HB1 := Aside0.mk hB1
  have HBX := Aside0.mk (blk_alloc (blk_new w (.cells #[.int .u8 k, .int .u8 a, .int .i64 b, .int .i64 0, .slice none 0 0] 24)) (.cells #[.int .u8 k, .int .u8 a, .int .i64 b, .int .i64 0, .slice none 0 0] 24))
  have ar : opers_arity.f k = some (arityI k) := by
    unfold opers_arity.f arityI
    by_cases h1 : k = 1 <;> by_cases h4 : k = 4 <;> by_cases h6 : k = 6 <;> simp [h1, h4, h6]
  have HA := Aside0.mk (fun W => opers_arity.calls k _ W ar)
  have b0 : (e == 130) = false := beq_eq_false_iff_ne.2 hne
  have b1 : ((n : Int) != arityI k) = false := by simpa using hp
  generalize arityI k = r at HA b1
  have HD := Aside0.mk hD
  have mk := @run_makeMap Try.prog
  have HLK := Aside0.mk (fun W : World => hlk W)
  clear he hiff hn hne hB0 hB1 hp ar hD hlk hf
  go_enter Try.func12, Try.ntmps12
  go_wp2_with (first | (go_at_call 25; refine HC.out.mono ?_; rintro e w1 ⟨rfl, hb⟩; have HB2 := Aside0.mk (below_step HB1.out hb); have HBX2 := Aside0.mk (blk_below HBX.out hb); have p0 := (blk_cell HBX2.out 0).trans rfl; clear hb) | (go_at_call 26; refine (HA.out _).mono ?_; rintro e w2 ⟨rfl, hd⟩; have HB3 := Aside0.mk (below_step HB2.out hd.below); have HBX3 := Aside0.mk (blk_below HBX2.out hd.below); clear hd; have m0 := rins0 w2; have m1 := rins1 w2; have m2 := rins2 w2; have m3 := rins3 w2; have lk := HLK.out w2; have HBX4 := Aside0.mk (blk_alloc HBX3.out (.map rm4 4)); have HB4 := Aside0.mk (below_alloc HB3.out (.map rm4 4)); have q0 := (blk_cell HBX4.out 0).trans rfl; have q1 := (blk_cell HBX4.out 1).trans rfl; have q2 := (blk_cell HBX4.out 2).trans rfl; have q3 := (blk_cell HBX4.out 3).trans rfl; have q4 := (blk_cell HBX4.out 4).trans rfl) | (go_at_fn f; refine (HD.out _ HB4.out).mono ?_; rintro e w3 ⟨v, out, rfl, ho, hb, hgd, hol⟩; obtain ⟨Av, cv, rfl, hlc, hrc⟩ := Kd.R_reads ho; have HB5 := Aside0.mk (below_step HB4.out hb); have HS := Aside0.mk (sorted_calls Av cv out w3 hrc hlc hol); have HGD := Aside0.mk hgd; have HOL := Aside0.mk hol; have hol9 : out.length ≤ 9223372036854775807 := by { omega }; clear ho hb hgd hrc hol) | (go_at_call 32; refine HS.out.mono ?_; rintro e w4 ⟨v4, rfl, ho, hb⟩; have HO := Aside0.mk (Kd.R_lower ho HB5.out.size); have HB6 := Aside0.mk (below_step HB5.out hb); clear ho hb))
  go_ret2
  exact ⟨_, _, rfl, HO.out, HGD.out, HB6.out⟩
set_option maxHeartbeats 4000000 in
set_option maxRecDepth 100000 in
theorem run_else (k a b d : Int) (A4 : Option Addr) (n4 c4 : Nat) (A : Option Addr) (n c : Nat) (w : World) (hf : Instr.findNow (.int .u8) (.int .u8 k) rm4.toList 0 = some none)
    (Good : List S36 → Prop) (hn : numB k a b = true) (hp : (n : Int) = arityI k) (hm : n ≤ 9223372036854775807) (hD : DoesRun 31 k a b A n c w Good) :
    Calls Try.prog 12 #[.agg #[.int .u8 k, .int .u8 a, .int .i64 b, .int .i64 d, .slice A4 n4 c4], .slice A n c] w fun e w' => ∃ v out, e = .returned (.tuple #[v, .int .i64 0]) ∧ Kd.R k36 36 w' w.heap.size (fun _ => True) v (srt out) ∧ Good out ∧ Below w.heap.size w w' := by
  have hz : ∀ W, (zeroValue 60).run Try.prog W = .ok .nilFunc W := fun _ => by kernel_rfl
  have hlk : ∀ W : World, (Instr.lookup 61 (.map (some W.heap.size)) (.int .u8 k) true).run Try.prog (W.alloc (.map rm4 4)) = .ok (.tuple #[.nilFunc, .bool false]) (W.alloc (.map rm4 4)) := fun W =>
    run_miss 61 5 60 Try.underlying61 Try.underlying5 _ _ rm4 4 k .nilFunc (hz _) (heap_alloc_last W (.map rm4 4)) hf
  have eg : ∀ args w, (callFunc 31 args).run Try.prog w = .ok (.enter 31 args) w := enters_of Try.func31 (by kernel_rfl) rfl
  obtain ⟨e, he, hiff⟩ := node_code k a b
  have hne : ¬ e = 130 := fun h => by rw [hiff.1 h] at hn; cases hn
  have hB0 := below_alloc (Below.refl w.heap.size w) (.cells #[.int .u8 k, .int .u8 a, .int .i64 b, .int .i64 0, .slice none 0 0] 24)
  have hB1 := below_alloc hB0 (.cells #[.int .u8 k, .int .u8 a, .int .i64 b, .int .i64 0, .slice none 0 0] 24)
  have HC := Aside0.mk (check_Node.calls 1 (some ⟨w.heap.size + 1, 0, none⟩) 1 [⟨k, a, b, 0, []⟩] 0 e _ (by simpa using reads_node (w.alloc (.cells #[.int .u8 k, .int .u8 a, .int .i64 b, .int .i64 0, .slice none 0 0] 24)) ⟨k, a, b, 0, []⟩ rfl) (by simp) he)
  have HB1 := Aside0.mk hB1
  have HBX := Aside0.mk (blk_alloc (blk_new w (.cells #[.int .u8 k, .int .u8 a, .int .i64 b, .int .i64 0, .slice none 0 0] 24)) (.cells #[.int .u8 k, .int .u8 a, .int .i64 b, .int .i64 0, .slice none 0 0] 24))
  have ar : opers_arity.f k = some (arityI k) := by
    unfold opers_arity.f arityI
    by_cases h1 : k = 1 <;> by_cases h4 : k = 4 <;> by_cases h6 : k = 6 <;> simp [h1, h4, h6]
  have HA := Aside0.mk (fun W => opers_arity.calls k _ W ar)
  have b0 : (e == 130) = false := beq_eq_false_iff_ne.2 hne
  have b1 : ((n : Int) != arityI k) = false := by simpa using hp
  generalize arityI k = r at HA b1
  have HD := Aside0.mk hD
  have mk := @run_makeMap Try.prog
  have HLK := Aside0.mk (fun W : World => hlk W)
  clear he hiff hn hne hB0 hB1 hp ar hD hlk hf hz
  go_enter Try.func12, Try.ntmps12
  go_wp2_with (first | (go_at_call 25; refine HC.out.mono ?_; rintro e w1 ⟨rfl, hb⟩; have HB2 := Aside0.mk (below_step HB1.out hb); have HBX2 := Aside0.mk (blk_below HBX.out hb); have p0 := (blk_cell HBX2.out 0).trans rfl; clear hb) | (go_at_call 26; refine (HA.out _).mono ?_; rintro e w2 ⟨rfl, hd⟩; have HB3 := Aside0.mk (below_step HB2.out hd.below); have HBX3 := Aside0.mk (blk_below HBX2.out hd.below); clear hd; have m0 := rins0 w2; have m1 := rins1 w2; have m2 := rins2 w2; have m3 := rins3 w2; have lk := HLK.out w2; have HBX4 := Aside0.mk (blk_alloc HBX3.out (.map rm4 4)); have HB4 := Aside0.mk (below_alloc HB3.out (.map rm4 4)); have q0 := (blk_cell HBX4.out 0).trans rfl; have q1 := (blk_cell HBX4.out 1).trans rfl; have q2 := (blk_cell HBX4.out 2).trans rfl; have q3 := (blk_cell HBX4.out 3).trans rfl; have q4 := (blk_cell HBX4.out 4).trans rfl) | (go_at_fn 31; refine (HD.out _ HB4.out).mono ?_; rintro e w3 ⟨v, out, rfl, ho, hb, hgd, hol⟩; obtain ⟨Av, cv, rfl, hlc, hrc⟩ := Kd.R_reads ho; have HB5 := Aside0.mk (below_step HB4.out hb); have HS := Aside0.mk (sorted_calls Av cv out w3 hrc hlc hol); have HGD := Aside0.mk hgd; have HOL := Aside0.mk hol; have hol9 : out.length ≤ 9223372036854775807 := by { omega }; clear ho hb hgd hrc hol) | (go_at_call 32; refine HS.out.mono ?_; rintro e w4 ⟨v4, rfl, ho, hb⟩; have HO := Aside0.mk (Kd.R_lower ho HB5.out.size); have HB6 := Aside0.mk (below_step HB5.out hb); clear ho hb))
  go_ret2
  exact ⟨_, _, rfl, HO.out, HGD.out, HB6.out⟩
end Go.Proofs.Ytcihpjkjodhdpaa.X
namespace Go.Proofs.Ytcihpjkjodhdpaa.X
set_option linter.unusedVariables false
set_option linter.unusedSimpArgs false
open Go.RowKit Go.Proofs.YtcihpjkjodhdpaaW.PrintWords Go.Proofs.YtcihpjkjodhdpaaW.PrintLast Go.Proofs.YtcihpjkjodhdpaaW.PrintMore
set_option maxHeartbeats 4000000 in
theorem maps_calls (a0 a1 a2 a3 : Int) (A4 : Option Addr) (n4 c4 : Nat) (A : Option Addr) (c : Nat) (l : List (List S36)) (w : World) (hr : Kd.C (Kd.slice 36 k36) w A l.length l) (h1 : 1 ≤ l.length) (hl : (rd_L2 l 0).length ≤ 1000000)
    (hz : a1 = 0 ∨ a1 = 1 ∨ a1 = 2 ∨ a2 ≠ 0) :
    Calls Try.prog 27 #[.agg #[.int .u8 a0, .int .u8 a1, .int .i64 a2, .int .i64 a3, .slice A4 n4 c4], .slice A l.length c] w fun e w' => ∃ v, e = .returned v ∧ Kd.R k36 36 w' w.heap.size (fun _ => True) v ((rd_L2 l 0).map (mapF a1 a2)) ∧ Below w.heap.size w w' := by
  have HLEN : l.length ≤ 9223372036854775807 := hr.2.1
  obtain ⟨ad, A0, c0, eA, q0, hc0, hr0⟩ := at_L2 hr 0 (by omega) (by omega)
  subst eA
  simp only [Int.toNat_zero] at q0
  have e0 : ad.add 0 = ad := by simp [Addr.add]
  rw [e0] at q0
  clear e0
  have h1z : (0 : Int) < (l.length : Int) := by omega
  generalize rd_L2 l 0 = x at q0 hc0 hr0 hl
  have hHB := Aside0.mk (Below.refl w.heap.size w)
  have e : x.map (mapF a1 a2) = outL (fun y => (mapF a1 a2 y, true)) x := by
    unfold outL
    simp [List.filterMap_eq_map']
  have eg := enters_of Try.func53 (by kernel_rfl) rfl
  have HC := Aside0.mk (fun W (hB : Below w.heap.size w W) (hb : W.heap[w.heap.size]? = some (.cells #[.int .u8 a0, .int .u8 a1, .int .i64 a2, .int .i64 a3, .slice A4 n4 c4] 24 (0, 0))) =>
    each_calls A0 c0 x 53 #[.pointer (some ⟨w.heap.size, 0, none⟩)] (fun y => (mapF a1 a2 y, true)) eg W (Kd.C_below hr0 hB) hl fun j y hj W2 hB2 => maps_1_calls a0 a1 a2 a3 A4 c4 n4 y w.heap.size W2 ((hB2.block _ (Array.getElem?_eq_some_iff.1 hb).1).trans hb) hz)
  rw [e]
  have q1 := ((below_alloc hHB.out (.cells #[.int .u8 a0, .int .u8 a1, .int .i64 a2, .int .i64 a3, .slice A4 n4 c4] 24)).cell (World.block_lt_of_cell? w _ q0)).trans q0
  clear hr hr0 hz e eg q0
  go_enter Try.func27, Try.ntmps27
  go_wp2_with (go_at_call 52; refine (HC.out _ (below_alloc hHB.out _) (by simpa using heap_alloc_last w _)).mono ?_; rintro e w' ⟨v, rfl, ho, hb⟩; have HO := Aside0.mk ho; have HB := Aside0.mk hb; clear ho hb)
  go_ret
  exact ⟨_, rfl, Kd.R_lower HO.out (by simp), below_step (below_alloc hHB.out _) HB.out⟩
end Go.Proofs.Ytcihpjkjodhdpaa.X
namespace Go.Proofs.Ytcihpjkjodhdpaa.X
set_option linter.unusedVariables false
set_option linter.unusedSimpArgs false
open Go.RowKit Go.Proofs.YtcihpjkjodhdpaaW.PrintWords Go.Proofs.YtcihpjkjodhdpaaW.PrintLast Go.Proofs.YtcihpjkjodhdpaaW.PrintMore
def filtF (a b : Int) (x : S36) : Bool := if a = 0 then decide (x.f1 < b) else if a = 1 then Int.tmod x.f1 b == 0 else decide (x.f0 < b)
def filt.T3 : Bool × List (List Nat × List Nat) := (true, [([], []), ([], []), ([1], [1]), ([], []), ([3], [3]), ([2, 4], [2, 4]), ([0, 0], [0]), ([5, 6, 0, 1, 2, 3, 4, 5, 6], [5])])
def filt.B3 : List Nat := [0, 0, 2, 0, 8, 30, 1, 127]
theorem filt.tab3 : rtab .any (opsOf Try.f54 3) = filt.T3 := by kernel_rfl
theorem filt.bits3 : waitsOk filt.T3.2 filt.B3 = true := by kernel_rfl
def filt.T5 : Bool × List (List Nat × List Nat) := (true, [([], []), ([], []), ([1], [1]), ([], []), ([3], [3]), ([2, 4], [2, 4]), ([5], [5]), ([0, 0], [0]), ([6, 7, 0, 1, 2, 3, 4, 5, 6, 7], [6])])
def filt.B5 : List Nat := [0, 0, 2, 0, 8, 30, 62, 1, 255]
theorem filt.tab5 : rtab .any (opsOf Try.f54 5) = filt.T5 := by kernel_rfl
theorem filt.bits5 : waitsOk filt.T5.2 filt.B5 = true := by kernel_rfl
def filt.T6 : Bool × List (List Nat × List Nat) := (true, [([], []), ([], []), ([1], [1]), ([], []), ([3], [3]), ([2, 4], [2, 4]), ([0, 0], [0]), ([5, 6, 0, 1, 2, 3, 4, 5, 6], [5])])
def filt.B6 : List Nat := [0, 0, 2, 0, 8, 30, 1, 127]
theorem filt.tab6 : rtab .any (opsOf Try.f54 6) = filt.T6 := by kernel_rfl
theorem filt.bits6 : waitsOk filt.T6.2 filt.B6 = true := by kernel_rfl
set_option maxHeartbeats 4000000 in
set_option maxRecDepth 100000 in
theorem filters_1_calls (a0 a1 a2 a3 : Int) (A : Option Addr) (c n : Nat) (x : S36) (gb : Nat) (w : World) (hb : w.heap[gb]? = some (.cells #[.int .u8 a0, .int .u8 a1, .int .i64 a2, .int .i64 a3, .slice A n c] 24 (0, 0))) (hz : a1 = 1 → a2 ≠ 0) :
    Calls Try.prog 54 #[recV x, .pointer (some ⟨gb, 0, none⟩)] w fun e w' => e = .returned (.tuple #[recV x, .bool (filtF a1 a2 x)]) ∧ Below w.heap.size w w' := by
  have hlt : gb < w.heap.size := (Array.getElem?_eq_some_iff.1 hb).1
  have c1 : w.cell? ⟨gb, 1, none⟩ = some (.int .u8 a1) := by simp [World.cell?, hb]
  have c2 : w.cell? ⟨gb, 2, none⟩ = some (.int .i64 a2) := by simp [World.cell?, hb]
  obtain ⟨x0, x1⟩ := x
  unfold recV
  have hS0 : (fun W => W.cell? ⟨w.heap.size, 0, none⟩ = some (.int .i64 x0) ∧ W.cell? ⟨w.heap.size, 1, none⟩ = some (.int .i64 x1) ∧ W.cell? ⟨gb, 2, none⟩ = some (.int .i64 a2) ∧ Below w.heap.size w W) (((w.alloc (.cells #[.int .i64 x0, .int .i64 x1] 36)).alloc (.cells #[.int .i64 0, .int .i64 0] 36)).drew) := by
    have hB : Below w.heap.size w ((w.alloc (.cells #[.int .i64 x0, .int .i64 x1] 36)).alloc (.cells #[.int .i64 0, .int .i64 0] 36)).drew := (below_alloc (below_alloc (Below.refl _ _) _) _).drew
    exact ⟨by go_simp, by go_simp, (pw_cell_below hB c2), hB⟩
  have hbk : (((w.alloc (.cells #[.int .i64 x0, .int .i64 x1] 36)).alloc (.cells #[.int .i64 0, .int .i64 0] 36)).drew).heap[w.heap.size + 1]? = some (.cells #[.int .i64 0, .int .i64 0] 36 (0, 0)) :=
    blk_drew (by simpa using heap_alloc_last (w.alloc (.cells #[.int .i64 x0, .int .i64 x1] 36)) (.cells #[.int .i64 0, .int .i64 0] 36))
  clear hb
  by_cases k0 : a1 = 0
  · subst k0
    have HF := Aside0.mk (show filtF 0 a2 ⟨x0, x1⟩ = decide (x1 < a2) by simp [filtF])
    go_enter Try.func54, Try.ntmps54
    go_wp2
    refine start_ (n := 8) (S := fun W => W.cell? ⟨w.heap.size, 0, none⟩ = some (.int .i64 x0) ∧ W.cell? ⟨w.heap.size, 1, none⟩ = some (.int .i64 x1) ∧ W.cell? ⟨gb, 2, none⟩ = some (.int .i64 a2) ∧ Below w.heap.size w W) (ds := []) #[false, false, false, false, false, false, false, false] (by kernel_rfl) rfl rfl hS0 (fun hHeld => ?_)
    refine with_tabW filt.tab3 filt.bits3 (fun HT_ HW_ => ?_)
    clear hS0
    generalize World.drew _ = w0 at hHeld hbk ⊢
    refine take_ (i := 0) (N := (some 9)) (v := ?_) (a' := ?_) #[true, false, false, false, false, false, false, false] rfl rfl (take_ofW HT_.out HW_.out (by kernel_rfl)) (fun _ _ _ h => h) (Or.inl ⟨by rfl, ?_⟩) hHeld ?_ ?_
    rotate_left
    · rintro w' ⟨sx0, sx1, sx2, sx3⟩
      go_simp
      (try with_reducible rfl)
    rotate_left
    · simp only [Act.put, List.setIfInBounds_toArray, List.set_cons_zero, List.set_cons_succ, i64_w, i32_w]
      rfl
    refine pure_ (i := 1) (N := (some 10)) (v := ?_) (a' := ?_) #[true, true, false, false, false, false, false, false] rfl rfl (any_of HT_.out (by kernel_rfl)) (fun _ _ _ h => h) (Or.inl ⟨by rfl, ?_⟩) ?_ ?_
    rotate_left
    · intro w'
      go_simp
      (try with_reducible rfl)
    rotate_left
    · simp only [Act.put, List.setIfInBounds_toArray, List.set_cons_zero, List.set_cons_succ, i64_w, i32_w]
      rfl
    refine take_ (i := 2) (N := (some 11)) (v := ?_) (a' := ?_) #[true, true, true, false, false, false, false, false] rfl rfl (take_ofW HT_.out HW_.out (by kernel_rfl)) (fun _ _ _ h => h) (Or.inl ⟨by rfl, ?_⟩) hHeld ?_ ?_
    rotate_left
    · rintro w' ⟨sx0, sx1, sx2, sx3⟩
      go_simp
      (try with_reducible rfl)
    rotate_left
    · simp only [Act.put, List.setIfInBounds_toArray, List.set_cons_zero, List.set_cons_succ, i64_w, i32_w]
      rfl
    refine pure_ (i := 3) (N := (some 12)) (v := ?_) (a' := ?_) #[true, true, true, true, false, false, false, false] rfl rfl (any_of HT_.out (by kernel_rfl)) (fun _ _ _ h => h) (Or.inl ⟨by rfl, ?_⟩) ?_ ?_
    rotate_left
    · intro w'
      go_simp
      (try with_reducible rfl)
    rotate_left
    · simp only [Act.put, List.setIfInBounds_toArray, List.set_cons_zero, List.set_cons_succ, i64_w, i32_w]
      rfl
    refine take_ (i := 4) (N := (some 13)) (v := ?_) (a' := ?_) #[true, true, true, true, true, false, false, false] rfl rfl (take_ofW HT_.out HW_.out (by kernel_rfl)) (fun _ _ _ h => h) (Or.inl ⟨by rfl, ?_⟩) hHeld ?_ ?_
    rotate_left
    · rintro w' ⟨sx0, sx1, sx2, sx3⟩
      go_simp
      (try with_reducible rfl)
    rotate_left
    · simp only [Act.put, List.setIfInBounds_toArray, List.set_cons_zero, List.set_cons_succ, i64_w, i32_w]
      rfl
    refine pure_ (i := 5) (N := (some 14)) (v := ?_) (a' := ?_) #[true, true, true, true, true, true, false, false] rfl rfl (any_of HT_.out (by kernel_rfl)) (fun _ _ _ h => h) (Or.inl ⟨by rfl, ?_⟩) ?_ ?_
    rotate_left
    · intro w'
      go_simp
      (try with_reducible rfl)
    rotate_left
    · simp only [Act.put, List.setIfInBounds_toArray, List.set_cons_zero, List.set_cons_succ, i64_w, i32_w]
      rfl
    refine one_ (i := 6) (N := none) #[true, true, true, true, true, true, true, false] rfl rfl (one_of HT_.out (by kernel_rfl)) (by decide) (fun K hK => ?_)
    obtain ⟨q0_, q1_, q2_, hBX⟩ := hHeld
    have tc0 := (blk_cell hbk 0).trans rfl
    have tc1 := (blk_cell hbk 1).trans rfl
    have tf0 := blk_frozen hbk 0
    have tf1 := blk_frozen hbk 1
    refine skip_ (w1 := ?_) (by rfl) rfl ?_ ?_
    rotate_left
    · go_simp
      rfl
    refine hK.out _ _ ⟨(cell_far (by simp) _).trans ((cell_far (by simp) _).trans q0_), (cell_far (by simp) _).trans ((cell_far (by simp) _).trans q1_), (cell_far (by simp; omega) _).trans ((cell_far (by simp; omega) _).trans q2_), below_set (below_set hBX (by simp)) (by simp)⟩ (fun hHeld => ?_)
    clear hK K
    refine pure_ (i := 7) (N := (some 4)) (v := ?_) (a' := ?_) #[true, true, true, true, true, true, true, true] rfl rfl (any_of HT_.out (by kernel_rfl)) (fun _ _ _ h => h) (Or.inl ⟨by rfl, ?_⟩) ?_ ?_
    rotate_left
    · intro w'
      go_simp
      (try with_reducible rfl)
    rotate_left
    · simp only [Act.put, List.setIfInBounds_toArray, List.set_cons_zero, List.set_cons_succ, i64_w, i32_w]
      rfl
    refine done_ (done_of HT_.out (by kernel_rfl)) ?_
    go_wp2
    refine bodyPost_ret (results_ct rfl _ _ (w.heap.size + 1) 36 #[.int .i64 x0, .int .i64 x1] (0, 0) _ rfl (by rw [blk_set (blk_set hbk 0 (.int .i64 x0)) 1 (.int .i64 x1)]; rfl) Try.underlying36 rfl (by kernel_rfl)) rfl ?_
    exact ⟨by rw [HF.out]; rfl, hHeld.2.2.2⟩
  by_cases k1 : a1 = 1
  · subst k1
    have hz2 := hz rfl
    have HF := Aside0.mk (show filtF 1 a2 ⟨x0, x1⟩ = (Int.tmod x1 a2 == 0) by simp [filtF])
    go_enter Try.func54, Try.ntmps54
    go_wp2
    refine start_ (n := 9) (S := fun W => W.cell? ⟨w.heap.size, 0, none⟩ = some (.int .i64 x0) ∧ W.cell? ⟨w.heap.size, 1, none⟩ = some (.int .i64 x1) ∧ W.cell? ⟨gb, 2, none⟩ = some (.int .i64 a2) ∧ Below w.heap.size w W) (ds := []) #[false, false, false, false, false, false, false, false, false] (by kernel_rfl) rfl rfl hS0 (fun hHeld => ?_)
    refine with_tabW filt.tab5 filt.bits5 (fun HT_ HW_ => ?_)
    clear hS0
    generalize World.drew _ = w0 at hHeld hbk ⊢
    refine take_ (i := 0) (N := (some 17)) (v := ?_) (a' := ?_) #[true, false, false, false, false, false, false, false, false] rfl rfl (take_ofW HT_.out HW_.out (by kernel_rfl)) (fun _ _ _ h => h) (Or.inl ⟨by rfl, ?_⟩) hHeld ?_ ?_
    rotate_left
    · rintro w' ⟨sx0, sx1, sx2, sx3⟩
      go_simp
      (try with_reducible rfl)
    rotate_left
    · simp only [Act.put, List.setIfInBounds_toArray, List.set_cons_zero, List.set_cons_succ, i64_w, i32_w]
      rfl
    refine pure_ (i := 1) (N := (some 18)) (v := ?_) (a' := ?_) #[true, true, false, false, false, false, false, false, false] rfl rfl (any_of HT_.out (by kernel_rfl)) (fun _ _ _ h => h) (Or.inl ⟨by rfl, ?_⟩) ?_ ?_
    rotate_left
    · intro w'
      go_simp
      (try with_reducible rfl)
    rotate_left
    · simp only [Act.put, List.setIfInBounds_toArray, List.set_cons_zero, List.set_cons_succ, i64_w, i32_w]
      rfl
    refine take_ (i := 2) (N := (some 19)) (v := ?_) (a' := ?_) #[true, true, true, false, false, false, false, false, false] rfl rfl (take_ofW HT_.out HW_.out (by kernel_rfl)) (fun _ _ _ h => h) (Or.inl ⟨by rfl, ?_⟩) hHeld ?_ ?_
    rotate_left
    · rintro w' ⟨sx0, sx1, sx2, sx3⟩
      go_simp
      (try with_reducible rfl)
    rotate_left
    · simp only [Act.put, List.setIfInBounds_toArray, List.set_cons_zero, List.set_cons_succ, i64_w, i32_w]
      rfl
    refine pure_ (i := 3) (N := (some 20)) (v := ?_) (a' := ?_) #[true, true, true, true, false, false, false, false, false] rfl rfl (any_of HT_.out (by kernel_rfl)) (fun _ _ _ h => h) (Or.inl ⟨by rfl, ?_⟩) ?_ ?_
    rotate_left
    · intro w'
      go_simp
      (try with_reducible rfl)
    rotate_left
    · simp only [Act.put, List.setIfInBounds_toArray, List.set_cons_zero, List.set_cons_succ, i64_w, i32_w]
      rfl
    refine take_ (i := 4) (N := (some 21)) (v := ?_) (a' := ?_) #[true, true, true, true, true, false, false, false, false] rfl rfl (take_ofW HT_.out HW_.out (by kernel_rfl)) (fun _ _ _ h => h) (Or.inl ⟨by rfl, ?_⟩) hHeld ?_ ?_
    rotate_left
    · rintro w' ⟨sx0, sx1, sx2, sx3⟩
      go_simp
      (try with_reducible rfl)
    rotate_left
    · simp only [Act.put, List.setIfInBounds_toArray, List.set_cons_zero, List.set_cons_succ, i64_w, i32_w]
      rfl
    refine pure_ (i := 5) (N := (some 22)) (v := ?_) (a' := ?_) #[true, true, true, true, true, true, false, false, false] rfl rfl (any_of HT_.out (by kernel_rfl)) (fun _ _ _ h => h) (Or.inl ⟨by rfl, ?_⟩) ?_ ?_
    rotate_left
    · intro w'
      go_simp
      (try with_reducible rfl)
    rotate_left
    · simp only [Act.put, List.setIfInBounds_toArray, List.set_cons_zero, List.set_cons_succ, i64_w, i32_w]
      rfl
    refine pure_ (i := 6) (N := (some 23)) (v := ?_) (a' := ?_) #[true, true, true, true, true, true, true, false, false] rfl rfl (any_of HT_.out (by kernel_rfl)) (fun _ _ _ h => h) (Or.inl ⟨by rfl, ?_⟩) ?_ ?_
    rotate_left
    · intro w'
      go_simp
      (try with_reducible rfl)
    rotate_left
    · simp only [Act.put, List.setIfInBounds_toArray, List.set_cons_zero, List.set_cons_succ, i64_w, i32_w]
      rfl
    refine one_ (i := 7) (N := none) #[true, true, true, true, true, true, true, true, false] rfl rfl (one_of HT_.out (by kernel_rfl)) (by decide) (fun K hK => ?_)
    obtain ⟨q0_, q1_, q2_, hBX⟩ := hHeld
    have tc0 := (blk_cell hbk 0).trans rfl
    have tc1 := (blk_cell hbk 1).trans rfl
    have tf0 := blk_frozen hbk 0
    have tf1 := blk_frozen hbk 1
    refine skip_ (w1 := ?_) (by rfl) rfl ?_ ?_
    rotate_left
    · go_simp
      rfl
    refine hK.out _ _ ⟨(cell_far (by simp) _).trans ((cell_far (by simp) _).trans q0_), (cell_far (by simp) _).trans ((cell_far (by simp) _).trans q1_), (cell_far (by simp; omega) _).trans ((cell_far (by simp; omega) _).trans q2_), below_set (below_set hBX (by simp)) (by simp)⟩ (fun hHeld => ?_)
    clear hK K
    refine pure_ (i := 8) (N := (some 4)) (v := ?_) (a' := ?_) #[true, true, true, true, true, true, true, true, true] rfl rfl (any_of HT_.out (by kernel_rfl)) (fun _ _ _ h => h) (Or.inl ⟨by rfl, ?_⟩) ?_ ?_
    rotate_left
    · intro w'
      go_simp
      (try with_reducible rfl)
    rotate_left
    · simp only [Act.put, List.setIfInBounds_toArray, List.set_cons_zero, List.set_cons_succ, i64_w, i32_w]
      rfl
    refine done_ (done_of HT_.out (by kernel_rfl)) ?_
    go_wp2
    refine bodyPost_ret (results_ct rfl _ _ (w.heap.size + 1) 36 #[.int .i64 x0, .int .i64 x1] (0, 0) _ rfl (by rw [blk_set (blk_set hbk 0 (.int .i64 x0)) 1 (.int .i64 x1)]; rfl) Try.underlying36 rfl (by kernel_rfl)) rfl ?_
    exact ⟨by rw [HF.out]; rfl, hHeld.2.2.2⟩
  have b0 : (a1 == 0) = false := beq_eq_false_iff_ne.2 k0
  have b1 : (a1 == 1) = false := beq_eq_false_iff_ne.2 k1
  have HF := Aside0.mk (show filtF a1 a2 ⟨x0, x1⟩ = decide (x0 < a2) by simp [filtF, k0, k1])
  clear k0 k1 hz
  · go_enter Try.func54, Try.ntmps54
    go_wp2
    refine start_ (n := 8) (S := fun W => W.cell? ⟨w.heap.size, 0, none⟩ = some (.int .i64 x0) ∧ W.cell? ⟨w.heap.size, 1, none⟩ = some (.int .i64 x1) ∧ W.cell? ⟨gb, 2, none⟩ = some (.int .i64 a2) ∧ Below w.heap.size w W) (ds := []) #[false, false, false, false, false, false, false, false] (by kernel_rfl) rfl rfl hS0 (fun hHeld => ?_)
    refine with_tabW filt.tab6 filt.bits6 (fun HT_ HW_ => ?_)
    clear hS0
    generalize World.drew _ = w0 at hHeld hbk ⊢
    refine take_ (i := 0) (N := (some 24)) (v := ?_) (a' := ?_) #[true, false, false, false, false, false, false, false] rfl rfl (take_ofW HT_.out HW_.out (by kernel_rfl)) (fun _ _ _ h => h) (Or.inl ⟨by rfl, ?_⟩) hHeld ?_ ?_
    rotate_left
    · rintro w' ⟨sx0, sx1, sx2, sx3⟩
      go_simp
      (try with_reducible rfl)
    rotate_left
    · simp only [Act.put, List.setIfInBounds_toArray, List.set_cons_zero, List.set_cons_succ, i64_w, i32_w]
      rfl
    refine pure_ (i := 1) (N := (some 25)) (v := ?_) (a' := ?_) #[true, true, false, false, false, false, false, false] rfl rfl (any_of HT_.out (by kernel_rfl)) (fun _ _ _ h => h) (Or.inl ⟨by rfl, ?_⟩) ?_ ?_
    rotate_left
    · intro w'
      go_simp
      (try with_reducible rfl)
    rotate_left
    · simp only [Act.put, List.setIfInBounds_toArray, List.set_cons_zero, List.set_cons_succ, i64_w, i32_w]
      rfl
    refine take_ (i := 2) (N := (some 26)) (v := ?_) (a' := ?_) #[true, true, true, false, false, false, false, false] rfl rfl (take_ofW HT_.out HW_.out (by kernel_rfl)) (fun _ _ _ h => h) (Or.inl ⟨by rfl, ?_⟩) hHeld ?_ ?_
    rotate_left
    · rintro w' ⟨sx0, sx1, sx2, sx3⟩
      go_simp
      (try with_reducible rfl)
    rotate_left
    · simp only [Act.put, List.setIfInBounds_toArray, List.set_cons_zero, List.set_cons_succ, i64_w, i32_w]
      rfl
    refine pure_ (i := 3) (N := (some 27)) (v := ?_) (a' := ?_) #[true, true, true, true, false, false, false, false] rfl rfl (any_of HT_.out (by kernel_rfl)) (fun _ _ _ h => h) (Or.inl ⟨by rfl, ?_⟩) ?_ ?_
    rotate_left
    · intro w'
      go_simp
      (try with_reducible rfl)
    rotate_left
    · simp only [Act.put, List.setIfInBounds_toArray, List.set_cons_zero, List.set_cons_succ, i64_w, i32_w]
      rfl
    refine take_ (i := 4) (N := (some 28)) (v := ?_) (a' := ?_) #[true, true, true, true, true, false, false, false] rfl rfl (take_ofW HT_.out HW_.out (by kernel_rfl)) (fun _ _ _ h => h) (Or.inl ⟨by rfl, ?_⟩) hHeld ?_ ?_
    rotate_left
    · rintro w' ⟨sx0, sx1, sx2, sx3⟩
      go_simp
      (try with_reducible rfl)
    rotate_left
    · simp only [Act.put, List.setIfInBounds_toArray, List.set_cons_zero, List.set_cons_succ, i64_w, i32_w]
      rfl
    refine pure_ (i := 5) (N := (some 29)) (v := ?_) (a' := ?_) #[true, true, true, true, true, true, false, false] rfl rfl (any_of HT_.out (by kernel_rfl)) (fun _ _ _ h => h) (Or.inl ⟨by rfl, ?_⟩) ?_ ?_
    rotate_left
    · intro w'
      go_simp
      (try with_reducible rfl)
    rotate_left
    · simp only [Act.put, List.setIfInBounds_toArray, List.set_cons_zero, List.set_cons_succ, i64_w, i32_w]
      rfl
    refine one_ (i := 6) (N := none) #[true, true, true, true, true, true, true, false] rfl rfl (one_of HT_.out (by kernel_rfl)) (by decide) (fun K hK => ?_)
    obtain ⟨q0_, q1_, q2_, hBX⟩ := hHeld
    have tc0 := (blk_cell hbk 0).trans rfl
    have tc1 := (blk_cell hbk 1).trans rfl
    have tf0 := blk_frozen hbk 0
    have tf1 := blk_frozen hbk 1
    refine skip_ (w1 := ?_) (by rfl) rfl ?_ ?_
    rotate_left
    · go_simp
      rfl
    refine hK.out _ _ ⟨(cell_far (by simp) _).trans ((cell_far (by simp) _).trans q0_), (cell_far (by simp) _).trans ((cell_far (by simp) _).trans q1_), (cell_far (by simp; omega) _).trans ((cell_far (by simp; omega) _).trans q2_), below_set (below_set hBX (by simp)) (by simp)⟩ (fun hHeld => ?_)
    clear hK K
    refine pure_ (i := 7) (N := (some 4)) (v := ?_) (a' := ?_) #[true, true, true, true, true, true, true, true] rfl rfl (any_of HT_.out (by kernel_rfl)) (fun _ _ _ h => h) (Or.inl ⟨by rfl, ?_⟩) ?_ ?_
    rotate_left
    · intro w'
      go_simp
      (try with_reducible rfl)
    rotate_left
    · simp only [Act.put, List.setIfInBounds_toArray, List.set_cons_zero, List.set_cons_succ, i64_w, i32_w]
      rfl
    refine done_ (done_of HT_.out (by kernel_rfl)) ?_
    go_wp2
    refine bodyPost_ret (results_ct rfl _ _ (w.heap.size + 1) 36 #[.int .i64 x0, .int .i64 x1] (0, 0) _ rfl (by rw [blk_set (blk_set hbk 0 (.int .i64 x0)) 1 (.int .i64 x1)]; rfl) Try.underlying36 rfl (by kernel_rfl)) rfl ?_
    exact ⟨by rw [HF.out]; rfl, hHeld.2.2.2⟩
set_option maxHeartbeats 4000000 in
theorem filters_calls (a0 a1 a2 a3 : Int) (A4 : Option Addr) (n4 c4 : Nat) (A : Option Addr) (c : Nat) (l : List (List S36)) (w : World) (hr : Kd.C (Kd.slice 36 k36) w A l.length l) (h1 : 1 ≤ l.length) (hl : (rd_L2 l 0).length ≤ 1000000)
    (hz : a1 = 1 → a2 ≠ 0) :
    Calls Try.prog 28 #[.agg #[.int .u8 a0, .int .u8 a1, .int .i64 a2, .int .i64 a3, .slice A4 n4 c4], .slice A l.length c] w fun e w' => ∃ v, e = .returned v ∧ Kd.R k36 36 w' w.heap.size (fun _ => True) v ((rd_L2 l 0).filter (filtF a1 a2)) ∧ Below w.heap.size w w' := by
  have HLEN : l.length ≤ 9223372036854775807 := hr.2.1
  obtain ⟨ad, A0, c0, eA, q0, hc0, hr0⟩ := at_L2 hr 0 (by omega) (by omega)
  subst eA
  simp only [Int.toNat_zero] at q0
  have e0 : ad.add 0 = ad := by simp [Addr.add]
  rw [e0] at q0
  clear e0
  have h1z : (0 : Int) < (l.length : Int) := by omega
  generalize rd_L2 l 0 = x at q0 hc0 hr0 hl
  have hHB := Aside0.mk (Below.refl w.heap.size w)
  have e : x.filter (filtF a1 a2) = outL (fun y => (y, filtF a1 a2 y)) x := by
    unfold outL
    rw [← List.filterMap_eq_filter]
    rfl
  have eg := enters_of Try.func54 (by kernel_rfl) rfl
  have HC := Aside0.mk (fun W (hB : Below w.heap.size w W) (hb : W.heap[w.heap.size]? = some (.cells #[.int .u8 a0, .int .u8 a1, .int .i64 a2, .int .i64 a3, .slice A4 n4 c4] 24 (0, 0))) =>
    each_calls A0 c0 x 54 #[.pointer (some ⟨w.heap.size, 0, none⟩)] (fun y => (y, filtF a1 a2 y)) eg W (Kd.C_below hr0 hB) hl fun j y hj W2 hB2 => filters_1_calls a0 a1 a2 a3 A4 c4 n4 y w.heap.size W2 ((hB2.block _ (Array.getElem?_eq_some_iff.1 hb).1).trans hb) hz)
  rw [e]
  have q1 := ((below_alloc hHB.out (.cells #[.int .u8 a0, .int .u8 a1, .int .i64 a2, .int .i64 a3, .slice A4 n4 c4] 24)).cell (World.block_lt_of_cell? w _ q0)).trans q0
  clear hr hr0 hz e eg q0
  go_enter Try.func28, Try.ntmps28
  go_wp2_with (go_at_call 52; refine (HC.out _ (below_alloc hHB.out _) (by simpa using heap_alloc_last w _)).mono ?_; rintro e w' ⟨v, rfl, ho, hb⟩; have HO := Aside0.mk ho; have HB := Aside0.mk hb; clear ho hb)
  go_ret
  exact ⟨_, rfl, Kd.R_lower HO.out (by simp), below_step (below_alloc hHB.out _) HB.out⟩
end Go.Proofs.Ytcihpjkjodhdpaa.X
namespace Go.Proofs.Ytcihpjkjodhdpaa.X
set_option linter.unusedVariables false
set_option linter.unusedSimpArgs false
open Go.RowKit Go.Proofs.YtcihpjkjodhdpaaW.PrintWords Go.Proofs.YtcihpjkjodhdpaaW.PrintLast Go.Proofs.YtcihpjkjodhdpaaW.PrintMore
def wfB (x : S36) : Bool := (Lit.int .i64 x.f0).wf && (Lit.int .i64 x.f1).wf
theorem wfB_iff (x : S36) : wfB x = true ↔ wf36 x := by unfold wfB wf36; simp
def okRows (L : List (List S36)) : Bool := L.all fun l => decide (l.length ≤ 1000) && l.all wfB
theorem okRows_mem {L : List (List S36)} (h : okRows L = true) {l : List S36} (hl : l ∈ L) : l.length ≤ 1000 ∧ ∀ x ∈ l, wf36 x := by
  have h1 := List.all_eq_true.1 h l hl
  simp only [Bool.and_eq_true, decide_eq_true_eq] at h1
  exact ⟨h1.1, fun x hx => (wfB_iff x).1 (List.all_eq_true.1 h1.2 x hx)⟩
theorem rd_mem {L : List (List S36)} {i : Int} (h0 : 0 ≤ i) (h1 : i < L.length) : rd_L2 L i ∈ L := by
  unfold rd_L2
  rw [List.getD_eq_getElem?_getD, List.getElem?_eq_getElem (by omega)]
  exact List.getElem_mem _
theorem flatten_le {L : List (List S36)} (h : okRows L = true) : L.flatten.length ≤ L.length * 1000 := by
  induction L with
  | nil => simp
  | cons l r ih =>
    have h1 := okRows_mem h (List.mem_cons_self)
    have h2 := ih (by unfold okRows at *; simp only [List.all_cons, Bool.and_eq_true] at h ⊢; exact h.2)
    simp only [List.flatten_cons, List.length_append, List.length_cons]
    omega
def doesL (k a b : Int) (L : List (List S36)) : List S36 :=
  if k = 2 then (rd_L2 L 0).map (mapF a b) else if k = 3 then (rd_L2 L 0).filter (filtF a b) else if k = 5 then redL a (rd_L2 L 0) else if k = 6 then joinL (rd_L2 L 0) (rd_L2 L 1) else L.flatten
def opers_Run.f (a0 a1 a2 _a3 : Int) (_l : List Int) (L : List (List S36)) : Option (List S36 × Int) :=
  if numB a0 a1 a2 = false then some ([], 130) else if (L.length : Int) ≠ arityI a0 then some ([], 100) else if okRows L = true ∧ 0 ≤ a1 then some (srt (doesL a0 a1 a2 L), 0) else none
theorem opers_Run.calls (a0_0 : Int) (a0_1 : Int) (a0_2 : Int) (a0_3 : Int) (A0_4 : Option Addr) (c0_4 : Nat) (l0_4 : List Int) (A1 : Option Addr) (c1 : Nat) (l1 : List (List (S36))) (r1 : List (S36)) (r2 : Int) (w : World) (hr0_4 : Kd.C (Kd.int .i64) w A0_4 l0_4.length l0_4) (hc0_4 : l0_4.length ≤ c0_4) (hr1 : Kd.C (Kd.slice 36 k36) w A1 l1.length l1) (hc1 : l1.length ≤ c1) (h : opers_Run.f a0_0 a0_1 a0_2 a0_3 l0_4 l1 = some (r1, r2)) :
    Calls Try.prog 12 #[.agg #[.int .u8 a0_0, .int .u8 a0_1, .int .i64 a0_2, .int .i64 a0_3, .slice A0_4 l0_4.length c0_4], .slice A1 l1.length c1] w fun e w' => ∃ v0_ : Value, e = .returned (.tuple #[v0_, .int .i64 r2]) ∧ Kd.R k36 36 w' w.heap.size (fun _ => True) v0_ r1 ∧ Below w.heap.size w w' := by
  unfold opers_Run.f at h
  have hm : l1.length ≤ 9223372036854775807 := hr1.2.1
  by_cases hn : numB a0_0 a0_1 a0_2 = false
  · rw [if_pos hn] at h
    simp only [Option.some.injEq, Prod.mk.injEq] at h
    obtain ⟨rfl, rfl⟩ := h
    exact (run_bad a0_0 a0_1 a0_2 a0_3 A0_4 _ c0_4 A1 _ c1 w hn).mono fun e w' ⟨he, hb⟩ => ⟨_, he, Kd.R_nil _ _ _ _ _, hb⟩
  rw [if_neg hn] at h
  have hn1 : numB a0_0 a0_1 a0_2 = true := by simpa using hn
  by_cases hp : (l1.length : Int) ≠ arityI a0_0
  · rw [if_pos hp] at h
    simp only [Option.some.injEq, Prod.mk.injEq] at h
    obtain ⟨rfl, rfl⟩ := h
    exact (run_ports a0_0 a0_1 a0_2 a0_3 A0_4 _ c0_4 A1 _ c1 w hn1 hp hm).mono fun e w' ⟨he, hb⟩ => ⟨_, he, Kd.R_nil _ _ _ _ _, hb⟩
  rw [if_neg hp] at h
  have hp1 : (l1.length : Int) = arityI a0_0 := Decidable.not_not.1 hp
  by_cases hk : okRows l1 = true ∧ 0 ≤ a0_1
  · rw [if_pos hk] at h
    simp only [Option.some.injEq, Prod.mk.injEq] at h
    obtain ⟨rfl, rfl⟩ := h
    obtain ⟨hok, ha⟩ := hk
    have fin : ∀ {Good : List S36 → Prop}, (∀ out, Good out → srt out = srt (doesL a0_0 a0_1 a0_2 l1)) →
        (Calls Try.prog 12 #[.agg #[.int .u8 a0_0, .int .u8 a0_1, .int .i64 a0_2, .int .i64 a0_3, .slice A0_4 l0_4.length c0_4], .slice A1 l1.length c1] w fun e w' => ∃ v out, e = .returned (.tuple #[v, .int .i64 0]) ∧ Kd.R k36 36 w' w.heap.size (fun _ => True) v (srt out) ∧ Good out ∧ Below w.heap.size w w') →
        Calls Try.prog 12 #[.agg #[.int .u8 a0_0, .int .u8 a0_1, .int .i64 a0_2, .int .i64 a0_3, .slice A0_4 l0_4.length c0_4], .slice A1 l1.length c1] w fun e w' => ∃ v0_ : Value, e = .returned (.tuple #[v0_, .int .i64 0]) ∧ Kd.R k36 36 w' w.heap.size (fun _ => True) v0_ (srt (doesL a0_0 a0_1 a0_2 l1)) ∧ Below w.heap.size w w' :=
      fun hG hC => hC.mono fun e w' ⟨v, out, he, hr, hg, hb⟩ => ⟨v, he, by rw [← hG out hg]; exact hr, hb⟩
    by_cases k2 : a0_0 = 2
    · subst k2
      have hl1 : 1 ≤ l1.length := by simp [arityI] at hp1; omega
      obtain ⟨hlen, hwf⟩ := okRows_mem hok (rd_mem (i := 0) (by omega) (by omega))
      refine fin (Good := fun out => out = (rd_L2 l1 0).map (mapF a0_1 a0_2)) (fun out ho => by rw [ho]; rfl) (run_hit 2 a0_1 a0_2 a0_3 A0_4 _ c0_4 A1 _ c1 w 27 0 rfl (enters_of Try.func27 (by kernel_rfl) rfl) _ hn1 hp1 hm fun W hB => ?_)
      have hz : a0_1 = 0 ∨ a0_1 = 1 ∨ a0_1 = 2 ∨ a0_2 ≠ 0 := by
        simp [numB] at hn1
        omega
      exact (maps_calls 2 a0_1 a0_2 0 none 0 0 A1 c1 l1 W (Kd.C_below hr1 hB) hl1 (by omega) hz).mono fun e w' ⟨v, he, hr, hb⟩ => ⟨v, _, he, hr, hb, rfl, by rw [List.length_map]; omega⟩
    by_cases k3 : a0_0 = 3
    · subst k3
      have hl1 : 1 ≤ l1.length := by simp [arityI] at hp1; omega
      obtain ⟨hlen, hwf⟩ := okRows_mem hok (rd_mem (i := 0) (by omega) (by omega))
      refine fin (Good := fun out => out = (rd_L2 l1 0).filter (filtF a0_1 a0_2)) (fun out ho => by rw [ho]; rfl) (run_hit 3 a0_1 a0_2 a0_3 A0_4 _ c0_4 A1 _ c1 w 28 1 rfl (enters_of Try.func28 (by kernel_rfl) rfl) _ hn1 hp1 hm fun W hB => ?_)
      have hz : a0_1 = 1 → a0_2 ≠ 0 := by
        simp [numB] at hn1
        omega
      exact (filters_calls 3 a0_1 a0_2 0 none 0 0 A1 c1 l1 W (Kd.C_below hr1 hB) hl1 (by omega) hz).mono fun e w' ⟨v, he, hr, hb⟩ => ⟨v, _, he, hr, hb, rfl, by have := List.length_filter_le (filtF a0_1 a0_2) (rd_L2 l1 0); omega⟩
    by_cases k5 : a0_0 = 5
    · subst k5
      have hl1 : 1 ≤ l1.length := by simp [arityI] at hp1; omega
      obtain ⟨hlen, hwf⟩ := okRows_mem hok (rd_mem (i := 0) (by omega) (by omega))
      refine fin (Good := fun out => OutIs (redS a0_1 (rd_L2 l1 0)) (fun _ => false) out) (fun out ho => srt_perm (outIs_perm ho)) (run_hit 5 a0_1 a0_2 a0_3 A0_4 _ c0_4 A1 _ c1 w 29 2 rfl (enters_of Try.func29 (by kernel_rfl) rfl) _ hn1 hp1 hm fun W hB => ?_)
      exact (reduces_calls 5 a0_1 a0_2 0 none 0 0 A1 c1 l1 W (Kd.C_below hr1 hB) hl1 (by omega) hwf).mono fun e w' ⟨v, out, he, hr, hb, hg, hl⟩ => ⟨v, out, he, hr, hb, hg, by omega⟩
    by_cases k6 : a0_0 = 6
    · subst k6
      have hl1 : 2 ≤ l1.length := by simp [arityI] at hp1; omega
      obtain ⟨hlen0, hwf0⟩ := okRows_mem hok (rd_mem (i := 0) (by omega) (by omega))
      obtain ⟨hlen1, hwf1⟩ := okRows_mem hok (rd_mem (i := 1) (by omega) (by omega))
      refine fin (Good := fun out => out = joinL (rd_L2 l1 0) (rd_L2 l1 1)) (fun out ho => by rw [ho]; rfl) (run_hit 6 a0_1 a0_2 a0_3 A0_4 _ c0_4 A1 _ c1 w 30 3 rfl (enters_of Try.func30 (by kernel_rfl) rfl) _ hn1 hp1 hm fun W hB => ?_)
      have hj := joinL_length (rd_L2 l1 0) (rd_L2 l1 1)
      have hj2 : (rd_L2 l1 0).length * (rd_L2 l1 1).length ≤ 1000 * 1000 := Nat.mul_le_mul hlen0 hlen1
      exact (joins_calls 6 a0_1 a0_2 0 none 0 0 A1 c1 l1 W (Kd.C_below hr1 hB) hl1 hlen0 hlen1 hwf0 hwf1).mono fun e w' ⟨v, he, hr, hb⟩ => ⟨v, _, he, hr, hb, rfl, by omega⟩
    · have har : l1.length ≤ 2 := by
        unfold arityI at hp1
        split at hp1 <;> (try split at hp1) <;> (try split at hp1) <;> omega
      have hfl := flatten_le hok
      have hd : doesL a0_0 a0_1 a0_2 l1 = l1.flatten := by unfold doesL; rw [if_neg k2, if_neg k3, if_neg k5, if_neg k6]
      refine fin (Good := fun out => out = srt l1.flatten) (fun out ho => by rw [ho, hd]; exact srt_perm (List.mergeSort_perm _ _)) (run_else a0_0 a0_1 a0_2 a0_3 A0_4 _ c0_4 A1 _ c1 w ?_ _ hn1 hp1 hm fun W hB => ?_)
      · simp [rm4, Instr.findNow, Instr.sameNow, beq_eq_false_iff_ne.2 k2, beq_eq_false_iff_ne.2 k3, beq_eq_false_iff_ne.2 k5, beq_eq_false_iff_ne.2 k6]
      · exact (passes_calls a0_0 a0_1 a0_2 0 none 0 0 A1 c1 l1 W (Kd.C_below hr1 hB) (by omega)).mono fun e w' ⟨v, he, hr, hb⟩ => ⟨v, _, he, hr, hb, rfl, by rw [srt_length]; omega⟩
  · rw [if_neg hk] at h
    cases h
def value_Add.f (L : List (List S36)) : Option (List S36) := if L.flatten.length ≤ 1000000 then some (srt L.flatten) else none
end Go.Proofs.Ytcihpjkjodhdpaa.X
namespace Go.Proofs.Ytcihpjkjodhdpaa.X
set_option linter.unusedVariables false
set_option linter.unusedSimpArgs false
open Go.RowKit Go.Proofs.YtcihpjkjodhdpaaW.PrintWords Go.Proofs.YtcihpjkjodhdpaaW.PrintLast Go.Proofs.YtcihpjkjodhdpaaW.PrintMore
open Go.ChangeShapes Go.WideShapes
section
variable {H : Type} {enc : TypeId × Value → H} {W : World} {fuel : Nat} {x : DataW H × List MemPlace} {cs : List Value}
theorem open_ins (h : DataW.trod enc Try.prog W 0 (fun _ => true) true fuel 22 cs = some x) : ∃ (A : Option Addr) (c : Nat) (xs : List Int), cs = [.slice A xs.length c] ∧ xs.length ≤ c ∧ (Kd.int .i64).C W A xs.length xs := by
  rcases open_ints Try.underlying22 Try.underlying3 (by kernel_rfl) h with ⟨rfl, _⟩ | ⟨a, len, cap, zs, rfl, _, hl, hm, hz, _, hcell, _⟩
  · exact ⟨none, 0, [], rfl, Nat.le_refl _, rfl, by simp, fun h => absurd h (Nat.not_lt_zero _)⟩
  · simp only [if_true] at hz
    have hlen : (zs.take len).length = len := by rw [List.length_take]; omega
    refine ⟨some a, cap, zs.take len, by rw [hlen], by omega, ?_⟩
    rw [hlen]
    refine Kd.C_of_reads (d := (0 : Int)) ⟨hlen, ?_, fun _ => ⟨a, rfl, fun j hj => ?_⟩⟩
    · unfold maxLen at hm; omega
    · rw [hcell j (by omega)]
      congr 2
      simp [List.getD_eq_getElem?_getD, List.getElem?_take, hj]
set_option maxRecDepth 10000 in
theorem open_node (h : DataW.trod enc Try.prog W 0 (fun _ => true) true fuel 24 cs = some x) : ∃ (y : S24) (A : Option Addr) (c : Nat), cs = [.int .u8 y.f0, .int .u8 y.f1, .int .i64 y.f2, .int .i64 y.f3, .slice A y.f4.length c] ∧ y.f4.length ≤ c ∧ (Kd.int .i64).C W A y.f4.length y.f4 ∧ (Lit.int .u8 y.f0).wf = true ∧ (Lit.int .u8 y.f1).wf = true ∧ (Lit.int .i64 y.f2).wf = true := by
  obtain ⟨xs, n, _, _, hl, hlen, hf⟩ := DataW.trod_struct Try.underlying24 h
  have hc : Try.prog.cellsOf 24 = 5 := by kernel_rfl
  have hc5 : Try.prog.cellsOf 5 = 1 := by kernel_rfl
  have hc2 : Try.prog.cellsOf 2 = 1 := by kernel_rfl
  have hc3 : Try.prog.cellsOf 3 = 1 := by kernel_rfl
  have hc22 : Try.prog.cellsOf 22 = 1 := by kernel_rfl
  rw [hc] at hl
  match cs, hl with
  | [c0, c1, c2, c3, c4], _ =>
    match xs, hlen with
    | [y0, y1, y2, y3, y4], _ =>
      have h0 : DataW.trod enc Try.prog W 0 (fun _ => true) true n 5 (([c0, c1, c2, c3, c4].drop 0).take (Try.prog.cellsOf 5)) = some y0 := hf 0 _ rfl
      rw [hc5] at h0
      replace h0 : DataW.trod enc Try.prog W 0 (fun _ => true) true n 5 [c0] = some y0 := h0
      have h1 : DataW.trod enc Try.prog W 0 (fun _ => true) true n 5 (([c0, c1, c2, c3, c4].drop 1).take (Try.prog.cellsOf 5)) = some y1 := hf 1 _ rfl
      rw [hc5] at h1
      replace h1 : DataW.trod enc Try.prog W 0 (fun _ => true) true n 5 [c1] = some y1 := h1
      have h2 : DataW.trod enc Try.prog W 0 (fun _ => true) true n 2 (([c0, c1, c2, c3, c4].drop 2).take (Try.prog.cellsOf 2)) = some y2 := hf 2 _ rfl
      rw [hc2] at h2
      replace h2 : DataW.trod enc Try.prog W 0 (fun _ => true) true n 2 [c2] = some y2 := h2
      have h3 : DataW.trod enc Try.prog W 0 (fun _ => true) true n 3 (([c0, c1, c2, c3, c4].drop 3).take (Try.prog.cellsOf 3)) = some y3 := hf 3 _ rfl
      rw [hc3] at h3
      replace h3 : DataW.trod enc Try.prog W 0 (fun _ => true) true n 3 [c3] = some y3 := h3
      have h4 : DataW.trod enc Try.prog W 0 (fun _ => true) true n 22 (([c0, c1, c2, c3, c4].drop 4).take (Try.prog.cellsOf 22)) = some y4 := hf 4 _ rfl
      rw [hc22] at h4
      replace h4 : DataW.trod enc Try.prog W 0 (fun _ => true) true n 22 [c4] = some y4 := h4
      obtain ⟨z0, e0, _, w0⟩ := DataW.trod_int Try.underlying5 h0
      obtain ⟨z1, e1, _, w1⟩ := DataW.trod_int Try.underlying5 h1
      obtain ⟨z2, e2, _, w2⟩ := DataW.trod_int Try.underlying2 h2
      obtain ⟨z3, e3, _, _⟩ := DataW.trod_int Try.underlying3 h3
      obtain ⟨A, c, l, e4, l4, g4⟩ := open_ins h4
      simp only [List.cons.injEq, and_true] at e0 e1 e2 e3 e4
      subst e0 e1 e2 e3 e4
      exact ⟨⟨z0, z1, z2, z3, l⟩, A, c, rfl, l4, g4, w0, w1, w2⟩
instance : Inhabited S36 := ⟨z36⟩
end
end Go.Proofs.Ytcihpjkjodhdpaa.X
namespace Go.Proofs.Ytcihpjkjodhdpaa.X
open Go.RowKit Go.Proofs.YtcihpjkjodhdpaaW.PrintWords Go.Proofs.YtcihpjkjodhdpaaW.PrintLast Go.Proofs.YtcihpjkjodhdpaaW.PrintMore
attribute [local go_sem] max2_int min2_int max_two min_two
set_option linter.unusedVariables false
set_option linter.unusedSimpArgs false
def opers_Waits.f (a0 : Int) : Option (Bool) := if a0 = 5 then (some true) else (some (a0 == 6))
set_option maxHeartbeats 8000000 in
set_option maxRecDepth 100000 in
theorem opers_Waits.calls (a0 : Int) (r : Bool) (w : World) (h : opers_Waits.f a0 = some r) :
    Calls Try.prog 15 #[.int .u8 a0] w fun e w' => e = .returned (.bool r) ∧ Drawn0 w w' := by
  have H : (if a0 = 5 then (some true) else (some (a0 == 6))) = some r := h
  clear h
  by_cases c2 : a0 = 5
  · rw [if_pos c2] at H
    have c2b0 : (a0 == 5) = true := beq_iff_eq.mpr c2
    have c2b1 : (a0 != 5) = false := bne_eq_false_iff_eq.mpr c2
    clear c2
    obtain rfl := Option.some.inj H
    go_enter Try.func15, Try.ntmps15
    go_wp2
    go_ret
    exact ⟨by first | rfl | (simp; done) | (simp [*]; done), by repeat (first | exact Drawn0.refl _ | apply Drawn0.step)⟩
  · rw [if_neg c2] at H
    have c2b0 : (a0 == 5) = false := beq_eq_false_iff_ne.mpr c2
    have c2b1 : (a0 != 5) = true := bne_iff_ne.mpr c2
    obtain rfl := Option.some.inj H
    go_enter Try.func15, Try.ntmps15
    go_wp2
    go_ret
    exact ⟨by first | rfl | (simp; done) | (simp [*]; done), by repeat (first | exact Drawn0.refl _ | apply Drawn0.step)⟩
def opers_modulo.f (a0 : Int) (a1 : Int) : Option (Int) := if a1 = 0 then (none) else (some (Int.tmod (wrap64 ((Int.tmod a0 a1) + a1)) a1))
set_option maxHeartbeats 8000000 in
set_option maxRecDepth 100000 in
theorem opers_modulo.calls (a0 : Int) (a1 : Int) (r : Int) (w : World) (h : opers_modulo.f a0 a1 = some r) :
    Calls Try.prog 44 #[.int .i64 a0, .int .i64 a1] w fun e w' => e = .returned (.int .i64 r) ∧ Drawn0 w w' := by
  have H : (if a1 = 0 then (none) else (some (Int.tmod (wrap64 ((Int.tmod a0 a1) + a1)) a1))) = some r := h
  clear h
  by_cases c3 : a1 = 0
  · rw [if_pos c3] at H
    exact absurd H (by simp)
  · rw [if_neg c3] at H
    have c3b0 : (a1 == 0) = false := beq_eq_false_iff_ne.mpr c3
    have c3b1 : (a1 != 0) = true := bne_iff_ne.mpr c3
    obtain rfl := Option.some.inj H
    go_enter Try.func44, Try.ntmps44
    go_wp2
    go_ret
    exact ⟨by first | rfl | (simp; done) | (simp [*]; done), by repeat (first | exact Drawn0.refl _ | apply Drawn0.step)⟩
def opers_Of.j0 : Nat → Int → Int → Bool → Int → Int → Int → Int → List Int → Int → Int → Option (Int)
  | 0, _, _, _, _, _, _, _, _, _, _ => none
  | k + 1, x2, x3, x9, x134000, x134001, x134002, x134003, x134004, x135000, x135001 => if x9 = true then (some (-1)) else ((opers_Waits.f x134000).bind fun t135 => (if t135 = true then ((opers_modulo.f x135000 x3).bind fun t136 => (some t136)) else (some x2)))
def opers_Of.f (k : Nat) (a0_0 : Int) (a0_1 : Int) (a0_2 : Int) (a0_3 : Int) (l0_4 : List Int) (a1_0 : Int) (a1_1 : Int) (a2 : Int) (a3 : Int) : Option (Int) := if a3 < 1 then (opers_Of.j0 k a2 a3 true a0_0 a0_1 a0_2 a0_3 l0_4 a1_0 a1_1) else (if a3 > 64 then (opers_Of.j0 k a2 a3 true a0_0 a0_1 a0_2 a0_3 l0_4 a1_0 a1_1) else (if a2 < 0 then (opers_Of.j0 k a2 a3 true a0_0 a0_1 a0_2 a0_3 l0_4 a1_0 a1_1) else (opers_Of.j0 k a2 a3 (decide (a2 ≥ a3)) a0_0 a0_1 a0_2 a0_3 l0_4 a1_0 a1_1)))
set_option maxHeartbeats 8000000 in
set_option maxRecDepth 100000 in
theorem opers_Of.calls (k : Nat) (a0_0 : Int) (a0_1 : Int) (a0_2 : Int) (a0_3 : Int) (A0_4 : Option Addr) (c0_4 : Nat) (l0_4 : List Int) (a1_0 : Int) (a1_1 : Int) (a2 : Int) (a3 : Int) (r : Int) (w : World) (hr0_4 : Kd.C (Kd.int .i64) w A0_4 l0_4.length l0_4) (hc0_4 : l0_4.length ≤ c0_4) (h : opers_Of.f k a0_0 a0_1 a0_2 a0_3 l0_4 a1_0 a1_1 a2 a3 = some r) :
    Calls Try.prog 19 #[.agg #[.int .u8 a0_0, .int .u8 a0_1, .int .i64 a0_2, .int .i64 a0_3, .slice A0_4 l0_4.length c0_4], .agg #[.int .i64 a1_0, .int .i64 a1_1], .int .i64 a2, .int .i64 a3] w fun e w' => e = .returned (.int .i64 r) ∧ Below w.heap.size w w' := by
  have hu24 := Try.underlying24
  have hu36 := Try.underlying36
  have HR0_4 := Aside0.mk hr0_4
  have HC0_4 := Aside0.mk hc0_4
  clear hr0_4 hc0_4
  have HB := Aside0.mk (Below.refl w.heap.size w)
  have H : (if a3 < 1 then (opers_Of.j0 k a2 a3 true a0_0 a0_1 a0_2 a0_3 l0_4 a1_0 a1_1) else (if a3 > 64 then (opers_Of.j0 k a2 a3 true a0_0 a0_1 a0_2 a0_3 l0_4 a1_0 a1_1) else (if a2 < 0 then (opers_Of.j0 k a2 a3 true a0_0 a0_1 a0_2 a0_3 l0_4 a1_0 a1_1) else (opers_Of.j0 k a2 a3 (decide (a2 ≥ a3)) a0_0 a0_1 a0_2 a0_3 l0_4 a1_0 a1_1)))) = some r := h
  clear h
  have HC5 := Aside0.mk H
  clear H
  go_enter Try.func19, Try.ntmps19
  go_upto_region 1 with (first | ((with_reducible refine gate_dst (N := 4) rfl ?_); refine box_event ?hg (N := 4) ?hd (cs := #[.int .u8 a0_0, .int .u8 a0_1, .int .i64 a0_2, .int .i64 a0_3, .slice A0_4 l0_4.length c0_4]) (t := 24) ?hr ?_; (case hd => rfl); (case hg => rfl); (case hr => first | (go_simp; done) | (go_simp; rfl)); intro gb133 hg w6 hbox hb; have n0_ := Aside0.mk (below_step (by repeat (first | (with_reducible first | exact HB.out | apply below_alloc | apply pw_below_drewN | apply below_drew1) | exact HB.out)) hb); have n1_ := Aside0.mk (hbox); have n2_ := Aside0.mk ((by rw [hg]; exact (below_size (by repeat (first | (with_reducible first | exact HB.out | apply below_alloc | apply pw_below_drewN | apply below_drew1) | exact HB.out))) : w.heap.size ≤ gb133)); have n3_ := Aside0.mk ((by rw [hg]; exact (below_size (by repeat (first | (with_reducible first | exact HB.out | apply below_alloc | apply pw_below_drewN | apply below_drew1) | exact HB.out))) : w.heap.size ≤ gb133)); clear HB; have HB := n0_; have BK133 := n1_; have GW133 := n2_; have GE133 := n3_; clear n0_ n1_ n2_ n3_; clear hb hbox hg) | ((with_reducible refine gate_dst (N := 5) rfl ?_); refine box_event ?hg (N := 5) ?hd (cs := #[.int .i64 a1_0, .int .i64 a1_1]) (t := 36) ?hr ?_; (case hd => rfl); (case hg => rfl); (case hr => first | (go_simp; done) | (go_simp; rfl)); intro gb134 hg w7 hbox hb; have n0_ := Aside0.mk (blk_below (g := gb133) (o := .cells #[.int .u8 a0_0, .int .u8 a0_1, .int .i64 a0_2, .int .i64 a0_3, .slice A0_4 l0_4.length c0_4] 24 (0, 0)) (by (with_reducible repeat (first | refine blk_drewN ?_ _ | refine blk_drew ?_ | refine blk_alloc ?_ _)); exact BK133.out) hb); have n1_ := Aside0.mk (below_step (by repeat (first | (with_reducible first | exact HB.out | apply below_alloc | apply pw_below_drewN | apply below_drew1 | refine below_set ?_ GE133.out) | exact HB.out)) hb); have n2_ := Aside0.mk (hbox); have n3_ := Aside0.mk ((by rw [hg]; exact (below_size (by repeat (first | (with_reducible first | exact HB.out | apply below_alloc | apply pw_below_drewN | apply below_drew1 | refine below_set ?_ GE133.out) | exact HB.out))) : w.heap.size ≤ gb134)); have n4_ := Aside0.mk ((by rw [hg]; exact (below_size (by repeat (first | (with_reducible first | exact HB.out | apply below_alloc | apply pw_below_drewN | apply below_drew1 | refine below_set ?_ GE133.out) | exact HB.out))) : w.heap.size ≤ gb134)); have n5_ := Aside0.mk ((by rw [hg]; exact Nat.ne_of_lt (blk_lt (g := gb133) (o := .cells #[.int .u8 a0_0, .int .u8 a0_1, .int .i64 a0_2, .int .i64 a0_3, .slice A0_4 l0_4.length c0_4] 24 (0, 0)) (by (with_reducible repeat (first | refine blk_drewN ?_ _ | refine blk_drew ?_ | refine blk_alloc ?_ _)); exact BK133.out)) : gb133 ≠ gb134)); have n6_ := Aside0.mk ((by rw [hg]; exact Nat.ne_of_gt (blk_lt (g := gb133) (o := .cells #[.int .u8 a0_0, .int .u8 a0_1, .int .i64 a0_2, .int .i64 a0_3, .slice A0_4 l0_4.length c0_4] 24 (0, 0)) (by (with_reducible repeat (first | refine blk_drewN ?_ _ | refine blk_drew ?_ | refine blk_alloc ?_ _)); exact BK133.out)) : gb134 ≠ gb133)); clear BK133; clear HB; have BK133 := n0_; have HB := n1_; have BK134 := n2_; have GW134 := n3_; have GE134 := n4_; have NB133_134 := n5_; have NB134_133 := n6_; clear n0_ n1_ n2_ n3_ n4_ n5_ n6_; clear hb hbox hg))
  (try simp only [Act.put, List.setIfInBounds_toArray, List.set_cons_zero, List.set_cons_succ])
  go_cut [9] (fun v9 wc => ∃ (kq : Nat) (x9_4 : Bool), v9 = .bool x9_4 ∧ Aside0 (opers_Of.j0 kq a2 a3 x9_4 a0_0 a0_1 a0_2 a0_3 l0_4 a1_0 a1_1 = some r) ∧ Aside0 (kq ≤ k) ∧ Aside0 (wc.heap[gb133]? = some (.cells #[.int .u8 a0_0, .int .u8 a0_1, .int .i64 a0_2, .int .i64 a0_3, (.slice A0_4 l0_4.length c0_4)] 24 (0, 0))) ∧ Aside0 (wc.heap[gb134]? = some (.cells #[.int .i64 a1_0, .int .i64 a1_1] 36 (0, 0))) ∧ Aside0 (Below w.heap.size w wc))
  case first =>
    have H := HC5.out
    clear HC5
    by_cases c8 : a3 < 1
    · rw [if_pos c8] at H
      have c8b0 : decide (a3 < 1) = true := decide_eq_true c8
      clear c8
      (first | rw [c8b0] | (simp only [i64_w, i32_w]; rw [c8b0]) | skip)
      have H' := Aside0.mk H
      clear H
      go_wp2
      go_meet
      case rel => exact ⟨_, (true), (by first | rfl | (simp; done) | (simp [*]; done)), H', ⟨by first | omega | exact Nat.le_refl _⟩, ⟨by (with_reducible repeat (first | refine blk_drewN ?_ _ | refine blk_drew ?_ | refine blk_alloc ?_ _)); exact BK133.out⟩, ⟨by (with_reducible repeat (first | refine blk_drewN ?_ _ | refine blk_drew ?_ | refine blk_alloc ?_ _)); exact BK134.out⟩, ⟨by repeat (first | (with_reducible first | exact HB.out | apply below_alloc | apply pw_below_drewN | apply below_drew1 | refine below_set ?_ GE133.out | refine below_set ?_ GE134.out) | exact HB.out)⟩⟩
    · rw [if_neg c8] at H
      have c8b0 : decide (a3 < 1) = false := decide_eq_false c8
      clear c8
      (first | rw [c8b0] | (simp only [i64_w, i32_w]; rw [c8b0]) | skip)
      by_cases c9 : a3 > 64
      · rw [if_pos c9] at H
        have c9b0 : decide (64 < a3) = true := decide_eq_true c9
        clear c9
        have H' := Aside0.mk H
        clear H
        go_wp2
        go_meet
        case rel => exact ⟨_, (true), (by first | rfl | (simp; done) | (simp [*]; done)), H', ⟨by first | omega | exact Nat.le_refl _⟩, ⟨by (with_reducible repeat (first | refine blk_drewN ?_ _ | refine blk_drew ?_ | refine blk_alloc ?_ _)); exact BK133.out⟩, ⟨by (with_reducible repeat (first | refine blk_drewN ?_ _ | refine blk_drew ?_ | refine blk_alloc ?_ _)); exact BK134.out⟩, ⟨by repeat (first | (with_reducible first | exact HB.out | apply below_alloc | apply pw_below_drewN | apply below_drew1 | refine below_set ?_ GE133.out | refine below_set ?_ GE134.out) | exact HB.out)⟩⟩
      · rw [if_neg c9] at H
        have c9b0 : decide (64 < a3) = false := decide_eq_false c9
        clear c9
        by_cases c10 : a2 < 0
        · rw [if_pos c10] at H
          have c10b0 : decide (a2 < 0) = true := decide_eq_true c10
          clear c10
          have H' := Aside0.mk H
          clear H
          go_wp2
          go_meet
          case rel => exact ⟨_, (true), (by first | rfl | (simp; done) | (simp [*]; done)), H', ⟨by first | omega | exact Nat.le_refl _⟩, ⟨by (with_reducible repeat (first | refine blk_drewN ?_ _ | refine blk_drew ?_ | refine blk_alloc ?_ _)); exact BK133.out⟩, ⟨by (with_reducible repeat (first | refine blk_drewN ?_ _ | refine blk_drew ?_ | refine blk_alloc ?_ _)); exact BK134.out⟩, ⟨by repeat (first | (with_reducible first | exact HB.out | apply below_alloc | apply pw_below_drewN | apply below_drew1 | refine below_set ?_ GE133.out | refine below_set ?_ GE134.out) | exact HB.out)⟩⟩
        · rw [if_neg c10] at H
          have c10b0 : decide (a2 < 0) = false := decide_eq_false c10
          clear c10
          have H' := Aside0.mk H
          clear H
          go_wp2
          go_meet
          case rel => exact ⟨_, (decide (a2 ≥ a3)), (by first | rfl | (simp; done) | (simp [*]; done)), H', ⟨by first | omega | exact Nat.le_refl _⟩, ⟨by (with_reducible repeat (first | refine blk_drewN ?_ _ | refine blk_drew ?_ | refine blk_alloc ?_ _)); exact BK133.out⟩, ⟨by (with_reducible repeat (first | refine blk_drewN ?_ _ | refine blk_drew ?_ | refine blk_alloc ?_ _)); exact BK134.out⟩, ⟨by repeat (first | (with_reducible first | exact HB.out | apply below_alloc | apply pw_below_drewN | apply below_drew1 | refine below_set ?_ GE133.out | refine below_set ?_ GE134.out) | exact HB.out)⟩⟩
  case rest =>
    clear HC5
    try clear c1
    try clear p2
    try clear c8
    try clear c8b0
    try clear c9
    try clear c9b0
    try clear c10
    try clear c10b0
    obtain ⟨kq, x9_4, rfl, HA, HJ4, BK133, BK134, HB⟩ := hcut
    cases kq with
    | zero => exact absurd HA.out (by simp [opers_Of.j0])
    | succ kj4 =>
      have H := HA.out
      clear HA
      simp only [opers_Of.j0] at H
      by_cases c11 : x9_4 = true
      · subst c11
        have H1 : (some (-1)) = some r := by rw [if_pos rfl] at H; exact H
        clear H
        have H := H1
        clear H1
        obtain rfl := Option.some.inj H
        go_wp2
        go_ret
        exact ⟨by first | rfl | (simp [errW_none, errW_some] <;> rfl) | (simp [*, errW_none, errW_some] <;> rfl), by repeat (first | (with_reducible first | exact HB.out | apply below_alloc | apply pw_below_drewN | apply below_drew1 | refine below_set ?_ GE133.out | refine below_set ?_ GE134.out) | exact HB.out)⟩
      · replace c11 := Bool.eq_false_iff.mpr c11
        subst c11
        have H1 : ((opers_Waits.f a0_0).bind fun t135 => (if t135 = true then ((opers_modulo.f a1_0 a3).bind fun t136 => (some t136)) else (some a2))) = some r := by rw [if_neg (show ¬ (false = true) by decide)] at H; exact H
        clear H
        have H := H1
        clear H1
        replace H := Option.bind_eq_some_iff.mp H
        obtain ⟨t135, A120, H⟩ := H
        replace H : (if t135 = true then ((opers_modulo.f a1_0 a3).bind fun t136 => (some t136)) else (some a2)) = some r := H
        have A12 := Aside0.mk A120
        clear A120
        by_cases c13 : t135 = true
        · subst c13
          have H1 : ((opers_modulo.f a1_0 a3).bind fun t136 => (some t136)) = some r := by rw [if_pos rfl] at H; exact H
          clear H
          have H := H1
          clear H1
          replace H := Option.bind_eq_some_iff.mp H
          obtain ⟨t136, A140, H⟩ := H
          replace H : (some t136) = some r := H
          have A14 := Aside0.mk A140
          clear A140
          obtain rfl := Option.some.inj H
          have hnb15 := NB133_134.out
          have hnc15 := NB134_133.out
          have hcz16_0 : wc.cell? ⟨gb133, 0, none⟩ = some (.int .u8 a0_0) := (blk_cell BK133.out 0).trans rfl
          have hcz16_1 : wc.cell? ⟨gb133, 1, none⟩ = some (.int .u8 a0_1) := (blk_cell BK133.out 1).trans rfl
          have hcz16_2 : wc.cell? ⟨gb133, 2, none⟩ = some (.int .i64 a0_2) := (blk_cell BK133.out 2).trans rfl
          have hcz16_3 : wc.cell? ⟨gb133, 3, none⟩ = some (.int .i64 a0_3) := (blk_cell BK133.out 3).trans rfl
          have hcz16_4 : wc.cell? ⟨gb133, 4, none⟩ = some (.slice A0_4 l0_4.length c0_4) := (blk_cell BK133.out 4).trans rfl
          have hfz16_0 := blk_frozen BK133.out 0
          have hfz16_1 := blk_frozen BK133.out 1
          have hfz16_2 := blk_frozen BK133.out 2
          have hfz16_3 := blk_frozen BK133.out 3
          have hfz16_4 := blk_frozen BK133.out 4
          go_wp2_with (first | ((with_reducible refine gate_callee (f := 15) rfl ?_); refine goesL_ (some 28) rfl rfl Try.func15 (by kernel_rfl) rfl #[.int .u8 a0_0] rfl (by (try simp only [List.map_toArray, List.map_cons, List.map_nil]); first | done | rfl | (simp only [List.length_drop, List.length_take]; rfl)) ?_; (with_reducible refine (opers_Waits.calls a0_0 true _ A12.out).mono ?_); rintro e w' ⟨rfl, ⟨nd, rfl⟩⟩; refine ⟨_, rfl, ?_⟩; have hcz17_0 : wc.cell? ⟨gb134, 0, none⟩ = some (.int .i64 a1_0) := (blk_cell BK134.out 0).trans rfl; have hcz17_1 : wc.cell? ⟨gb134, 1, none⟩ = some (.int .i64 a1_1) := (blk_cell BK134.out 1).trans rfl; have hfz17_0 := blk_frozen BK134.out 0; have hfz17_1 := blk_frozen BK134.out 1) | ((with_reducible refine gate_callee (f := 44) rfl ?_); refine goesL_ (some 32) rfl rfl Try.func44 (by kernel_rfl) rfl #[.int .i64 a1_0, .int .i64 a3] rfl (by (try simp only [List.map_toArray, List.map_cons, List.map_nil]); first | done | rfl | (simp only [List.length_drop, List.length_take]; rfl)) ?_; (with_reducible refine (opers_modulo.calls a1_0 a3 t136 _ A14.out).mono ?_); rintro e w' ⟨rfl, ⟨nd, rfl⟩⟩; refine ⟨_, rfl, ?_⟩))
          go_ret
          exact ⟨by first | rfl | (simp [errW_none, errW_some] <;> rfl) | (simp [*, errW_none, errW_some] <;> rfl), by repeat (first | (with_reducible first | exact HB.out | apply below_alloc | apply pw_below_drewN | apply below_drew1 | refine below_set ?_ GE133.out | refine below_set ?_ GE134.out) | exact HB.out)⟩
        · replace c13 := Bool.eq_false_iff.mpr c13
          subst c13
          have H1 : (some a2) = some r := by rw [if_neg (show ¬ (false = true) by decide)] at H; exact H
          clear H
          have H := H1
          clear H1
          obtain rfl := Option.some.inj H
          have hnb18 := NB133_134.out
          have hnc18 := NB134_133.out
          have hcz19_0 : wc.cell? ⟨gb133, 0, none⟩ = some (.int .u8 a0_0) := (blk_cell BK133.out 0).trans rfl
          have hcz19_1 : wc.cell? ⟨gb133, 1, none⟩ = some (.int .u8 a0_1) := (blk_cell BK133.out 1).trans rfl
          have hcz19_2 : wc.cell? ⟨gb133, 2, none⟩ = some (.int .i64 a0_2) := (blk_cell BK133.out 2).trans rfl
          have hcz19_3 : wc.cell? ⟨gb133, 3, none⟩ = some (.int .i64 a0_3) := (blk_cell BK133.out 3).trans rfl
          have hcz19_4 : wc.cell? ⟨gb133, 4, none⟩ = some (.slice A0_4 l0_4.length c0_4) := (blk_cell BK133.out 4).trans rfl
          have hfz19_0 := blk_frozen BK133.out 0
          have hfz19_1 := blk_frozen BK133.out 1
          have hfz19_2 := blk_frozen BK133.out 2
          have hfz19_3 := blk_frozen BK133.out 3
          have hfz19_4 := blk_frozen BK133.out 4
          go_wp2_with (first | ((with_reducible refine gate_callee (f := 15) rfl ?_); refine goesL_ (some 28) rfl rfl Try.func15 (by kernel_rfl) rfl #[.int .u8 a0_0] rfl (by (try simp only [List.map_toArray, List.map_cons, List.map_nil]); first | done | rfl | (simp only [List.length_drop, List.length_take]; rfl)) ?_; (with_reducible refine (opers_Waits.calls a0_0 false _ A12.out).mono ?_); rintro e w' ⟨rfl, ⟨nd, rfl⟩⟩; refine ⟨_, rfl, ?_⟩))
          go_ret
          exact ⟨by first | rfl | (simp [errW_none, errW_some] <;> rfl) | (simp [*, errW_none, errW_some] <;> rfl), by repeat (first | (with_reducible first | exact HB.out | apply below_alloc | apply pw_below_drewN | apply below_drew1 | refine below_set ?_ GE133.out | refine below_set ?_ GE134.out) | exact HB.out)⟩
def tailracelaw13_r.f (a0 : Int) (a1 : Int) : Option (Int × Int) := some (a0, a1)
set_option maxHeartbeats 8000000 in
set_option maxRecDepth 100000 in
theorem tailracelaw13_r.calls (a0 : Int) (a1 : Int) (r1 : Int) (r2 : Int) (w : World) (h : tailracelaw13_r.f a0 a1 = some (r1, r2)) :
    Calls Try.prog 24 #[.int .i64 a0, .int .i64 a1] w fun e w' => e = .returned (.agg #[.int .i64 r1, .int .i64 r2]) ∧ Below w.heap.size w w' := by
  have hu36 := Try.underlying36
  have HB := Aside0.mk (Below.refl w.heap.size w)
  have H : (some (a0, a1)) = some (r1, r2) := h
  clear h
  simp only [Option.some.injEq, Prod.mk.injEq] at H
  obtain ⟨rfl, rfl⟩ := H
  go_enter Try.func24, Try.ntmps24
  go_wp2_with (first | ((with_reducible refine gate_dst (N := 4) rfl ?_); refine box_event ?hg (N := 4) ?hd (cs := #[.int .i64 0, .int .i64 0]) (t := 36) ?hr ?_; (case hd => rfl); (case hg => rfl); (case hr => first | (go_simp; done) | (go_simp; rfl)); intro gb137 hg w3 hbox hb; have n0_ := Aside0.mk (below_step (by repeat (first | (with_reducible first | exact HB.out | apply below_alloc | apply pw_below_drewN | apply below_drew1) | exact HB.out)) hb); have n1_ := Aside0.mk (hbox); have n2_ := Aside0.mk ((by rw [hg]; exact (below_size (by repeat (first | (with_reducible first | exact HB.out | apply below_alloc | apply pw_below_drewN | apply below_drew1) | exact HB.out))) : w.heap.size ≤ gb137)); have n3_ := Aside0.mk ((by rw [hg]; exact (below_size (by repeat (first | (with_reducible first | exact HB.out | apply below_alloc | apply pw_below_drewN | apply below_drew1) | exact HB.out))) : w.heap.size ≤ gb137)); clear HB; have HB := n0_; have BK137 := n1_; have GW137 := n2_; have GE137 := n3_; clear n0_ n1_ n2_ n3_; clear hb hbox hg; have hcz4_0 : w3.cell? ⟨gb137, 0, none⟩ = some (.int .i64 0) := (blk_cell BK137.out 0).trans rfl; have hcz4_1 : w3.cell? ⟨gb137, 1, none⟩ = some (.int .i64 0) := (blk_cell BK137.out 1).trans rfl; have hfz4_0 := blk_frozen BK137.out 0; have hfz4_1 := blk_frozen BK137.out 1))
  refine bodyPost_ret (results_cell_row rfl _ _ gb137 36 #[.int .i64 a0, .int .i64 a1] (0, 0) _ rfl (by (with_reducible repeat (first | refine blk_drewN ?_ _ | refine blk_drew ?_ | refine blk_alloc ?_ _)); refine blk_put (cs := #[.int .i64 a0, .int .i64 0]) ?_ 1 _ rfl; (with_reducible repeat (first | refine blk_drewN ?_ _ | refine blk_drew ?_ | refine blk_alloc ?_ _)); refine blk_put (cs := #[.int .i64 0, .int .i64 0]) ?_ 0 _ rfl; (with_reducible repeat (first | refine blk_drewN ?_ _ | refine blk_drew ?_ | refine blk_alloc ?_ _)); exact BK137.out) Try.underlying36 rfl (by kernel_rfl)) rfl ?_
  exact ⟨by first | rfl | (simp [errW_none, errW_some] <;> rfl) | (simp [*, errW_none, errW_some] <;> rfl), by repeat (first | (with_reducible first | exact HB.out | apply below_alloc | apply pw_below_drewN | apply below_drew1 | refine below_set ?_ GE137.out) | exact HB.out)⟩
def tailraceref10_numbers.f (a0_0 : Int) (a0_1 : Int) (a0_2 : Int) (a0_3 : Int) (l0_4 : List Int) : Option (Bool) := if a0_0 = 2 then (if a0_1 ≤ 3 then (if a0_1 = 3 then (some (decide (a0_2 > 0))) else (some true)) else (some false)) else (if a0_0 = 3 then (if a0_1 ≤ 2 then (if a0_1 = 1 then (some (decide (a0_2 > 0))) else (some true)) else (some false)) else (if a0_0 = 5 then (if a0_1 ≤ 3 then (some (a0_2 == 0)) else (some false)) else (if a0_0 = 9 then (if a0_1 = 0 then (if a0_2 ≥ 1 then (some (decide (a0_2 ≤ 16))) else (some false)) else (some false)) else (if a0_0 ≥ 1 then (if a0_0 ≤ 10 then (if a0_1 = 0 then (some (a0_2 == 0)) else (some false)) else (some false)) else (some false)))))
mutual
def tailraceref10_ports.j0 : Nat → List (S24) → Int → Int → Int → Int → Int → List Int → Option (Bool)
  | 0, _, _, _, _, _, _, _ => none
  | k + 1, x0, x5, x148000, x148001, x148002, x148003, x148004 => tailraceref10_ports.l0 k x0 x5 0 x148000 x148001 x148002 x148003 x148004
def tailraceref10_ports.l0 : Nat → List (S24) → Int → Int → Int → Int → Int → Int → List Int → Option (Bool)
  | 0, _, _, _, _, _, _, _, _ => none
  | k + 1, x0, x5, x6, x148000, x148001, x148002, x148003, x148004 => if x6 < (x148004.length : Int) then (if 0 ≤ x6 then (if (rd x148004 x6) < 0 then (some false) else (if (rd x148004 x6) ≥ (x0.length : Int) then (some false) else (if 0 ≤ (rd x148004 x6) then (if (rd x148004 x6) < (x0.length : Int) then (if ((rd_T24 x0 (rd x148004 x6)).f0) = 10 then (some false) else (tailraceref10_ports.l0 k x0 x5 (wrap64 (x6 + 1)) x148000 x148001 x148002 x148003 x148004)) else (none)) else (none)))) else (none)) else (some ((x148004.length : Int) == x5))
end
def tailraceref10_ports.f (k : Nat) (l0 : List (S24)) (a1_0 : Int) (a1_1 : Int) (a1_2 : Int) (a1_3 : Int) (l1_4 : List Int) : Option (Bool) := if a1_0 = 1 then (tailraceref10_ports.j0 k l0 0 a1_0 a1_1 a1_2 a1_3 l1_4) else (if a1_0 = 4 then (tailraceref10_ports.j0 k l0 2 a1_0 a1_1 a1_2 a1_3 l1_4) else (if a1_0 = 6 then (tailraceref10_ports.j0 k l0 2 a1_0 a1_1 a1_2 a1_3 l1_4) else (tailraceref10_ports.j0 k l0 1 a1_0 a1_1 a1_2 a1_3 l1_4)))
end Go.Proofs.Ytcihpjkjodhdpaa.X
namespace Go.Proofs.Ytcihpjkjodhdpaa.X
set_option linter.unusedVariables false
set_option linter.unusedSimpArgs false
open Go.RowKit Go.Proofs.YtcihpjkjodhdpaaW.PrintWords Go.Proofs.YtcihpjkjodhdpaaW.PrintLast Go.Proofs.YtcihpjkjodhdpaaW.PrintMore
theorem flat_encR_at (l : List S36) (j i : Nat) (p : S36) (u : Value) (hj : l[j]? = some p) (hu : (encR p)[i]? = some u) : (l.flatMap encR)[j * 2 + i]? = some u := by
  have hlt : j < l.length := (List.getElem?_eq_some_iff.1 hj).1
  have hi : i < 2 := by
    have := (List.getElem?_eq_some_iff.1 hu).1
    simpa [encR] using this
  rw [flat_encR_get l _ (by omega)]
  have e1 : (j * 2 + i) / 2 = j := by omega
  have e2 : (j * 2 + i) % 2 = i := by omega
  rw [e1, e2, List.getD_eq_getElem?_getD, hj]
  exact hu
theorem reads_row (W : World) (l : List S36) (hl : l.length ≤ 9223372036854775807) :
    Kd.C k36 (W.alloc (.cells (l.flatMap encR).toArray 36)) (some ⟨W.heap.size, 0, none⟩) l.length l := by
  refine ⟨rfl, hl, fun _ => ⟨_, rfl, fun j p hj => ⟨encR p, rfl, k36_mk _ p, fun i u hu => ?_⟩⟩⟩
  rw [add_plain]
  have h := flat_encR_at l j i p u hj hu
  show (W.alloc (.cells (l.flatMap encR).toArray 36)).cell? ⟨W.heap.size, j * 2 + i, none⟩ = some u
  simp [go_sem, h]
theorem reads_rows2 (W : World) (A B : Option Addr) (c d : Nat) (l m : List S36) (hl : Kd.C k36 W A l.length l) (hc : l.length ≤ c) (hm : Kd.C k36 W B m.length m) (hd : m.length ≤ d) :
    Kd.C (Kd.slice 36 k36) (W.alloc (.cells #[.slice A l.length c, .slice B m.length d] 28)) (some ⟨W.heap.size, 0, none⟩) ([l, m] : List (List S36)).length [l, m] := by
  refine ⟨rfl, by simp, fun _ => ⟨_, rfl, fun j p hj => ?_⟩⟩
  match j, hj with
  | 0, hj =>
    simp at hj; subst hj
    refine ⟨[.slice A l.length c], rfl, ⟨A, c, rfl, hc, Kd.C_alloc hl _⟩, fun i u hu => ?_⟩
    match i, hu with
    | 0, hu =>
      simp at hu; subst hu
      rw [add_plain]
      simp [Kd.slice, go_sem]
    | i + 1, hu => simp at hu
  | 1, hj =>
    simp at hj; subst hj
    refine ⟨[.slice B m.length d], rfl, ⟨B, d, rfl, hd, Kd.C_alloc hm _⟩, fun i u hu => ?_⟩
    match i, hu with
    | 0, hu =>
      simp at hu; subst hu
      rw [add_plain]
      simp [Kd.slice, go_sem]
    | i + 1, hu => simp at hu
  | j + 2, hj => simp at hj
theorem size_al (W : World) (o : Obj) : (W.alloc o).heap.size = W.heap.size + 1 := by simp [go_sem]
def TK (w : World) (L : List (Option Addr × List S36)) (M : List (Addr × Value)) (W : World) : Prop :=
  Below w.heap.size w W ∧ (∀ x ∈ L, Kd.C k36 W x.1 x.2.length x.2) ∧ ∀ y ∈ M, W.cell? y.1 = some y.2
section
variable {w W W' : World} {L : List (Option Addr × List S36)} {M : List (Addr × Value)}
theorem TK.step (h : TK w L M W) (hb : Below W.heap.size W W') : TK w L M W' :=
  ⟨below_step h.1 hb, fun x hx => Kd.C_below (h.2.1 x hx) hb, fun y hy => pw_cell_below hb (h.2.2 y hy)⟩
theorem TK.alloc (h : TK w L M W) (o : Obj) : TK w L M (W.alloc o) := h.step (below_alloc (Below.refl W.heap.size W) o)
theorem TK.addL {A : Option Addr} {l : List S36} (h : TK w L M W) (hr : Kd.C k36 W A l.length l) : TK w ((A, l) :: L) M W :=
  ⟨h.1, fun x hx => by rcases List.mem_cons.1 hx with rfl | hx; exact hr; exact h.2.1 x hx, h.2.2⟩
theorem TK.addM {a : Addr} {v : Value} (h : TK w L M W) (hr : W.cell? a = some v) : TK w L ((a, v) :: M) W :=
  ⟨h.1, h.2.1, fun x hx => by rcases List.mem_cons.1 hx with rfl | hx; exact hr; exact h.2.2 x hx⟩
end
theorem srt_one (x : S36) : srt [x] = [x] := (srt_unique (by simp) (List.Perm.refl _)).symm
theorem srt_two (x y : S36) (h : (!(ltOf cmpR) y x) = true) : srt [x, y] = [x, y] := (srt_unique (by simpa using h) (List.Perm.refl _)).symm
theorem wf_run1 : opers_Run.f 2 3 4 0 [] [[⟨9, -3⟩]] = some ([⟨1, -3⟩], 0) := by
  have h : opers_Run.f 2 3 4 0 [] [[⟨9, -3⟩]] = some (srt [⟨1, -3⟩], 0) := by kernel_rfl
  rw [h, srt_one]
theorem wf_run2 : opers_Run.f 5 0 0 0 [] [[⟨1, 2⟩, ⟨2, 7⟩, ⟨1, 3⟩]] = some ([⟨1, 5⟩, ⟨2, 7⟩], 0) := by
  have h : opers_Run.f 5 0 0 0 [] [[⟨1, 2⟩, ⟨2, 7⟩, ⟨1, 3⟩]] = some (srt [⟨1, 5⟩, ⟨2, 7⟩], 0) := by kernel_rfl
  rw [h, srt_two _ _ (by rw [ltOf_cmpR]; decide)]
theorem wf_run3 : opers_Run.f 6 0 0 0 [] [[⟨1, 2⟩, ⟨1, 3⟩, ⟨2, 9⟩], [⟨1, 10⟩]] = some ([⟨1, 12⟩, ⟨1, 13⟩], 0) := by
  have h : opers_Run.f 6 0 0 0 [] [[⟨1, 2⟩, ⟨1, 3⟩, ⟨2, 9⟩], [⟨1, 10⟩]] = some (srt [⟨1, 12⟩, ⟨1, 13⟩], 0) := by kernel_rfl
  rw [h, srt_two _ _ (by rw [ltOf_cmpR]; decide)]
theorem wf_time1 : timeC 9 2 ⟨1, 4, 0, 0, 0⟩ = (⟨1, 4, 1, 0, 0⟩, true) := by kernel_rfl
theorem wf_time2 : timeC 9 2 ⟨1, 4, 1, 0, 0⟩ = (St.zero, false) := by kernel_rfl
theorem wf_of1 : opers_Of.f 3 5 0 0 0 [] (-3) 0 1 4 = some 1 := by kernel_rfl
theorem wf_of2 : opers_Of.f 3 2 0 0 0 [] (-3) 0 1 4 = some 1 := by kernel_rfl
theorem wf_al1 : tailraceref12_Alike.f 5 [⟨1, -3⟩] [⟨1, -3⟩] = some true := by kernel_rfl
theorem wf_al2 : tailraceref12_Alike.f 5 [⟨1, 5⟩, ⟨2, 7⟩] [⟨1, 5⟩, ⟨2, 7⟩] = some true := by kernel_rfl
theorem wf_al3 : tailraceref12_Alike.f 5 [⟨1, 12⟩, ⟨1, 13⟩] [⟨1, 12⟩, ⟨1, 13⟩] = some true := by kernel_rfl
theorem nil_ints (W : World) : Kd.C (Kd.int .i64) W none ([] : List Int).length [] := Kd.C_nil _ _
theorem run1_calls (W : World) :
    Calls Try.prog 12 #[.agg #[.int .u8 2, .int .u8 3, .int .i64 4, .int .i64 0, .slice none 0 0], .slice (some ⟨W.heap.size + 1, 0, none⟩) 1 1] ((W.alloc (.cells #[.int .i64 9, .int .i64 (-3)] 36)).alloc (.cells #[.slice (some ⟨W.heap.size, 0, none⟩) 1 1] 28))
      fun e w' => ∃ A c, e = .returned (.tuple #[.slice A 1 c, .int .i64 0]) ∧ 1 ≤ c ∧ Kd.C k36 w' A ([⟨1, -3⟩] : List S36).length [⟨1, -3⟩] ∧ Below ((W.alloc (.cells #[.int .i64 9, .int .i64 (-3)] 36)).alloc (.cells #[.slice (some ⟨W.heap.size, 0, none⟩) 1 1] 28)).heap.size ((W.alloc (.cells #[.int .i64 9, .int .i64 (-3)] 36)).alloc (.cells #[.slice (some ⟨W.heap.size, 0, none⟩) 1 1] 28)) w' := by
  have h1 := reads_row W [⟨9, -3⟩] (by simp)
  have h2 := reads_one _ _ 1 1 _ rfl h1 (Nat.le_refl _)
  rw [size_al] at h2
  refine (opers_Run.calls 2 3 4 0 none 0 [] _ 1 _ _ _ _ (nil_ints _) (Nat.le_refl _) h2 (Nat.le_refl _) wf_run1).mono fun e w' ⟨v, he, hr, hb⟩ => ?_
  obtain ⟨A, c, rfl, hc, hr⟩ := Kd.R_reads hr
  exact ⟨A, c, he, hc, hr, hb⟩
theorem run2_calls (W : World) :
    Calls Try.prog 12 #[.agg #[.int .u8 5, .int .u8 0, .int .i64 0, .int .i64 0, .slice none 0 0], .slice (some ⟨W.heap.size + 1, 0, none⟩) 1 1] ((W.alloc (.cells #[.int .i64 1, .int .i64 2, .int .i64 2, .int .i64 7, .int .i64 1, .int .i64 3] 36)).alloc (.cells #[.slice (some ⟨W.heap.size, 0, none⟩) 3 3] 28))
      fun e w' => ∃ A c, e = .returned (.tuple #[.slice A 2 c, .int .i64 0]) ∧ 2 ≤ c ∧ Kd.C k36 w' A ([⟨1, 5⟩, ⟨2, 7⟩] : List S36).length [⟨1, 5⟩, ⟨2, 7⟩] ∧ Below ((W.alloc (.cells #[.int .i64 1, .int .i64 2, .int .i64 2, .int .i64 7, .int .i64 1, .int .i64 3] 36)).alloc (.cells #[.slice (some ⟨W.heap.size, 0, none⟩) 3 3] 28)).heap.size ((W.alloc (.cells #[.int .i64 1, .int .i64 2, .int .i64 2, .int .i64 7, .int .i64 1, .int .i64 3] 36)).alloc (.cells #[.slice (some ⟨W.heap.size, 0, none⟩) 3 3] 28)) w' := by
  have h1 := reads_row W [⟨1, 2⟩, ⟨2, 7⟩, ⟨1, 3⟩] (by simp)
  have h2 := reads_one _ _ 3 3 _ rfl h1 (Nat.le_refl _)
  rw [size_al] at h2
  refine (opers_Run.calls 5 0 0 0 none 0 [] _ 1 _ _ _ _ (nil_ints _) (Nat.le_refl _) h2 (Nat.le_refl _) wf_run2).mono fun e w' ⟨v, he, hr, hb⟩ => ?_
  obtain ⟨A, c, rfl, hc, hr⟩ := Kd.R_reads hr
  exact ⟨A, c, he, hc, hr, hb⟩
theorem run3_calls (W : World) (A : Option Addr) (h1 : Kd.C k36 W A ([⟨1, 2⟩, ⟨1, 3⟩, ⟨2, 9⟩] : List S36).length [⟨1, 2⟩, ⟨1, 3⟩, ⟨2, 9⟩]) :
    Calls Try.prog 12 #[.agg #[.int .u8 6, .int .u8 0, .int .i64 0, .int .i64 0, .slice none 0 0], .slice (some ⟨W.heap.size + 1, 0, none⟩) 2 2] ((W.alloc (.cells #[.int .i64 1, .int .i64 10] 36)).alloc (.cells #[.slice A 3 3, .slice (some ⟨W.heap.size, 0, none⟩) 1 1] 28))
      fun e w' => ∃ A' c, e = .returned (.tuple #[.slice A' 2 c, .int .i64 0]) ∧ 2 ≤ c ∧ Kd.C k36 w' A' ([⟨1, 12⟩, ⟨1, 13⟩] : List S36).length [⟨1, 12⟩, ⟨1, 13⟩] ∧ Below ((W.alloc (.cells #[.int .i64 1, .int .i64 10] 36)).alloc (.cells #[.slice A 3 3, .slice (some ⟨W.heap.size, 0, none⟩) 1 1] 28)).heap.size ((W.alloc (.cells #[.int .i64 1, .int .i64 10] 36)).alloc (.cells #[.slice A 3 3, .slice (some ⟨W.heap.size, 0, none⟩) 1 1] 28)) w' := by
  have h3 := reads_row W [⟨1, 10⟩] (by simp)
  have h2 := reads_rows2 _ _ _ 3 1 _ _ (Kd.C_alloc h1 (.cells (([⟨1, 10⟩] : List S36).flatMap encR).toArray 36)) (Nat.le_refl _) h3 (Nat.le_refl _)
  rw [size_al] at h2
  refine (opers_Run.calls 6 0 0 0 none 0 [] _ 2 _ _ _ _ (nil_ints _) (Nat.le_refl _) h2 (Nat.le_refl _) wf_run3).mono fun e w' ⟨v, he, hr, hb⟩ => ?_
  obtain ⟨A', c, rfl, hc, hr⟩ := Kd.R_reads hr
  exact ⟨A', c, he, hc, hr, hb⟩
theorem time1_calls (W : World) : Calls Try.prog 17 #[.agg #[.int .u8 9, .int .u8 0, .int .i64 2, .int .i64 0, .slice none 0 0], .agg #[.int .i64 1, .int .i64 4, .int .i64 0, .int .i64 0, .int .i64 0]] W fun e w' => e = .returned (.tuple #[.agg #[.int .i64 1, .int .i64 4, .int .i64 1, .int .i64 0, .int .i64 0], .bool true]) ∧ Below W.heap.size W w' := by
  have h := opers_Time_calls 9 0 2 0 none 0 0 ⟨1, 4, 0, 0, 0⟩ W
  rw [wf_time1] at h
  exact h
theorem time2_calls (W : World) : Calls Try.prog 17 #[.agg #[.int .u8 9, .int .u8 0, .int .i64 2, .int .i64 0, .slice none 0 0], .agg #[.int .i64 1, .int .i64 4, .int .i64 1, .int .i64 0, .int .i64 0]] W fun e w' => e = .returned (.tuple #[.agg #[.int .i64 0, .int .i64 0, .int .i64 0, .int .i64 0, .int .i64 0], .bool false]) ∧ Below W.heap.size W w' := by
  have h := opers_Time_calls 9 0 2 0 none 0 0 ⟨1, 4, 1, 0, 0⟩ W
  rw [wf_time2] at h
  exact h
class IsBelow (w w' : World) (p : Prop) : Prop where out : p → Below w.heap.size w w'
instance (w w' : World) : IsBelow w w' (Below w.heap.size w w') := ⟨id⟩
instance (w w' : World) : IsBelow w w' (Drawn0 w w') := ⟨Drawn0.below⟩
theorem AL {w w' : World} {p : Prop} [h : IsBelow w w' p] (hp : p) : Below w.heap.size w w' := h.out hp
theorem r_calls (a0 a1 : Int) (W : World) : Calls Try.prog 24 #[.int .i64 a0, .int .i64 a1] W fun e w' => e = .returned (.agg #[.int .i64 a0, .int .i64 a1]) ∧ Below W.heap.size W w' := tailracelaw13_r.calls a0 a1 a0 a1 W rfl
theorem TK.get {w W : World} {L : List (Option Addr × List S36)} {M : List (Addr × Value)} {A : Option Addr} {l : List S36} (h : TK w L M W) (hx : (A, l) ∈ L) : Kd.C k36 W A l.length l := h.2.1 _ hx
theorem TK.cell {w W : World} {L : List (Option Addr × List S36)} {M : List (Addr × Value)} {a : Addr} {v : Value} (h : TK w L ((a, v) :: M) W) : W.cell? a = some v := h.2.2 (a, v) (List.mem_cons_self ..)
theorem TK.bel {w W : World} {L : List (Option Addr × List S36)} {M : List (Addr × Value)} (h : TK w L M W) : Below w.heap.size w W := h.1
theorem alike1_calls (W : World) (A : Option Addr) (c : Nat) (hc : 1 ≤ c) (h : Kd.C k36 W A ([⟨1, -3⟩] : List S36).length [⟨1, -3⟩]) :
    Calls Try.prog 14 #[.slice A 1 c, .slice (some ⟨W.heap.size, 0, none⟩) 1 1] (W.alloc (.cells #[.int .i64 1, .int .i64 (-3)] 36)) fun e w' => e = .returned (.bool true) ∧ Below W.heap.size W w' :=
  (tailraceref12_Alike.calls 5 _ _ [⟨1, -3⟩] _ _ [⟨1, -3⟩] true _ (Kd.C_alloc h (.cells (([⟨1, -3⟩] : List S36).flatMap encR).toArray 36)) hc (reads_row _ [⟨1, -3⟩] (by simp)) (Nat.le_refl _) wf_al1).mono fun e w' ⟨he, hb⟩ => ⟨he, below_step (below_alloc (Below.refl _ _) _) hb.below⟩
theorem alike2_calls (W : World) (A : Option Addr) (c : Nat) (hc : 2 ≤ c) (h : Kd.C k36 W A ([⟨1, 5⟩, ⟨2, 7⟩] : List S36).length [⟨1, 5⟩, ⟨2, 7⟩]) :
    Calls Try.prog 14 #[.slice A 2 c, .slice (some ⟨W.heap.size, 0, none⟩) 2 2] (W.alloc (.cells #[.int .i64 1, .int .i64 5, .int .i64 2, .int .i64 7] 36)) fun e w' => e = .returned (.bool true) ∧ Below W.heap.size W w' :=
  (tailraceref12_Alike.calls 5 _ _ [⟨1, 5⟩, ⟨2, 7⟩] _ _ [⟨1, 5⟩, ⟨2, 7⟩] true _ (Kd.C_alloc h (.cells (([⟨1, 5⟩, ⟨2, 7⟩] : List S36).flatMap encR).toArray 36)) hc (reads_row _ [⟨1, 5⟩, ⟨2, 7⟩] (by simp)) (Nat.le_refl _) wf_al2).mono fun e w' ⟨he, hb⟩ => ⟨he, below_step (below_alloc (Below.refl _ _) _) hb.below⟩
theorem alike3_calls (W : World) (A : Option Addr) (c : Nat) (hc : 2 ≤ c) (h : Kd.C k36 W A ([⟨1, 12⟩, ⟨1, 13⟩] : List S36).length [⟨1, 12⟩, ⟨1, 13⟩]) :
    Calls Try.prog 14 #[.slice A 2 c, .slice (some ⟨W.heap.size, 0, none⟩) 2 2] (W.alloc (.cells #[.int .i64 1, .int .i64 12, .int .i64 1, .int .i64 13] 36)) fun e w' => e = .returned (.bool true) ∧ Below W.heap.size W w' :=
  (tailraceref12_Alike.calls 5 _ _ [⟨1, 12⟩, ⟨1, 13⟩] _ _ [⟨1, 12⟩, ⟨1, 13⟩] true _ (Kd.C_alloc h (.cells (([⟨1, 12⟩, ⟨1, 13⟩] : List S36).flatMap encR).toArray 36)) hc (reads_row _ [⟨1, 12⟩, ⟨1, 13⟩] (by simp)) (Nat.le_refl _) wf_al3).mono fun e w' ⟨he, hb⟩ => ⟨he, below_step (below_alloc (Below.refl _ _) _) hb.below⟩
theorem of1_calls (W : World) : Calls Try.prog 19 #[.agg #[.int .u8 5, .int .u8 0, .int .i64 0, .int .i64 0, .slice none 0 0], .agg #[.int .i64 (-3), .int .i64 0], .int .i64 1, .int .i64 4] W fun e w' => e = .returned (.int .i64 1) ∧ Below W.heap.size W w' :=
  (opers_Of.calls 3 5 0 0 0 none 0 [] (-3) 0 1 4 1 _ (nil_ints _) (Nat.le_refl _) wf_of1).mono fun e w' ⟨he, hb⟩ => ⟨he, AL hb⟩
theorem of2_calls (W : World) : Calls Try.prog 19 #[.agg #[.int .u8 2, .int .u8 0, .int .i64 0, .int .i64 0, .slice none 0 0], .agg #[.int .i64 (-3), .int .i64 0], .int .i64 1, .int .i64 4] W fun e w' => e = .returned (.int .i64 1) ∧ Below W.heap.size W w' :=
  (opers_Of.calls 3 2 0 0 0 none 0 [] (-3) 0 1 4 1 _ (nil_ints _) (Nat.le_refl _) wf_of2).mono fun e w' ⟨he, hb⟩ => ⟨he, AL hb⟩
theorem waits1_calls (W : World) : Calls Try.prog 15 #[.int .u8 6] W fun e w' => e = .returned (.bool true) ∧ Below W.heap.size W w' := (opers_Waits.calls 6 true _ rfl).mono fun e w' ⟨he, hb⟩ => ⟨he, AL hb⟩
theorem waits2_calls (W : World) : Calls Try.prog 15 #[.int .u8 4] W fun e w' => e = .returned (.bool false) ∧ Below W.heap.size W w' := (opers_Waits.calls 4 false _ rfl).mono fun e w' ⟨he, hb⟩ => ⟨he, AL hb⟩
theorem cell_t7 (W : World) : (W.alloc (.cells #[.int .i64 1, .int .i64 4, .int .i64 1, .int .i64 0, .int .i64 0] 40)).cell? ⟨W.heap.size, 2, none⟩ = some (.int .i64 1) := by simp [go_sem]
end Go.Proofs.Ytcihpjkjodhdpaa.X
namespace Go.Proofs.Ytcihpjkjodhdpaa.X
set_option linter.unusedVariables false
set_option linter.unusedSimpArgs false
open Go.RowKit Go.Proofs.YtcihpjkjodhdpaaW.PrintWords Go.Proofs.YtcihpjkjodhdpaaW.PrintLast Go.Proofs.YtcihpjkjodhdpaaW.PrintMore
def tailracelaw13_works.f : Option Bool := some true
set_option maxHeartbeats 16000000 in
set_option maxRecDepth 100000 in
theorem tailracelaw13_works.calls (r : Bool) (w : World) (h : tailracelaw13_works.f = some r) :
    Calls Try.prog 11 #[] w fun e w' => e = .returned (.bool r) ∧ Below w.heap.size w w' := by
  obtain rfl : true = r := Option.some.inj h
  have HS := Aside0.mk (show TK w [] [] w from ⟨Below.refl _ _, fun x hx => by simp at hx, fun x hx => by simp at hx⟩)
  go_enter Try.func11, Try.ntmps11
  go_wp2_with (first
    | (go_at_call 24; (with_reducible refine (r_calls 1 10 _).mono ?_); rintro e w4 ⟨rfl, hb⟩; replace HS := Aside0.mk (TK.step (TK.addL (TK.alloc HS.out _) (reads_row _ [⟨1, 2⟩, ⟨1, 3⟩, ⟨2, 9⟩] (by simp))) hb); clear hb)
    | (go_at_call 24; (with_reducible refine (r_calls _ _ _).mono ?_); rintro e w1 ⟨rfl, hb⟩; replace HS := Aside0.mk (TK.step (by first | exact HS.out | exact TK.alloc HS.out _) hb); clear hb)
    | (go_at_call 12; (with_reducible refine (run1_calls _).mono ?_); rintro e wr1 ⟨A1, c1, rfl, hc, hr, hb⟩; replace HS := Aside0.mk (TK.addL (TK.step (TK.alloc (TK.alloc HS.out _) _) hb) hr); have HC1 := Aside0.mk hc; clear hr hc; clear hb)
    | (go_at_call 12; (with_reducible refine (run2_calls _).mono ?_); rintro e wr3 ⟨A3, c3, rfl, hc, hr, hb⟩; replace HS := Aside0.mk (TK.addL (TK.step (TK.alloc (TK.alloc HS.out _) _) hb) hr); have HC3 := Aside0.mk hc; clear hr hc; clear hb)
    | (go_at_call 12; (with_reducible refine (run3_calls _ _ (TK.get HS.out (List.mem_cons_self ..))).mono ?_); rintro e wr5 ⟨A5, c5, rfl, hc, hr, hb⟩; replace HS := Aside0.mk (TK.addL (TK.step (TK.alloc (TK.alloc HS.out _) _) hb) hr); have HC5 := Aside0.mk hc; clear hr hc; clear hb)
    | (go_at_call 17; (with_reducible refine (time1_calls _).mono ?_); rintro e wt1 ⟨rfl, hb⟩; replace HS := Aside0.mk (TK.step HS.out hb); clear hb)
    | (go_at_call 17; (with_reducible refine (time2_calls _).mono ?_); rintro e wt2 ⟨rfl, hb⟩; replace HS := Aside0.mk (TK.step (TK.addM (TK.alloc HS.out _) (cell_t7 _)) hb); clear hb)
    | (go_at_call 14; (with_reducible refine (alike1_calls _ _ _ HC1.out (TK.get HS.out (by simp))).mono ?_); rintro e wa1 ⟨rfl, hb⟩; replace HS := Aside0.mk (TK.step HS.out hb); clear hb)
    | (go_at_call 14; (with_reducible refine (alike2_calls _ _ _ HC3.out (TK.get HS.out (by simp))).mono ?_); rintro e wa2 ⟨rfl, hb⟩; replace HS := Aside0.mk (TK.step HS.out hb); clear hb)
    | (go_at_call 14; (with_reducible refine (alike3_calls _ _ _ HC5.out (TK.get HS.out (by simp))).mono ?_); rintro e wa3 ⟨rfl, hb⟩; replace HS := Aside0.mk (TK.step HS.out hb); clear hb)
    | (go_at_call 19; (with_reducible refine (of1_calls _).mono ?_); rintro e wo1 ⟨rfl, hb⟩; replace HS := Aside0.mk (TK.step HS.out hb); clear hb)
    | (go_at_call 19; (with_reducible refine (of2_calls _).mono ?_); rintro e wo2 ⟨rfl, hb⟩; replace HS := Aside0.mk (TK.step HS.out hb); have pd := TK.cell HS.out; clear hb)
    | (go_at_call 15; (with_reducible refine (waits1_calls _).mono ?_); rintro e wv1 ⟨rfl, hb⟩; replace HS := Aside0.mk (TK.step HS.out hb); clear hb)
    | (go_at_call 15; (with_reducible refine (waits2_calls _).mono ?_); rintro e wv2 ⟨rfl, hb⟩; replace HS := Aside0.mk (TK.step HS.out hb); clear hb))
  go_ret
  exact ⟨rfl, TK.bel HS.out⟩
end Go.Proofs.Ytcihpjkjodhdpaa.X
namespace Go.Proofs.Ytcihpjkjodhdpaa.X
set_option linter.unusedVariables false
set_option linter.unusedSimpArgs false
open Go.RowKit Go.Proofs.YtcihpjkjodhdpaaW.PrintWords Go.Proofs.YtcihpjkjodhdpaaW.PrintLast Go.Proofs.YtcihpjkjodhdpaaW.PrintMore
theorem into_same (t : St) (h0 : -9223372036854775808 ≤ t.d) (h1 : t.d ≤ 9223372036854775807) : intoC t = intoR t := by
  obtain ⟨d, e, a, b, c⟩ := t
  simp only at h0 h1
  unfold intoC intoR
  simp only
  by_cases hr : rightB ⟨d, e, a, b, c⟩ = true
  · obtain ⟨i0, i1, i2, i3, i4, i5, i6, i7, i8, i9⟩ := right_in hr
    simp only at i0 i1 i2 i3 i4 i5 i6 i7 i8 i9
    have hw : wrap64 (d + 1) = d + 1 := by unfold wrap64; omega
    rw [hw, if_neg (show ¬ rightB ⟨d, e, a, b, c⟩ = false by rw [hr]; simp)]
    by_cases h3 : d ≥ 3
    · rw [if_pos (by omega), if_pos h3]
    · rw [if_neg (by omega), if_neg h3]
      unfold rightB okLoop at hr
      simp only [Bool.and_eq_true, Bool.or_eq_true, decide_eq_true_eq, beq_iff_eq] at hr
      have hr2 : rightB ⟨d + 1, e, a, b, c⟩ = true := by
        unfold rightB okLoop
        simp only [Bool.and_eq_true, Bool.or_eq_true, decide_eq_true_eq, beq_iff_eq]
        omega
      rw [if_neg (by rw [hr2]; simp), if_neg (by omega)]
      have hd : d = 0 ∨ d = 1 ∨ d = 2 := by omega
      have hl : ¬ St.loop ⟨d, e, a, b, c⟩ (d + 1 - 1).toNat > 0 := by
        rcases hd with rfl | rfl | rfl <;> simp [St.loop] <;> omega
      rw [if_neg hl]
  · have hr' : rightB ⟨d, e, a, b, c⟩ = false := by simpa using hr
    rw [if_pos hr']
    by_cases h3 : wrap64 (d + 1) > 3
    · rw [if_pos h3]
    rw [if_neg h3]
    by_cases h2 : rightB ⟨wrap64 (d + 1), e, a, b, c⟩ = false
    · rw [if_pos h2]
    rw [if_neg h2]
    by_cases h4 : wrap64 (d + 1) < 1
    · rw [if_pos h4]
    rw [if_neg h4]
    by_cases h5 : St.loop ⟨d, e, a, b, c⟩ (wrap64 (d + 1) - 1).toNat > 0
    · rw [if_pos h5]
    · exfalso
      have hw : wrap64 (d + 1) = d + 1 := by unfold wrap64 at h4 h3 ⊢; omega
      rw [hw] at h2 h3 h4 h5
      have h2' : rightB ⟨d + 1, e, a, b, c⟩ = true := by simpa using h2
      unfold rightB okLoop at h2'
      simp only [Bool.and_eq_true, Bool.or_eq_true, decide_eq_true_eq, beq_iff_eq] at h2'
      refine hr ?_
      unfold rightB okLoop
      simp only [Bool.and_eq_true, Bool.or_eq_true, decide_eq_true_eq, beq_iff_eq]
      have hd : d = 0 ∨ d = 1 ∨ d = 2 := by omega
      rcases hd with rfl | rfl | rfl <;> simp [St.loop] at h5 <;> omega
set_option maxRecDepth 20000 in
theorem eqA38 (d : Nat) (w : World) (a b c : Int) : (Op.equalIn (d + 2) 38 (.agg #[.int .i64 a, .int .i64 b, .int .i64 c]) (.agg #[.int .i64 a, .int .i64 b, .int .i64 c])).run Try.prog w = .ok true w := by
  obtain ⟨i, hi⟩ : ∃ i, Try.prog.info? 3 = some i := Option.isSome_iff_exists.1 (by kernel_rfl)
  have hc : Try.prog.cellsOf 3 = 1 := by kernel_rfl
  rw [run_equalIn_array (P := Try.prog) w (d + 1) _ _ Try.underlying38 hi, hc]
  simp only [List.range, List.range.loop, Op.eqItems]
  go_simp
set_option maxRecDepth 20000 in
theorem eqA40 (d : Nat) (w : World) (u0 u1 u2 u3 u4 : Int) : (Op.equalIn (d + 3) 40 (.agg #[.int .i64 u0, .int .i64 u1, .int .i64 u2, .int .i64 u3, .int .i64 u4]) (.agg #[.int .i64 u0, .int .i64 u1, .int .i64 u2, .int .i64 u3, .int .i64 u4])).run Try.prog w = .ok true w := by
  refine eqA_of Try.underlying40 (by kernel_rfl) ?_
  refine eqf_end (by rfl) (by go_simp; rfl) (by go_simp; rfl) (by go_simp) ?_
  refine eqf_end (by rfl) (by go_simp; rfl) (by go_simp; rfl) (by go_simp) ?_
  exact eqf_last (a := .agg #[.int .i64 u2, .int .i64 u3, .int .i64 u4]) (b := .agg #[.int .i64 u2, .int .i64 u3, .int .i64 u4]) (by rfl) (by go_simp) (by go_simp) (eqA38 d w _ _ _)
end Go.Proofs.Ytcihpjkjodhdpaa.X
namespace Go.Proofs.Ytcihpjkjodhdpaa.X
set_option linter.unusedVariables false
set_option linter.unusedSimpArgs false
open Go.RowKit Go.Proofs.YtcihpjkjodhdpaaW.PrintWords Go.Proofs.YtcihpjkjodhdpaaW.PrintLast Go.Proofs.YtcihpjkjodhdpaaW.PrintMore
attribute [local go_sem high] eqA40
theorem time_same (k b : Int) (t : St) (h0 : -9223372036854775808 ≤ t.d) (h1 : t.d ≤ 9223372036854775807) : timeR k b t = timeC k b t := by
  unfold timeR timeC
  rw [into_same t h0 h1]
set_option maxHeartbeats 8000000 in
set_option maxRecDepth 100000 in
theorem tailracelaw13_OpersTime_calls (n0 n1 n2 n3 : Int) (A4 : Option Addr) (m4 c4 : Nat) (t : St) (h0 : -9223372036854775808 ≤ t.d) (h1 : t.d ≤ 9223372036854775807) (w : World) : Calls Try.prog 4 #[.agg #[.int .u8 n0, .int .u8 n1, .int .i64 n2, .int .i64 n3, .slice A4 m4 c4], stV t] w fun e w' => e = .returned (.bool true) ∧ Below w.heap.size w w' := by
  have hs := time_same n0 n2 t h0 h1
  have HC0 := opers_Time_calls n0 n1 n2 n3 A4 m4 c4 t
  have HC1 := ref13_Time_calls n0 n1 n2 n3 A4 m4 c4 t
  rw [hs] at HC1
  clear hs h0 h1
  generalize timeC n0 n2 t = u at HC0 HC1
  obtain ⟨d, e, a, b, c⟩ := t
  obtain ⟨⟨u0, u1, u2, u3, u4⟩, r⟩ := u
  simp only [stV] at HC0 HC1
  replace HC0 := Aside0.mk (HC0 ((w.alloc (.cells #[.int .u8 n0, .int .u8 n1, .int .i64 n2, .int .i64 n3, .slice A4 m4 c4] 24)).alloc (.cells #[.int .i64 d, .int .i64 e, .int .i64 a, .int .i64 b, .int .i64 c] 40)))
  replace HC1 := Aside0.mk HC1
  show Calls Try.prog 4 #[.agg #[.int .u8 n0, .int .u8 n1, .int .i64 n2, .int .i64 n3, .slice A4 m4 c4], .agg #[.int .i64 d, .int .i64 e, .int .i64 a, .int .i64 b, .int .i64 c]] w _
  have HBN := Aside0.mk (blk_alloc (blk_new w (.cells #[.int .u8 n0, .int .u8 n1, .int .i64 n2, .int .i64 n3, .slice A4 m4 c4] 24)) (.cells #[.int .i64 d, .int .i64 e, .int .i64 a, .int .i64 b, .int .i64 c] 40))
  have HB1 := Aside0.mk (show (((w.alloc (.cells #[.int .u8 n0, .int .u8 n1, .int .i64 n2, .int .i64 n3, .slice A4 m4 c4] 24)).alloc (.cells #[.int .i64 d, .int .i64 e, .int .i64 a, .int .i64 b, .int .i64 c] 40))).heap[w.heap.size + 1]? = some (.cells #[.int .i64 d, .int .i64 e, .int .i64 a, .int .i64 b, .int .i64 c] 40 (0, 0)) by simpa using heap_alloc_last (w.alloc (.cells #[.int .u8 n0, .int .u8 n1, .int .i64 n2, .int .i64 n3, .slice A4 m4 c4] 24)) (.cells #[.int .i64 d, .int .i64 e, .int .i64 a, .int .i64 b, .int .i64 c] 40))
  have hHB := Aside0.mk (below_alloc (below_alloc (Below.refl w.heap.size w) (.cells #[.int .u8 n0, .int .u8 n1, .int .i64 n2, .int .i64 n3, .slice A4 m4 c4] 24)) (.cells #[.int .i64 d, .int .i64 e, .int .i64 a, .int .i64 b, .int .i64 c] 40))
  go_enter Try.func4, Try.ntmps4
  go_wp2_with (first | (go_at_call 17; refine HC0.out.mono ?_; rintro e1 w1 ⟨rfl, hb⟩; have HXN := Aside0.mk (blk_below HBN.out hb); have HX1 := Aside0.mk (blk_below HB1.out hb); have HBW := Aside0.mk (below_step hHB.out hb); clear hb; have pn0 := (blk_cell (blk_alloc HXN.out (.cells #[.int .i64 u0, .int .i64 u1, .int .i64 u2, .int .i64 u3, .int .i64 u4] 40)) 0).trans rfl; have pn1 := (blk_cell (blk_alloc HXN.out (.cells #[.int .i64 u0, .int .i64 u1, .int .i64 u2, .int .i64 u3, .int .i64 u4] 40)) 1).trans rfl; have pn2 := (blk_cell (blk_alloc HXN.out (.cells #[.int .i64 u0, .int .i64 u1, .int .i64 u2, .int .i64 u3, .int .i64 u4] 40)) 2).trans rfl; have pn3 := (blk_cell (blk_alloc HXN.out (.cells #[.int .i64 u0, .int .i64 u1, .int .i64 u2, .int .i64 u3, .int .i64 u4] 40)) 3).trans rfl; have pn4 := (blk_cell (blk_alloc HXN.out (.cells #[.int .i64 u0, .int .i64 u1, .int .i64 u2, .int .i64 u3, .int .i64 u4] 40)) 4).trans rfl; have ps0 := (blk_cell (blk_alloc HX1.out (.cells #[.int .i64 u0, .int .i64 u1, .int .i64 u2, .int .i64 u3, .int .i64 u4] 40)) 0).trans rfl; have ps1 := (blk_cell (blk_alloc HX1.out (.cells #[.int .i64 u0, .int .i64 u1, .int .i64 u2, .int .i64 u3, .int .i64 u4] 40)) 1).trans rfl; have ps2 := (blk_cell (blk_alloc HX1.out (.cells #[.int .i64 u0, .int .i64 u1, .int .i64 u2, .int .i64 u3, .int .i64 u4] 40)) 2).trans rfl; have ps3 := (blk_cell (blk_alloc HX1.out (.cells #[.int .i64 u0, .int .i64 u1, .int .i64 u2, .int .i64 u3, .int .i64 u4] 40)) 3).trans rfl; have ps4 := (blk_cell (blk_alloc HX1.out (.cells #[.int .i64 u0, .int .i64 u1, .int .i64 u2, .int .i64 u3, .int .i64 u4] 40)) 4).trans rfl) | (go_at_call 18; refine (HC1.out _).mono ?_; rintro e2 w2 ⟨rfl, hb⟩; have HZ5 := Aside0.mk (blk_below (blk_new w1 (.cells #[.int .i64 u0, .int .i64 u1, .int .i64 u2, .int .i64 u3, .int .i64 u4] 40)) hb); have HBW2 := Aside0.mk (below_step (below_alloc HBW.out (.cells #[.int .i64 u0, .int .i64 u1, .int .i64 u2, .int .i64 u3, .int .i64 u4] 40)) hb); clear hb; have pq0 := (blk_cell (blk_alloc HZ5.out (.cells #[.int .i64 u0, .int .i64 u1, .int .i64 u2, .int .i64 u3, .int .i64 u4] 40)) 0).trans rfl; have pq1 := (blk_cell (blk_alloc HZ5.out (.cells #[.int .i64 u0, .int .i64 u1, .int .i64 u2, .int .i64 u3, .int .i64 u4] 40)) 1).trans rfl; have pq2 := (blk_cell (blk_alloc HZ5.out (.cells #[.int .i64 u0, .int .i64 u1, .int .i64 u2, .int .i64 u3, .int .i64 u4] 40)) 2).trans rfl; have pq3 := (blk_cell (blk_alloc HZ5.out (.cells #[.int .i64 u0, .int .i64 u1, .int .i64 u2, .int .i64 u3, .int .i64 u4] 40)) 3).trans rfl; have pq4 := (blk_cell (blk_alloc HZ5.out (.cells #[.int .i64 u0, .int .i64 u1, .int .i64 u2, .int .i64 u3, .int .i64 u4] 40)) 4).trans rfl) | (go_at_call 11; refine (tailracelaw13_works.calls true _ rfl).mono ?_; rintro e3 w3 ⟨rfl, hb⟩; have HBW3 := Aside0.mk (below_step (below_alloc HBW2.out (.cells #[.int .i64 u0, .int .i64 u1, .int .i64 u2, .int .i64 u3, .int .i64 u4] 40)) hb); clear hb))
  cases r with
  | true =>
    go_ret
    exact ⟨by rfl, HBW3.out⟩
  | false =>
    go_ret
    exact ⟨by rfl, HBW3.out⟩
end Go.Proofs.Ytcihpjkjodhdpaa.X
namespace Go.Proofs.Ytcihpjkjodhdpaa.X
set_option linter.unusedVariables false
set_option linter.unusedSimpArgs false
open Go.RowKit Go.Proofs.YtcihpjkjodhdpaaW.PrintWords Go.Proofs.YtcihpjkjodhdpaaW.PrintLast Go.Proofs.YtcihpjkjodhdpaaW.PrintMore
open Go.ChangeShapes Go.WideShapes
section
variable {H : Type} {enc : TypeId × Value → H} {W : World} {fuel : Nat} {x : DataW H × List MemPlace} {cs : List Value}
set_option maxRecDepth 10000 in
theorem open_loops (h : DataW.trod enc Try.prog W 0 (fun _ => true) true fuel 38 cs = some x) : ∃ a b c : Int, cs = [.int .i64 a, .int .i64 b, .int .i64 c] := by
  obtain ⟨xs, n, _, _, hl, hlen, hf⟩ := DataW.trod_array Try.underlying38 h
  have hc3 : Try.prog.cellsOf 3 = 1 := by kernel_rfl
  have hc38 : Try.prog.cellsOf 38 = 3 := by kernel_rfl
  rw [hc3] at hf
  rw [hc38] at hl
  match cs, hl with
  | [c0, c1, c2], _ =>
    match xs, hlen with
    | [y0, y1, y2], _ =>
      have h0 : DataW.trod enc Try.prog W 0 (fun _ => true) true n 3 [c0] = some y0 := hf 0 (by omega)
      have h1 : DataW.trod enc Try.prog W 0 (fun _ => true) true n 3 [c1] = some y1 := hf 1 (by omega)
      have h2 : DataW.trod enc Try.prog W 0 (fun _ => true) true n 3 [c2] = some y2 := hf 2 (by omega)
      obtain ⟨z0, e0, _, _⟩ := DataW.trod_int Try.underlying3 h0
      obtain ⟨z1, e1, _, _⟩ := DataW.trod_int Try.underlying3 h1
      obtain ⟨z2, e2, _, _⟩ := DataW.trod_int Try.underlying3 h2
      simp only [List.cons.injEq, and_true] at e0 e1 e2
      subst e0 e1 e2
      exact ⟨z0, z1, z2, rfl⟩
set_option maxRecDepth 10000 in
theorem open_stamp (h : DataW.trod enc Try.prog W 0 (fun _ => true) true fuel 40 cs = some x) : ∃ y : St, cs = [.int .i64 y.d, .int .i64 y.e, .int .i64 y.a, .int .i64 y.b, .int .i64 y.c] ∧ (Lit.int .i64 y.d).wf = true := by
  obtain ⟨xs, n, _, _, hl, hlen, hf⟩ := DataW.trod_struct Try.underlying40 h
  have hc : Try.prog.cellsOf 40 = 5 := by kernel_rfl
  have hc3 : Try.prog.cellsOf 3 = 1 := by kernel_rfl
  have hc38 : Try.prog.cellsOf 38 = 3 := by kernel_rfl
  rw [hc] at hl
  match cs, hl with
  | [c0, c1, c2, c3, c4], _ =>
    match xs, hlen with
    | [y0, y1, y2], _ =>
      have h0 : DataW.trod enc Try.prog W 0 (fun _ => true) true n 3 (([c0, c1, c2, c3, c4].drop 0).take (Try.prog.cellsOf 3)) = some y0 := hf 0 _ rfl
      rw [hc3] at h0
      replace h0 : DataW.trod enc Try.prog W 0 (fun _ => true) true n 3 [c0] = some y0 := h0
      have h1 : DataW.trod enc Try.prog W 0 (fun _ => true) true n 3 (([c0, c1, c2, c3, c4].drop 1).take (Try.prog.cellsOf 3)) = some y1 := hf 1 _ rfl
      rw [hc3] at h1
      replace h1 : DataW.trod enc Try.prog W 0 (fun _ => true) true n 3 [c1] = some y1 := h1
      have h2 : DataW.trod enc Try.prog W 0 (fun _ => true) true n 38 (([c0, c1, c2, c3, c4].drop 2).take (Try.prog.cellsOf 38)) = some y2 := hf 2 _ rfl
      rw [hc38] at h2
      replace h2 : DataW.trod enc Try.prog W 0 (fun _ => true) true n 38 [c2, c3, c4] = some y2 := h2
      obtain ⟨z0, e0, _, w0⟩ := DataW.trod_int Try.underlying3 h0
      obtain ⟨z1, e1, _, _⟩ := DataW.trod_int Try.underlying3 h1
      obtain ⟨a, b, c, e2⟩ := open_loops h2
      simp only [List.cons.injEq, and_true] at e0 e1 e2
      obtain ⟨e2, e3, e4⟩ := e2
      subst e0 e1 e2 e3 e4
      exact ⟨⟨z0, z1, a, b, c⟩, rfl, w0⟩
end
end Go.Proofs.Ytcihpjkjodhdpaa.X
