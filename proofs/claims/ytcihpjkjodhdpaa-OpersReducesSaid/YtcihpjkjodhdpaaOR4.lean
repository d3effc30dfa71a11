/- A part of the proof. -/
import Derived.Test.YtcihpjkjodhdpaaOR3
import Derived.Deep.Slices
import Derived.ChangeSlices
import Derived.WideShapes
namespace Go.Proofs.Ytcihpjkjodhdpaa.X
open Go.RowKit Go.Proofs.YtcihpjkjodhdpaaW.PrintWords Go.Proofs.YtcihpjkjodhdpaaW.PrintLast Go.Proofs.YtcihpjkjodhdpaaW.PrintMore
attribute [local go_sem] max2_int min2_int max_two min_two
set_option linter.unusedVariables false
set_option linter.unusedSimpArgs false
mutual
def tailracelaw13_OpersReduces.j0 : Nat → List (S36) → List (S36) → List (S36) → List (S36) → Bool → Option (Bool)
  | 0, _, _, _, _, _ => none
  | k + 1, x0, x3, x5, x7, x60 => if x60 = true then (some false) else (tailracelaw13_OpersReduces.l0 k x0 x3 x5 x7 0 0)
def tailracelaw13_OpersReduces.l0 : Nat → List (S36) → List (S36) → List (S36) → List (S36) → Int → Int → Option (Bool)
  | 0, _, _, _, _, _, _ => none
  | k + 1, x0, x3, x5, x7, x9, x10 => if x10 < (x3.length : Int) then (if x10 > 0 then (if 0 ≤ (wrap64 (x10 - 1)) then (if (wrap64 (x10 - 1)) < (x3.length : Int) then (if 0 ≤ x10 then (if ((rd_T36 x3 (wrap64 (x10 - 1))).f0) ≥ ((rd_T36 x3 x10).f0) then (tailracelaw13_OpersReduces.j2 k x0 x3 x5 x7 x9 x10 true) else (if x10 < (x5.length : Int) then (if ((rd_T36 x3 x10).f0) = ((rd_T36 x5 x10).f0) then (if x10 < (x7.length : Int) then (tailracelaw13_OpersReduces.j2 k x0 x3 x5 x7 x9 x10 (((rd_T36 x3 x10).f0) != ((rd_T36 x7 x10).f0))) else (none)) else (tailracelaw13_OpersReduces.j2 k x0 x3 x5 x7 x9 x10 true)) else (none))) else (none)) else (none)) else (none)) else (if 0 ≤ x10 then (if x10 < (x5.length : Int) then (if ((rd_T36 x3 x10).f0) = ((rd_T36 x5 x10).f0) then (if x10 < (x7.length : Int) then (tailracelaw13_OpersReduces.j2 k x0 x3 x5 x7 x9 x10 (((rd_T36 x3 x10).f0) != ((rd_T36 x7 x10).f0))) else (none)) else (tailracelaw13_OpersReduces.j2 k x0 x3 x5 x7 x9 x10 true)) else (none)) else (none))) else (if x9 = (x0.length : Int) then ((tailracelaw13_works.f).bind fun t148 => (some t148)) else (some false))
def tailracelaw13_OpersReduces.j2 : Nat → List (S36) → List (S36) → List (S36) → List (S36) → Int → Int → Bool → Option (Bool)
  | 0, _, _, _, _, _, _, _ => none
  | k + 1, x0, x3, x5, x7, x9, x10, x108 => if x108 = true then (some false) else (if 0 ≤ x10 then (if x10 < (x3.length : Int) then (if x10 < (x5.length : Int) then ((tailracelaw13_in.f k x0 ((rd_T36 x5 x10).f0) ((rd_T36 x5 x10).f1)).bind fun t161 => (if t161 = true then (if x10 < (x7.length : Int) then ((tailracelaw13_in.f k x0 ((rd_T36 x7 x10).f0) ((rd_T36 x7 x10).f1)).bind fun t163 => (tailracelaw13_OpersReduces.j3 k x0 x3 x5 x7 (wrap64 (x9 + ((rd_T36 x3 x10).f1))) x10 (!t163))) else (none)) else (tailracelaw13_OpersReduces.j3 k x0 x3 x5 x7 (wrap64 (x9 + ((rd_T36 x3 x10).f1))) x10 true))) else (none)) else (none)) else (none))
def tailracelaw13_OpersReduces.j3 : Nat → List (S36) → List (S36) → List (S36) → List (S36) → Int → Int → Bool → Option (Bool)
  | 0, _, _, _, _, _, _, _ => none
  | k + 1, x0, x3, x5, x7, x9, x10, x131 => if x131 = true then (some false) else (tailracelaw13_OpersReduces.l1 k x0 x3 x5 x7 x9 x10 0)
def tailracelaw13_OpersReduces.l1 : Nat → List (S36) → List (S36) → List (S36) → List (S36) → Int → Int → Int → Option (Bool)
  | 0, _, _, _, _, _, _, _ => none
  | k + 1, x0, x3, x5, x7, x9, x10, x11 => if x11 < (x0.length : Int) then (if 0 ≤ x11 then (if 0 ≤ x10 then (if x10 < (x3.length : Int) then (if ((rd_T36 x0 x11).f0) = ((rd_T36 x3 x10).f0) then (if x10 < (x5.length : Int) then (if ((rd_T36 x0 x11).f1) < ((rd_T36 x5 x10).f1) then (some false) else (if x10 < (x7.length : Int) then (if ((rd_T36 x0 x11).f1) > ((rd_T36 x7 x10).f1) then (some false) else (tailracelaw13_OpersReduces.l1 k x0 x3 x5 x7 x9 x10 (wrap64 (x11 + 1)))) else (none))) else (none)) else (tailracelaw13_OpersReduces.l1 k x0 x3 x5 x7 x9 x10 (wrap64 (x11 + 1)))) else (none)) else (none)) else (none)) else (tailracelaw13_OpersReduces.l0 k x0 x3 x5 x7 x9 (wrap64 (x10 + 1)))
end
def tailracelaw13_OpersReduces.f (k : Nat) (l0 : List (S36)) : Option (Bool) := if (l0.length : Int) > 60 then ((tailracelaw13_works.f).bind fun t135 => (some t135)) else ((opers_Run1.f 5 1 0 0 ([] : List Int) l0).bind fun bt136 => ((opers_Run1.f 5 2 0 0 ([] : List Int) l0).bind fun bt140 => ((opers_Run1.f 5 3 0 0 ([] : List Int) l0).bind fun bt144 => (if bt136.2 = 0 then (if bt140.2 = 0 then (if bt144.2 = 0 then (if (bt136.1.length : Int) = (bt140.1.length : Int) then (tailracelaw13_OpersReduces.j0 k l0 bt136.1 bt140.1 bt144.1 ((bt136.1.length : Int) != (bt144.1.length : Int))) else (tailracelaw13_OpersReduces.j0 k l0 bt136.1 bt140.1 bt144.1 true)) else (tailracelaw13_OpersReduces.j0 k l0 bt136.1 bt140.1 bt144.1 true)) else (tailracelaw13_OpersReduces.j0 k l0 bt136.1 bt140.1 bt144.1 true)) else (tailracelaw13_OpersReduces.j0 k l0 bt136.1 bt140.1 bt144.1 true)))))
set_option maxHeartbeats 8000000 in
set_option maxRecDepth 100000 in
theorem tailracelaw13_OpersReduces.calls (k : Nat) (A0 : Option Addr) (c0 : Nat) (l0 : List (S36)) (r : Bool) (w : World) (hr0 : Kd.C k36 w A0 l0.length l0) (hc0 : l0.length ≤ c0) (h : tailracelaw13_OpersReduces.f k l0 = some r) :
    Calls Try.prog 8 #[.slice A0 l0.length c0] w fun e w' => e = .returned (.bool r) ∧ Below w.heap.size w w' := by
  have hu24 := Try.underlying24
  have hu36 := Try.underlying36
  have HR0 := Aside0.mk hr0
  have HC0 := Aside0.mk hc0
  clear hr0 hc0
  have HB := Aside0.mk (Below.refl w.heap.size w)
  have H : (if (l0.length : Int) > 60 then ((tailracelaw13_works.f).bind fun t135 => (some t135)) else ((opers_Run1.f 5 1 0 0 ([] : List Int) l0).bind fun bt136 => ((opers_Run1.f 5 2 0 0 ([] : List Int) l0).bind fun bt140 => ((opers_Run1.f 5 3 0 0 ([] : List Int) l0).bind fun bt144 => (if bt136.2 = 0 then (if bt140.2 = 0 then (if bt144.2 = 0 then (if (bt136.1.length : Int) = (bt140.1.length : Int) then (tailracelaw13_OpersReduces.j0 k l0 bt136.1 bt140.1 bt144.1 ((bt136.1.length : Int) != (bt144.1.length : Int))) else (tailracelaw13_OpersReduces.j0 k l0 bt136.1 bt140.1 bt144.1 true)) else (tailracelaw13_OpersReduces.j0 k l0 bt136.1 bt140.1 bt144.1 true)) else (tailracelaw13_OpersReduces.j0 k l0 bt136.1 bt140.1 bt144.1 true)) else (tailracelaw13_OpersReduces.j0 k l0 bt136.1 bt140.1 bt144.1 true)))))) = some r := h
  clear h
  by_cases c2 : (l0.length : Int) > 60
  · rw [if_pos c2] at H
    have c2b0 : decide (60 < (l0.length : Int)) = true := decide_eq_true c2
    have c2b1 : decide (60 < l0.length) = true := decide_eq_true (by omega)
    clear c2
    replace H := Option.bind_eq_some_iff.mp H
    obtain ⟨t135, A30, H⟩ := H
    replace H : (some t135) = some r := H
    have A3 := Aside0.mk A30
    clear A30
    obtain rfl := Option.some.inj H
    go_enter Try.func8, Try.ntmps8
    go_wp2_with (first | (go_at_call 11; (with_reducible refine (tailracelaw13_works.calls  t135 _ A3.out).mono ?_); rintro e w4 ⟨rfl, hb⟩; have n0_ := Aside0.mk (below_step (by repeat (first | (with_reducible first | exact HB.out | apply below_alloc | apply pw_below_drewN | apply below_drew1) | exact HB.out)) hb); clear HB; have HB := n0_; clear n0_; (try clear hb); (try clear hb2); (try clear hk); (try clear hi)))
    repeat (go_quiet (first | (go_at_call 11; (with_reducible refine (tailracelaw13_works.calls  t135 _ A3.out).mono ?_); rintro e w4 ⟨rfl, hb⟩; have n0_ := Aside0.mk (below_step (by repeat (first | (with_reducible first | exact HB.out | apply below_alloc | apply pw_below_drewN | apply below_drew1) | exact HB.out)) hb); clear HB; have HB := n0_; clear n0_; (try clear hb); (try clear hb2); (try clear hk); (try clear hi))); try go_wp2_with (first | (go_at_call 11; (with_reducible refine (tailracelaw13_works.calls  t135 _ A3.out).mono ?_); rintro e w4 ⟨rfl, hb⟩; have n0_ := Aside0.mk (below_step (by repeat (first | (with_reducible first | exact HB.out | apply below_alloc | apply pw_below_drewN | apply below_drew1) | exact HB.out)) hb); clear HB; have HB := n0_; clear n0_; (try clear hb); (try clear hb2); (try clear hk); (try clear hi))))
    go_ret
    exact ⟨by first | rfl | (simp [errW_none, errW_some] <;> rfl) | (simp [*, errW_none, errW_some] <;> rfl), by repeat (first | (with_reducible first | exact HB.out | apply below_alloc | apply pw_below_drewN | apply below_drew1) | exact HB.out)⟩
  · rw [if_neg c2] at H
    have c2b0 : decide (60 < (l0.length : Int)) = false := decide_eq_false c2
    have c2b1 : decide (60 < l0.length) = false := decide_eq_false (by omega)
    clear c2
    replace H := Option.bind_eq_some_iff.mp H
    obtain ⟨⟨t136, t139⟩, A50, H⟩ := H
    replace H : ((opers_Run1.f 5 2 0 0 ([] : List Int) l0).bind fun bt140 => ((opers_Run1.f 5 3 0 0 ([] : List Int) l0).bind fun bt144 => (if t139 = 0 then (if bt140.2 = 0 then (if bt144.2 = 0 then (if (t136.length : Int) = (bt140.1.length : Int) then (tailracelaw13_OpersReduces.j0 k l0 t136 bt140.1 bt144.1 ((t136.length : Int) != (bt144.1.length : Int))) else (tailracelaw13_OpersReduces.j0 k l0 t136 bt140.1 bt144.1 true)) else (tailracelaw13_OpersReduces.j0 k l0 t136 bt140.1 bt144.1 true)) else (tailracelaw13_OpersReduces.j0 k l0 t136 bt140.1 bt144.1 true)) else (tailracelaw13_OpersReduces.j0 k l0 t136 bt140.1 bt144.1 true)))) = some r := H
    have A5 := Aside0.mk A50
    clear A50
    replace H := Option.bind_eq_some_iff.mp H
    obtain ⟨⟨t140, t143⟩, A60, H⟩ := H
    replace H : ((opers_Run1.f 5 3 0 0 ([] : List Int) l0).bind fun bt144 => (if t139 = 0 then (if t143 = 0 then (if bt144.2 = 0 then (if (t136.length : Int) = (t140.length : Int) then (tailracelaw13_OpersReduces.j0 k l0 t136 t140 bt144.1 ((t136.length : Int) != (bt144.1.length : Int))) else (tailracelaw13_OpersReduces.j0 k l0 t136 t140 bt144.1 true)) else (tailracelaw13_OpersReduces.j0 k l0 t136 t140 bt144.1 true)) else (tailracelaw13_OpersReduces.j0 k l0 t136 t140 bt144.1 true)) else (tailracelaw13_OpersReduces.j0 k l0 t136 t140 bt144.1 true))) = some r := H
    have A6 := Aside0.mk A60
    clear A60
    replace H := Option.bind_eq_some_iff.mp H
    obtain ⟨⟨t144, t147⟩, A70, H⟩ := H
    replace H : (if t139 = 0 then (if t143 = 0 then (if t147 = 0 then (if (t136.length : Int) = (t140.length : Int) then (tailracelaw13_OpersReduces.j0 k l0 t136 t140 t144 ((t136.length : Int) != (t144.length : Int))) else (tailracelaw13_OpersReduces.j0 k l0 t136 t140 t144 true)) else (tailracelaw13_OpersReduces.j0 k l0 t136 t140 t144 true)) else (tailracelaw13_OpersReduces.j0 k l0 t136 t140 t144 true)) else (tailracelaw13_OpersReduces.j0 k l0 t136 t140 t144 true)) = some r := H
    have A7 := Aside0.mk A70
    clear A70
    have HC8 := Aside0.mk H
    clear H
    go_enter Try.func8, Try.ntmps8
    go_upto_region 6 with (first | (go_at_call 12; (with_reducible show Calls Try.prog 12 #[.agg #[.int .u8 5, .int .u8 1, .int .i64 0, .int .i64 0, _], _] (World.alloc _ (.cells #[.slice _ (List.length l0) _] 28)) _); (refine (opers_Run1.calls 5 1 0 0 _ _ ([] : List Int) _ _ l0 t136 t139 _ ?side1 ?side2 ?side3 ?side4 A5.out).mono ?_); (case side1 => exact Kd.C_nil _ _); (case side2 => exact Nat.le_refl _); (case side3 => repeat (first | exact HR0.out | (with_reducible refine Kd.C_alloc ?_ _) | (with_reducible refine Kd.C_drewN ?_ _) | (with_reducible refine Kd.C_drew ?_))); (case side4 => exact HC0.out); rintro e w9 ⟨v137, rfl, ho0, hb⟩; have n0_ := Aside0.mk (Kd.R_lower ho0 (below_size (by repeat (first | (with_reducible first | exact HB.out | apply below_alloc | apply pw_below_drewN | apply below_drew1) | exact HB.out)))); have n1_ := Aside0.mk (below_step (by repeat (first | (with_reducible first | exact HB.out | apply below_alloc | apply pw_below_drewN | apply below_drew1) | exact HB.out)) hb); clear HB; have HO138 := n0_; have HB := n1_; clear n0_ n1_; (try clear hb); (try clear hb2); (try clear hk); (try clear hi); (try clear ho0)) | (go_at_call 12; (with_reducible show Calls Try.prog 12 #[.agg #[.int .u8 5, .int .u8 2, .int .i64 0, .int .i64 0, _], _] (World.alloc _ (.cells #[.slice _ (List.length l0) _] 28)) _); (refine (opers_Run1.calls 5 2 0 0 _ _ ([] : List Int) _ _ l0 t140 t143 _ ?side1 ?side2 ?side3 ?side4 A6.out).mono ?_); (case side1 => exact Kd.C_nil _ _); (case side2 => exact Nat.le_refl _); (case side3 => repeat (first | exact (Kd.C_below HR0.out HB.out) | (with_reducible refine Kd.C_alloc ?_ _) | (with_reducible refine Kd.C_drewN ?_ _) | (with_reducible refine Kd.C_drew ?_))); (case side4 => exact HC0.out); rintro e w10 ⟨v141, rfl, ho0, hb⟩; have n0_ := Aside0.mk (Kd.R_elder' (by (with_reducible repeat (first | apply Kd.R_alloc | apply Kd.R_drewN | apply Kd.R_drew)); exact HO138.out) (Kd.R_base ho0) hb); have n1_ := Aside0.mk (Kd.R_lower (Kd.R_new' ho0 (Kd.R_lt (by (with_reducible repeat (first | apply Kd.R_alloc | apply Kd.R_drewN | apply Kd.R_drew)); exact HO138.out))) (below_size (by repeat (first | (with_reducible first | exact HB.out | apply below_alloc | apply pw_below_drewN | apply below_drew1) | exact HB.out)))); have n2_ := Aside0.mk (below_step (by repeat (first | (with_reducible first | exact HB.out | apply below_alloc | apply pw_below_drewN | apply below_drew1) | exact HB.out)) hb); clear HO138; clear HB; have HO138 := n0_; have HO142 := n1_; have HB := n2_; clear n0_ n1_ n2_; (try clear hb); (try clear hb2); (try clear hk); (try clear hi); (try clear ho0)) | (go_at_call 12; (with_reducible show Calls Try.prog 12 #[.agg #[.int .u8 5, .int .u8 3, .int .i64 0, .int .i64 0, _], _] (World.alloc _ (.cells #[.slice _ (List.length l0) _] 28)) _); (refine (opers_Run1.calls 5 3 0 0 _ _ ([] : List Int) _ _ l0 t144 t147 _ ?side1 ?side2 ?side3 ?side4 A7.out).mono ?_); (case side1 => exact Kd.C_nil _ _); (case side2 => exact Nat.le_refl _); (case side3 => repeat (first | exact (Kd.C_below HR0.out HB.out) | (with_reducible refine Kd.C_alloc ?_ _) | (with_reducible refine Kd.C_drewN ?_ _) | (with_reducible refine Kd.C_drew ?_))); (case side4 => exact HC0.out); rintro e w11 ⟨v145, rfl, ho0, hb⟩; have n0_ := Aside0.mk (Kd.R_elder' (by (with_reducible repeat (first | apply Kd.R_alloc | apply Kd.R_drewN | apply Kd.R_drew)); exact HO138.out) (Kd.R_base ho0) hb); have n1_ := Aside0.mk (Kd.R_elder' (by (with_reducible repeat (first | apply Kd.R_alloc | apply Kd.R_drewN | apply Kd.R_drew)); exact HO142.out) (Kd.R_base ho0) hb); have n2_ := Aside0.mk (Kd.R_lower (Kd.R_new' (Kd.R_new' ho0 (Kd.R_lt (by (with_reducible repeat (first | apply Kd.R_alloc | apply Kd.R_drewN | apply Kd.R_drew)); exact HO138.out))) (Kd.R_lt (by (with_reducible repeat (first | apply Kd.R_alloc | apply Kd.R_drewN | apply Kd.R_drew)); exact HO142.out))) (below_size (by repeat (first | (with_reducible first | exact HB.out | apply below_alloc | apply pw_below_drewN | apply below_drew1) | exact HB.out)))); have n3_ := Aside0.mk (below_step (by repeat (first | (with_reducible first | exact HB.out | apply below_alloc | apply pw_below_drewN | apply below_drew1) | exact HB.out)) hb); clear HO138; clear HO142; clear HB; have HO138 := n0_; have HO142 := n1_; have HO146 := n2_; have HB := n3_; clear n0_ n1_ n2_ n3_; (try clear hb); (try clear hb2); (try clear hk); (try clear hi); (try clear ho0)))
    repeat (go_quiet (first | (go_at_call 12; (with_reducible show Calls Try.prog 12 #[.agg #[.int .u8 5, .int .u8 1, .int .i64 0, .int .i64 0, _], _] (World.alloc _ (.cells #[.slice _ (List.length l0) _] 28)) _); (refine (opers_Run1.calls 5 1 0 0 _ _ ([] : List Int) _ _ l0 t136 t139 _ ?side1 ?side2 ?side3 ?side4 A5.out).mono ?_); (case side1 => exact Kd.C_nil _ _); (case side2 => exact Nat.le_refl _); (case side3 => repeat (first | exact HR0.out | (with_reducible refine Kd.C_alloc ?_ _) | (with_reducible refine Kd.C_drewN ?_ _) | (with_reducible refine Kd.C_drew ?_))); (case side4 => exact HC0.out); rintro e w9 ⟨v137, rfl, ho0, hb⟩; have n0_ := Aside0.mk (Kd.R_lower ho0 (below_size (by repeat (first | (with_reducible first | exact HB.out | apply below_alloc | apply pw_below_drewN | apply below_drew1) | exact HB.out)))); have n1_ := Aside0.mk (below_step (by repeat (first | (with_reducible first | exact HB.out | apply below_alloc | apply pw_below_drewN | apply below_drew1) | exact HB.out)) hb); clear HB; have HO138 := n0_; have HB := n1_; clear n0_ n1_; (try clear hb); (try clear hb2); (try clear hk); (try clear hi); (try clear ho0)) | (go_at_call 12; (with_reducible show Calls Try.prog 12 #[.agg #[.int .u8 5, .int .u8 2, .int .i64 0, .int .i64 0, _], _] (World.alloc _ (.cells #[.slice _ (List.length l0) _] 28)) _); (refine (opers_Run1.calls 5 2 0 0 _ _ ([] : List Int) _ _ l0 t140 t143 _ ?side1 ?side2 ?side3 ?side4 A6.out).mono ?_); (case side1 => exact Kd.C_nil _ _); (case side2 => exact Nat.le_refl _); (case side3 => repeat (first | exact (Kd.C_below HR0.out HB.out) | (with_reducible refine Kd.C_alloc ?_ _) | (with_reducible refine Kd.C_drewN ?_ _) | (with_reducible refine Kd.C_drew ?_))); (case side4 => exact HC0.out); rintro e w10 ⟨v141, rfl, ho0, hb⟩; have n0_ := Aside0.mk (Kd.R_elder' (by (with_reducible repeat (first | apply Kd.R_alloc | apply Kd.R_drewN | apply Kd.R_drew)); exact HO138.out) (Kd.R_base ho0) hb); have n1_ := Aside0.mk (Kd.R_lower (Kd.R_new' ho0 (Kd.R_lt (by (with_reducible repeat (first | apply Kd.R_alloc | apply Kd.R_drewN | apply Kd.R_drew)); exact HO138.out))) (below_size (by repeat (first | (with_reducible first | exact HB.out | apply below_alloc | apply pw_below_drewN | apply below_drew1) | exact HB.out)))); have n2_ := Aside0.mk (below_step (by repeat (first | (with_reducible first | exact HB.out | apply below_alloc | apply pw_below_drewN | apply below_drew1) | exact HB.out)) hb); clear HO138; clear HB; have HO138 := n0_; have HO142 := n1_; have HB := n2_; clear n0_ n1_ n2_; (try clear hb); (try clear hb2); (try clear hk); (try clear hi); (try clear ho0)) | (go_at_call 12; (with_reducible show Calls Try.prog 12 #[.agg #[.int .u8 5, .int .u8 3, .int .i64 0, .int .i64 0, _], _] (World.alloc _ (.cells #[.slice _ (List.length l0) _] 28)) _); (refine (opers_Run1.calls 5 3 0 0 _ _ ([] : List Int) _ _ l0 t144 t147 _ ?side1 ?side2 ?side3 ?side4 A7.out).mono ?_); (case side1 => exact Kd.C_nil _ _); (case side2 => exact Nat.le_refl _); (case side3 => repeat (first | exact (Kd.C_below HR0.out HB.out) | (with_reducible refine Kd.C_alloc ?_ _) | (with_reducible refine Kd.C_drewN ?_ _) | (with_reducible refine Kd.C_drew ?_))); (case side4 => exact HC0.out); rintro e w11 ⟨v145, rfl, ho0, hb⟩; have n0_ := Aside0.mk (Kd.R_elder' (by (with_reducible repeat (first | apply Kd.R_alloc | apply Kd.R_drewN | apply Kd.R_drew)); exact HO138.out) (Kd.R_base ho0) hb); have n1_ := Aside0.mk (Kd.R_elder' (by (with_reducible repeat (first | apply Kd.R_alloc | apply Kd.R_drewN | apply Kd.R_drew)); exact HO142.out) (Kd.R_base ho0) hb); have n2_ := Aside0.mk (Kd.R_lower (Kd.R_new' (Kd.R_new' ho0 (Kd.R_lt (by (with_reducible repeat (first | apply Kd.R_alloc | apply Kd.R_drewN | apply Kd.R_drew)); exact HO138.out))) (Kd.R_lt (by (with_reducible repeat (first | apply Kd.R_alloc | apply Kd.R_drewN | apply Kd.R_drew)); exact HO142.out))) (below_size (by repeat (first | (with_reducible first | exact HB.out | apply below_alloc | apply pw_below_drewN | apply below_drew1) | exact HB.out)))); have n3_ := Aside0.mk (below_step (by repeat (first | (with_reducible first | exact HB.out | apply below_alloc | apply pw_below_drewN | apply below_drew1) | exact HB.out)) hb); clear HO138; clear HO142; clear HB; have HO138 := n0_; have HO142 := n1_; have HO146 := n2_; have HB := n3_; clear n0_ n1_ n2_ n3_; (try clear hb); (try clear hb2); (try clear hk); (try clear hi); (try clear ho0))); go_upto_region 6 with (first | (go_at_call 12; (with_reducible show Calls Try.prog 12 #[.agg #[.int .u8 5, .int .u8 1, .int .i64 0, .int .i64 0, _], _] (World.alloc _ (.cells #[.slice _ (List.length l0) _] 28)) _); (refine (opers_Run1.calls 5 1 0 0 _ _ ([] : List Int) _ _ l0 t136 t139 _ ?side1 ?side2 ?side3 ?side4 A5.out).mono ?_); (case side1 => exact Kd.C_nil _ _); (case side2 => exact Nat.le_refl _); (case side3 => repeat (first | exact HR0.out | (with_reducible refine Kd.C_alloc ?_ _) | (with_reducible refine Kd.C_drewN ?_ _) | (with_reducible refine Kd.C_drew ?_))); (case side4 => exact HC0.out); rintro e w9 ⟨v137, rfl, ho0, hb⟩; have n0_ := Aside0.mk (Kd.R_lower ho0 (below_size (by repeat (first | (with_reducible first | exact HB.out | apply below_alloc | apply pw_below_drewN | apply below_drew1) | exact HB.out)))); have n1_ := Aside0.mk (below_step (by repeat (first | (with_reducible first | exact HB.out | apply below_alloc | apply pw_below_drewN | apply below_drew1) | exact HB.out)) hb); clear HB; have HO138 := n0_; have HB := n1_; clear n0_ n1_; (try clear hb); (try clear hb2); (try clear hk); (try clear hi); (try clear ho0)) | (go_at_call 12; (with_reducible show Calls Try.prog 12 #[.agg #[.int .u8 5, .int .u8 2, .int .i64 0, .int .i64 0, _], _] (World.alloc _ (.cells #[.slice _ (List.length l0) _] 28)) _); (refine (opers_Run1.calls 5 2 0 0 _ _ ([] : List Int) _ _ l0 t140 t143 _ ?side1 ?side2 ?side3 ?side4 A6.out).mono ?_); (case side1 => exact Kd.C_nil _ _); (case side2 => exact Nat.le_refl _); (case side3 => repeat (first | exact (Kd.C_below HR0.out HB.out) | (with_reducible refine Kd.C_alloc ?_ _) | (with_reducible refine Kd.C_drewN ?_ _) | (with_reducible refine Kd.C_drew ?_))); (case side4 => exact HC0.out); rintro e w10 ⟨v141, rfl, ho0, hb⟩; have n0_ := Aside0.mk (Kd.R_elder' (by (with_reducible repeat (first | apply Kd.R_alloc | apply Kd.R_drewN | apply Kd.R_drew)); exact HO138.out) (Kd.R_base ho0) hb); have n1_ := Aside0.mk (Kd.R_lower (Kd.R_new' ho0 (Kd.R_lt (by (with_reducible repeat (first | apply Kd.R_alloc | apply Kd.R_drewN | apply Kd.R_drew)); exact HO138.out))) (below_size (by repeat (first | (with_reducible first | exact HB.out | apply below_alloc | apply pw_below_drewN | apply below_drew1) | exact HB.out)))); have n2_ := Aside0.mk (below_step (by repeat (first | (with_reducible first | exact HB.out | apply below_alloc | apply pw_below_drewN | apply below_drew1) | exact HB.out)) hb); clear HO138; clear HB; have HO138 := n0_; have HO142 := n1_; have HB := n2_; clear n0_ n1_ n2_; (try clear hb); (try clear hb2); (try clear hk); (try clear hi); (try clear ho0)) | (go_at_call 12; (with_reducible show Calls Try.prog 12 #[.agg #[.int .u8 5, .int .u8 3, .int .i64 0, .int .i64 0, _], _] (World.alloc _ (.cells #[.slice _ (List.length l0) _] 28)) _); (refine (opers_Run1.calls 5 3 0 0 _ _ ([] : List Int) _ _ l0 t144 t147 _ ?side1 ?side2 ?side3 ?side4 A7.out).mono ?_); (case side1 => exact Kd.C_nil _ _); (case side2 => exact Nat.le_refl _); (case side3 => repeat (first | exact (Kd.C_below HR0.out HB.out) | (with_reducible refine Kd.C_alloc ?_ _) | (with_reducible refine Kd.C_drewN ?_ _) | (with_reducible refine Kd.C_drew ?_))); (case side4 => exact HC0.out); rintro e w11 ⟨v145, rfl, ho0, hb⟩; have n0_ := Aside0.mk (Kd.R_elder' (by (with_reducible repeat (first | apply Kd.R_alloc | apply Kd.R_drewN | apply Kd.R_drew)); exact HO138.out) (Kd.R_base ho0) hb); have n1_ := Aside0.mk (Kd.R_elder' (by (with_reducible repeat (first | apply Kd.R_alloc | apply Kd.R_drewN | apply Kd.R_drew)); exact HO142.out) (Kd.R_base ho0) hb); have n2_ := Aside0.mk (Kd.R_lower (Kd.R_new' (Kd.R_new' ho0 (Kd.R_lt (by (with_reducible repeat (first | apply Kd.R_alloc | apply Kd.R_drewN | apply Kd.R_drew)); exact HO138.out))) (Kd.R_lt (by (with_reducible repeat (first | apply Kd.R_alloc | apply Kd.R_drewN | apply Kd.R_drew)); exact HO142.out))) (below_size (by repeat (first | (with_reducible first | exact HB.out | apply below_alloc | apply pw_below_drewN | apply below_drew1) | exact HB.out)))); have n3_ := Aside0.mk (below_step (by repeat (first | (with_reducible first | exact HB.out | apply below_alloc | apply pw_below_drewN | apply below_drew1) | exact HB.out)) hb); clear HO138; clear HO142; clear HB; have HO138 := n0_; have HO142 := n1_; have HO146 := n2_; have HB := n3_; clear n0_ n1_ n2_ n3_; (try clear hb); (try clear hb2); (try clear hk); (try clear hi); (try clear ho0))))
    (try simp only [Act.put, List.setIfInBounds_toArray, List.set_cons_zero, List.set_cons_succ])
    go_cut [60] (fun v60 wc => ∃ (kq : Nat) (x60_7 : Bool), v60 = .bool x60_7 ∧ Aside0 (tailracelaw13_OpersReduces.j0 kq l0 t136 t140 t144 x60_7 = some r) ∧ Aside0 (kq ≤ k) ∧ Aside0 (Kd.R k36 36 wc w.heap.size (fun k_ => some k_ ≠ (v141 : Value).ownBlock ∧ some k_ ≠ (v145 : Value).ownBlock) v137 t136) ∧ Aside0 (Kd.R k36 36 wc w.heap.size (fun k_ => some k_ ≠ (v137 : Value).ownBlock ∧ some k_ ≠ (v145 : Value).ownBlock) v141 t140) ∧ Aside0 (Kd.R k36 36 wc w.heap.size (fun k_ => some k_ ≠ (v137 : Value).ownBlock ∧ some k_ ≠ (v141 : Value).ownBlock) v145 t144) ∧ Aside0 (Below w.heap.size w wc))
    case first =>
      as_aux_lemma =>
      have H := HC8.out
      clear HC8
      by_cases c12 : t139 = 0
      · rw [if_pos c12] at H
        have c12b0 : (t139 == 0) = true := beq_iff_eq.mpr c12
        have c12b1 : (t139 != 0) = false := bne_eq_false_iff_eq.mpr c12
        clear c12
        (first | rw [c12b0] | (simp only [i64_w, i32_w]; rw [c12b0]) | skip)
        by_cases c13 : t143 = 0
        · rw [if_pos c13] at H
          have c13b0 : (t143 == 0) = true := beq_iff_eq.mpr c13
          have c13b1 : (t143 != 0) = false := bne_eq_false_iff_eq.mpr c13
          clear c13
          by_cases c14 : t147 = 0
          · rw [if_pos c14] at H
            have c14b0 : (t147 == 0) = true := beq_iff_eq.mpr c14
            have c14b1 : (t147 != 0) = false := bne_eq_false_iff_eq.mpr c14
            clear c14
            by_cases c15 : (t136.length : Int) = (t140.length : Int)
            · as_aux_lemma =>
              rw [if_pos c15] at H
              have c15b0 : ((t136.length : Int) == (t140.length : Int)) = true := beq_iff_eq.mpr c15
              have c15b1 : ((t136.length : Int) != (t140.length : Int)) = false := bne_eq_false_iff_eq.mpr c15
              have c15b2 : (t136.length == t140.length) = true := by first | simpa using c15 | (simp at c15 ⊢; omega)
              clear c15
              have H' := Aside0.mk H
              clear H
              obtain ⟨Ao16, co16, eo16⟩ := Kd.R_slice HO138.out
              subst eo16
              obtain ⟨Ao17, co17, eo17⟩ := Kd.R_slice HO142.out
              subst eo17
              obtain ⟨Ao18, co18, eo18⟩ := Kd.R_slice HO146.out
              subst eo18
              go_wp2
              repeat (go_quiet (fail); try go_wp2)
              go_meet
              case rel => exact ⟨_, (((t136.length : Int) != (t144.length : Int))), (by first | rfl | (simp; done) | (simp [*]; done)), H', ⟨by first | omega | exact Nat.le_refl _⟩, ⟨by (with_reducible repeat (first | apply Kd.R_alloc | apply Kd.R_drewN | apply Kd.R_drew)); exact Kd.R_mono HO138.out (fun _ hk => ⟨hk.1.2, hk.2⟩)⟩, ⟨by (with_reducible repeat (first | apply Kd.R_alloc | apply Kd.R_drewN | apply Kd.R_drew)); exact Kd.R_mono HO142.out (fun _ hk => ⟨hk.1.2, hk.2⟩)⟩, ⟨by (with_reducible repeat (first | apply Kd.R_alloc | apply Kd.R_drewN | apply Kd.R_drew)); exact Kd.R_mono HO146.out (fun _ hk => ⟨hk.1.2, hk.2⟩)⟩, ⟨by repeat (first | (with_reducible first | exact HB.out | apply below_alloc | apply pw_below_drewN | apply below_drew1) | exact HB.out)⟩⟩
            · rw [if_neg c15] at H
              have c15b0 : ((t136.length : Int) == (t140.length : Int)) = false := beq_eq_false_iff_ne.mpr c15
              have c15b1 : ((t136.length : Int) != (t140.length : Int)) = true := bne_iff_ne.mpr c15
              have c15b2 : (t136.length == t140.length) = false := by first | simpa using c15 | (simp at c15 ⊢; omega)
              have H' := Aside0.mk H
              clear H
              obtain ⟨Ao19, co19, eo19⟩ := Kd.R_slice HO138.out
              subst eo19
              obtain ⟨Ao20, co20, eo20⟩ := Kd.R_slice HO142.out
              subst eo20
              go_wp2
              repeat (go_quiet (fail); try go_wp2)
              go_meet
              case rel => exact ⟨_, (true), (by first | rfl | (simp; done) | (simp [*]; done)), H', ⟨by first | omega | exact Nat.le_refl _⟩, ⟨by (with_reducible repeat (first | apply Kd.R_alloc | apply Kd.R_drewN | apply Kd.R_drew)); exact Kd.R_mono HO138.out (fun _ hk => ⟨hk.1.2, hk.2⟩)⟩, ⟨by (with_reducible repeat (first | apply Kd.R_alloc | apply Kd.R_drewN | apply Kd.R_drew)); exact Kd.R_mono HO142.out (fun _ hk => ⟨hk.1.2, hk.2⟩)⟩, ⟨by (with_reducible repeat (first | apply Kd.R_alloc | apply Kd.R_drewN | apply Kd.R_drew)); exact Kd.R_mono HO146.out (fun _ hk => ⟨hk.1.2, hk.2⟩)⟩, ⟨by repeat (first | (with_reducible first | exact HB.out | apply below_alloc | apply pw_below_drewN | apply below_drew1) | exact HB.out)⟩⟩
          · rw [if_neg c14] at H
            have c14b0 : (t147 == 0) = false := beq_eq_false_iff_ne.mpr c14
            have c14b1 : (t147 != 0) = true := bne_iff_ne.mpr c14
            have H' := Aside0.mk H
            clear H
            go_wp2
            repeat (go_quiet (fail); try go_wp2)
            go_meet
            case rel => exact ⟨_, (true), (by first | rfl | (simp; done) | (simp [*]; done)), H', ⟨by first | omega | exact Nat.le_refl _⟩, ⟨by (with_reducible repeat (first | apply Kd.R_alloc | apply Kd.R_drewN | apply Kd.R_drew)); exact Kd.R_mono HO138.out (fun _ hk => ⟨hk.1.2, hk.2⟩)⟩, ⟨by (with_reducible repeat (first | apply Kd.R_alloc | apply Kd.R_drewN | apply Kd.R_drew)); exact Kd.R_mono HO142.out (fun _ hk => ⟨hk.1.2, hk.2⟩)⟩, ⟨by (with_reducible repeat (first | apply Kd.R_alloc | apply Kd.R_drewN | apply Kd.R_drew)); exact Kd.R_mono HO146.out (fun _ hk => ⟨hk.1.2, hk.2⟩)⟩, ⟨by repeat (first | (with_reducible first | exact HB.out | apply below_alloc | apply pw_below_drewN | apply below_drew1) | exact HB.out)⟩⟩
        · rw [if_neg c13] at H
          have c13b0 : (t143 == 0) = false := beq_eq_false_iff_ne.mpr c13
          have c13b1 : (t143 != 0) = true := bne_iff_ne.mpr c13
          have H' := Aside0.mk H
          clear H
          go_wp2
          repeat (go_quiet (fail); try go_wp2)
          go_meet
          case rel => exact ⟨_, (true), (by first | rfl | (simp; done) | (simp [*]; done)), H', ⟨by first | omega | exact Nat.le_refl _⟩, ⟨by (with_reducible repeat (first | apply Kd.R_alloc | apply Kd.R_drewN | apply Kd.R_drew)); exact Kd.R_mono HO138.out (fun _ hk => ⟨hk.1.2, hk.2⟩)⟩, ⟨by (with_reducible repeat (first | apply Kd.R_alloc | apply Kd.R_drewN | apply Kd.R_drew)); exact Kd.R_mono HO142.out (fun _ hk => ⟨hk.1.2, hk.2⟩)⟩, ⟨by (with_reducible repeat (first | apply Kd.R_alloc | apply Kd.R_drewN | apply Kd.R_drew)); exact Kd.R_mono HO146.out (fun _ hk => ⟨hk.1.2, hk.2⟩)⟩, ⟨by repeat (first | (with_reducible first | exact HB.out | apply below_alloc | apply pw_below_drewN | apply below_drew1) | exact HB.out)⟩⟩
      · rw [if_neg c12] at H
        have c12b0 : (t139 == 0) = false := beq_eq_false_iff_ne.mpr c12
        have c12b1 : (t139 != 0) = true := bne_iff_ne.mpr c12
        (first | rw [c12b0] | (simp only [i64_w, i32_w]; rw [c12b0]) | skip)
        have H' := Aside0.mk H
        clear H
        go_wp2
        repeat (go_quiet (fail); try go_wp2)
        go_meet
        case rel => exact ⟨_, (true), (by first | rfl | (simp; done) | (simp [*]; done)), H', ⟨by first | omega | exact Nat.le_refl _⟩, ⟨by (with_reducible repeat (first | apply Kd.R_alloc | apply Kd.R_drewN | apply Kd.R_drew)); exact Kd.R_mono HO138.out (fun _ hk => ⟨hk.1.2, hk.2⟩)⟩, ⟨by (with_reducible repeat (first | apply Kd.R_alloc | apply Kd.R_drewN | apply Kd.R_drew)); exact Kd.R_mono HO142.out (fun _ hk => ⟨hk.1.2, hk.2⟩)⟩, ⟨by (with_reducible repeat (first | apply Kd.R_alloc | apply Kd.R_drewN | apply Kd.R_drew)); exact Kd.R_mono HO146.out (fun _ hk => ⟨hk.1.2, hk.2⟩)⟩, ⟨by repeat (first | (with_reducible first | exact HB.out | apply below_alloc | apply pw_below_drewN | apply below_drew1) | exact HB.out)⟩⟩
    case rest =>
      as_aux_lemma =>
      clear HC8
      try clear c1
      try clear c2
      try clear c2b0
      try clear c2b1
      try clear p2
      try clear c8
      try clear c12
      try clear c12b0
      try clear c12b1
      try clear c13
      try clear c13b0
      try clear c13b1
      try clear c14
      try clear c14b0
      try clear c14b1
      try clear c15
      try clear c15b0
      try clear c15b1
      try clear c15b2
      obtain ⟨kq, x60_7, rfl, HA, HJ7, HO_3, HO_5, HO_7, HB⟩ := hcut
      cases kq with
      | zero => exact absurd HA.out (by simp [tailracelaw13_OpersReduces.j0])
      | succ kj7 =>
        have H := HA.out
        clear HA
        simp only [tailracelaw13_OpersReduces.j0] at H
        by_cases c21 : x60_7 = true
        · subst c21
          have H1 : (some false) = some r := by rw [if_pos rfl] at H; exact H
          clear H
          have H := H1
          clear H1
          obtain rfl := Option.some.inj H
          go_wp2
          repeat (go_quiet (fail); try go_wp2)
          go_ret
          exact ⟨by first | rfl | (simp [errW_none, errW_some] <;> rfl) | (simp [*, errW_none, errW_some] <;> rfl), by repeat (first | (with_reducible first | exact HB.out | apply below_alloc | apply pw_below_drewN | apply below_drew1) | exact HB.out)⟩
        · replace c21 := Bool.eq_false_iff.mpr c21
          subst c21
          have H1 : (tailracelaw13_OpersReduces.l0 kj7 l0 t136 t140 t144 0 0) = some r := by rw [if_neg (show ¬ (false = true) by decide)] at H; exact H
          clear H
          have H := H1
          clear H1
          have H' := Aside0.mk H
          clear H
          go_wp2
          repeat (go_quiet (fail); try go_wp2)
          go_loopg [9, 10] kj7 (fun kq v9 v10 w' => ∃ (x9_2 : Int) (x10_2 : Int), v9 = .int .i64 x9_2 ∧ v10 = .int .i64 x10_2 ∧ Aside0 (tailracelaw13_OpersReduces.l0 kq l0 t136 t140 t144 x9_2 x10_2 = some r) ∧ Aside0 (kq ≤ kj7) ∧ Aside0 (Kd.R k36 36 w' w.heap.size (fun k_ => some k_ ≠ (v141 : Value).ownBlock ∧ some k_ ≠ (v145 : Value).ownBlock) v137 t136) ∧ Aside0 (Kd.R k36 36 w' w.heap.size (fun k_ => some k_ ≠ (v137 : Value).ownBlock ∧ some k_ ≠ (v145 : Value).ownBlock) v141 t140) ∧ Aside0 (Kd.R k36 36 w' w.heap.size (fun k_ => some k_ ≠ (v137 : Value).ownBlock ∧ some k_ ≠ (v141 : Value).ownBlock) v145 t144) ∧ Aside0 (Below w.heap.size w w'))
          case atStart => exact ⟨(0), (0), (by first | rfl | (simp; done) | (simp [*]; done)), (by first | rfl | (simp; done) | (simp [*]; done)), H', ⟨Nat.le_refl _⟩, ⟨by (with_reducible repeat (first | apply Kd.R_alloc | apply Kd.R_drewN | apply Kd.R_drew)); exact HO_3.out⟩, ⟨by (with_reducible repeat (first | apply Kd.R_alloc | apply Kd.R_drewN | apply Kd.R_drew)); exact HO_5.out⟩, ⟨by (with_reducible repeat (first | apply Kd.R_alloc | apply Kd.R_drewN | apply Kd.R_drew)); exact HO_7.out⟩, ⟨by repeat (first | (with_reducible first | exact HB.out | apply below_alloc | apply pw_below_drewN | apply below_drew1) | exact HB.out)⟩⟩
          case round =>
            as_aux_lemma =>
            clear H'
            try clear c1
            try clear c2
            try clear c2b0
            try clear c2b1
            try clear p2
            try clear c8
            try clear c12
            try clear c12b0
            try clear c12b1
            try clear c13
            try clear c13b0
            try clear c13b1
            try clear c14
            try clear c14b0
            try clear c14b1
            try clear c15
            try clear c15b0
            try clear c15b1
            try clear c15b2
            try clear c21
            try clear p2
            obtain ⟨x9_2, x10_2, rfl, rfl, HA, HK2, HO_3, HO_5, HO_7, HB⟩ := hrel
            cases gk with
            | zero => exact absurd HA.out (by simp [tailracelaw13_OpersReduces.l0])
            | succ k2 =>
              have H := HA.out
              clear HA
              simp only [tailracelaw13_OpersReduces.l0] at H
              by_cases c22 : x10_2 < (t136.length : Int)
              · rw [if_pos c22] at H
                have c22b0 : decide (x10_2 < (t136.length : Int)) = true := decide_eq_true c22
                clear c22
                have HC23 := Aside0.mk H
                clear H
                obtain ⟨Ao24, co24, eo24⟩ := Kd.R_slice HO_3.out
                subst eo24
                go_upto_region 12 with (fail)
                repeat (go_quiet (fail); go_upto_region 12 with (fail))
                go_cut [108] (fun v108 wc => ∃ (kq : Nat) (x108_22 : Bool), v108 = .bool x108_22 ∧ Aside0 (tailracelaw13_OpersReduces.j2 kq l0 t136 t140 t144 x9_2 x10_2 x108_22 = some r) ∧ Aside0 (kq ≤ k2) ∧ Aside0 (Kd.R k36 36 wc w.heap.size (fun k_ => some k_ ≠ (v141 : Value).ownBlock ∧ some k_ ≠ (v145 : Value).ownBlock) (.slice Ao24 t136.length co24) t136) ∧ Aside0 (Kd.R k36 36 wc w.heap.size (fun k_ => some k_ ≠ ((.slice Ao24 t136.length co24) : Value).ownBlock ∧ some k_ ≠ (v145 : Value).ownBlock) v141 t140) ∧ Aside0 (Kd.R k36 36 wc w.heap.size (fun k_ => some k_ ≠ ((.slice Ao24 t136.length co24) : Value).ownBlock ∧ some k_ ≠ (v141 : Value).ownBlock) v145 t144) ∧ Aside0 (Below w.heap.size w wc))
                case first =>
                  as_aux_lemma =>
                  have H := HC23.out
                  clear HC23
                  by_cases c25 : x10_2 > 0
                  · rw [if_pos c25] at H
                    have c25b0 : decide (0 < x10_2) = true := decide_eq_true c25
                    clear c25
                    (first | rw [c25b0] | (simp only [i64_w, i32_w]; rw [c25b0]) | skip)
                    obtain ⟨ji26, hji26⟩ : ∃ j_ : Int, (wrap64 (x10_2 - 1)) = j_ := ⟨_, rfl⟩
                    replace H : (if 0 ≤ (ji26) then (if (ji26) < (t136.length : Int) then (if 0 ≤ x10_2 then (if ((rd_T36 t136 (ji26)).f0) ≥ ((rd_T36 t136 x10_2).f0) then (tailracelaw13_OpersReduces.j2 k2 l0 t136 t140 t144 x9_2 x10_2 true) else (if x10_2 < (t140.length : Int) then (if ((rd_T36 t136 x10_2).f0) = ((rd_T36 t140 x10_2).f0) then (if x10_2 < (t144.length : Int) then (tailracelaw13_OpersReduces.j2 k2 l0 t136 t140 t144 x9_2 x10_2 (((rd_T36 t136 x10_2).f0) != ((rd_T36 t144 x10_2).f0))) else (none)) else (tailracelaw13_OpersReduces.j2 k2 l0 t136 t140 t144 x9_2 x10_2 true)) else (none))) else (none)) else (none)) else (none)) = some r := by first | (rw [hji26] at H; exact H) | (simp only [hji26] at H ⊢; exact H)
                    have hji26w : (IntKind.i64.wrap (x10_2 - 1)) = ji26 := (i64_w _).trans hji26
                    by_cases c27 : 0 ≤ (ji26)
                    · rw [if_pos c27] at H
                      have c27b0 : decide (0 ≤ (ji26)) = true := decide_eq_true c27
                      clear c27
                      by_cases c28 : (ji26) < (t136.length : Int)
                      · rw [if_pos c28] at H
                        have c28b0 : decide ((ji26) < (t136.length : Int)) = true := decide_eq_true c28
                        clear c28
                        by_cases c29 : 0 ≤ x10_2
                        · rw [if_pos c29] at H
                          have c29b0 : decide (0 ≤ x10_2) = true := decide_eq_true c29
                          clear c29
                          by_cases c30 : ((rd_T36 t136 (ji26)).f0) ≥ ((rd_T36 t136 x10_2).f0)
                          · as_aux_lemma =>
                            rw [if_pos c30] at H
                            have c30b0 : decide (((rd_T36 t136 x10_2).f0) ≤ ((rd_T36 t136 (ji26)).f0)) = true := decide_eq_true c30
                            clear c30
                            have H' := Aside0.mk H
                            clear H
                            have p149 : 0 ≤ ((ji26) : Int) := of_decide_eq_true (by first | (with_reducible assumption) | assumption)
                            have q149 : (ji26) < (t136.length : Int) := of_decide_eq_true (by first | (with_reducible assumption) | assumption)
                            obtain ⟨ad149, e149, hx149_0, hx149_1⟩ := at_T36 (Kd.R_reads' HO_3.out).2.2 (ji26) p149 q149
                            cases e149
                            replace p149 := eq_true p149
                            replace q149 := eq_true q149
                            have p150 : 0 ≤ (x10_2 : Int) := of_decide_eq_true (by first | (with_reducible assumption) | assumption)
                            have q150 : x10_2 < (t136.length : Int) := of_decide_eq_true (by first | (with_reducible assumption) | assumption)
                            obtain ⟨ad150, e150, hx150_0, hx150_1⟩ := at_T36 (Kd.R_reads' HO_3.out).2.2 x10_2 p150 q150
                            obtain rfl : ad149 = ad150 := (by injection e150)
                            replace p150 := eq_true p150
                            replace q150 := eq_true q150
                            go_wp2
                            repeat (go_quiet (fail); try go_wp2)
                            go_meet
                            case rel => exact ⟨_, (true), (by first | rfl | (simp; done) | (simp [*]; done)), H', ⟨by have := HJ7.out; have := HK2.out; first | omega | exact Nat.le_refl _⟩, ⟨by (with_reducible repeat (first | apply Kd.R_alloc | apply Kd.R_drewN | apply Kd.R_drew)); exact HO_3.out⟩, ⟨by (with_reducible repeat (first | apply Kd.R_alloc | apply Kd.R_drewN | apply Kd.R_drew)); exact HO_5.out⟩, ⟨by (with_reducible repeat (first | apply Kd.R_alloc | apply Kd.R_drewN | apply Kd.R_drew)); exact HO_7.out⟩, ⟨by repeat (first | (with_reducible first | exact HB.out | apply below_alloc | apply pw_below_drewN | apply below_drew1) | exact HB.out)⟩⟩
                          · rw [if_neg c30] at H
                            have c30b0 : decide (((rd_T36 t136 x10_2).f0) ≤ ((rd_T36 t136 (ji26)).f0)) = false := decide_eq_false c30
                            clear c30
                            by_cases c31 : x10_2 < (t140.length : Int)
                            · rw [if_pos c31] at H
                              have c31b0 : decide (x10_2 < (t140.length : Int)) = true := decide_eq_true c31
                              clear c31
                              by_cases c32 : ((rd_T36 t136 x10_2).f0) = ((rd_T36 t140 x10_2).f0)
                              · rw [if_pos c32] at H
                                have c32b0 : (((rd_T36 t136 x10_2).f0) == ((rd_T36 t140 x10_2).f0)) = true := beq_iff_eq.mpr c32
                                have c32b1 : (((rd_T36 t136 x10_2).f0) != ((rd_T36 t140 x10_2).f0)) = false := bne_eq_false_iff_eq.mpr c32
                                clear c32
                                by_cases c33 : x10_2 < (t144.length : Int)
                                · as_aux_lemma =>
                                  rw [if_pos c33] at H
                                  have c33b0 : decide (x10_2 < (t144.length : Int)) = true := decide_eq_true c33
                                  clear c33
                                  have H' := Aside0.mk H
                                  clear H
                                  have p149 : 0 ≤ ((ji26) : Int) := of_decide_eq_true (by first | (with_reducible assumption) | assumption)
                                  have q149 : (ji26) < (t136.length : Int) := of_decide_eq_true (by first | (with_reducible assumption) | assumption)
                                  obtain ⟨ad149, e149, hx149_0, hx149_1⟩ := at_T36 (Kd.R_reads' HO_3.out).2.2 (ji26) p149 q149
                                  cases e149
                                  replace p149 := eq_true p149
                                  replace q149 := eq_true q149
                                  have p150 : 0 ≤ (x10_2 : Int) := of_decide_eq_true (by first | (with_reducible assumption) | assumption)
                                  have q150 : x10_2 < (t136.length : Int) := of_decide_eq_true (by first | (with_reducible assumption) | assumption)
                                  obtain ⟨ad150, e150, hx150_0, hx150_1⟩ := at_T36 (Kd.R_reads' HO_3.out).2.2 x10_2 p150 q150
                                  obtain rfl : ad149 = ad150 := (by injection e150)
                                  replace p150 := eq_true p150
                                  replace q150 := eq_true q150
                                  have p151 : 0 ≤ (x10_2 : Int) := of_decide_eq_true (by first | (with_reducible assumption) | assumption)
                                  have q151 : x10_2 < (t136.length : Int) := of_decide_eq_true (by first | (with_reducible assumption) | assumption)
                                  obtain ⟨ad151, e151, hx151_0, hx151_1⟩ := at_T36 (Kd.R_reads' HO_3.out).2.2 x10_2 p151 q151
                                  obtain rfl : ad149 = ad151 := (by injection e151)
                                  replace p151 := eq_true p151
                                  replace q151 := eq_true q151
                                  obtain ⟨Ao34, co34, eo34⟩ := Kd.R_slice HO_5.out
                                  subst eo34
                                  have p152 : 0 ≤ (x10_2 : Int) := of_decide_eq_true (by first | (with_reducible assumption) | assumption)
                                  have q152 : x10_2 < (t140.length : Int) := of_decide_eq_true (by first | (with_reducible assumption) | assumption)
                                  obtain ⟨ad152, e152, hx152_0, hx152_1⟩ := at_T36 (Kd.R_reads' HO_5.out).2.2 x10_2 p152 q152
                                  cases e152
                                  replace p152 := eq_true p152
                                  replace q152 := eq_true q152
                                  have p153 : 0 ≤ (x10_2 : Int) := of_decide_eq_true (by first | (with_reducible assumption) | assumption)
                                  have q153 : x10_2 < (t136.length : Int) := of_decide_eq_true (by first | (with_reducible assumption) | assumption)
                                  obtain ⟨ad153, e153, hx153_0, hx153_1⟩ := at_T36 (Kd.R_reads' HO_3.out).2.2 x10_2 p153 q153
                                  obtain rfl : ad149 = ad153 := (by injection e153)
                                  replace p153 := eq_true p153
                                  replace q153 := eq_true q153
                                  obtain ⟨Ao35, co35, eo35⟩ := Kd.R_slice HO_7.out
                                  subst eo35
                                  have p154 : 0 ≤ (x10_2 : Int) := of_decide_eq_true (by first | (with_reducible assumption) | assumption)
                                  have q154 : x10_2 < (t144.length : Int) := of_decide_eq_true (by first | (with_reducible assumption) | assumption)
                                  obtain ⟨ad154, e154, hx154_0, hx154_1⟩ := at_T36 (Kd.R_reads' HO_7.out).2.2 x10_2 p154 q154
                                  cases e154
                                  replace p154 := eq_true p154
                                  replace q154 := eq_true q154
                                  go_wp2
                                  repeat (go_quiet (fail); try go_wp2)
                                  go_meet
                                  case rel => exact ⟨_, ((((rd_T36 t136 x10_2).f0) != ((rd_T36 t144 x10_2).f0))), (by first | rfl | (simp; done) | (simp [*]; done)), H', ⟨by have := HJ7.out; have := HK2.out; first | omega | exact Nat.le_refl _⟩, ⟨by (with_reducible repeat (first | apply Kd.R_alloc | apply Kd.R_drewN | apply Kd.R_drew)); exact HO_3.out⟩, ⟨by (with_reducible repeat (first | apply Kd.R_alloc | apply Kd.R_drewN | apply Kd.R_drew)); exact HO_5.out⟩, ⟨by (with_reducible repeat (first | apply Kd.R_alloc | apply Kd.R_drewN | apply Kd.R_drew)); exact HO_7.out⟩, ⟨by repeat (first | (with_reducible first | exact HB.out | apply below_alloc | apply pw_below_drewN | apply below_drew1) | exact HB.out)⟩⟩
                                · rw [if_neg c33] at H
                                  exact absurd H (by simp)
                              · as_aux_lemma =>
                                rw [if_neg c32] at H
                                have c32b0 : (((rd_T36 t136 x10_2).f0) == ((rd_T36 t140 x10_2).f0)) = false := beq_eq_false_iff_ne.mpr c32
                                have c32b1 : (((rd_T36 t136 x10_2).f0) != ((rd_T36 t140 x10_2).f0)) = true := bne_iff_ne.mpr c32
                                have H' := Aside0.mk H
                                clear H
                                have p149 : 0 ≤ ((ji26) : Int) := of_decide_eq_true (by first | (with_reducible assumption) | assumption)
                                have q149 : (ji26) < (t136.length : Int) := of_decide_eq_true (by first | (with_reducible assumption) | assumption)
                                obtain ⟨ad149, e149, hx149_0, hx149_1⟩ := at_T36 (Kd.R_reads' HO_3.out).2.2 (ji26) p149 q149
                                cases e149
                                replace p149 := eq_true p149
                                replace q149 := eq_true q149
                                have p150 : 0 ≤ (x10_2 : Int) := of_decide_eq_true (by first | (with_reducible assumption) | assumption)
                                have q150 : x10_2 < (t136.length : Int) := of_decide_eq_true (by first | (with_reducible assumption) | assumption)
                                obtain ⟨ad150, e150, hx150_0, hx150_1⟩ := at_T36 (Kd.R_reads' HO_3.out).2.2 x10_2 p150 q150
                                obtain rfl : ad149 = ad150 := (by injection e150)
                                replace p150 := eq_true p150
                                replace q150 := eq_true q150
                                have p151 : 0 ≤ (x10_2 : Int) := of_decide_eq_true (by first | (with_reducible assumption) | assumption)
                                have q151 : x10_2 < (t136.length : Int) := of_decide_eq_true (by first | (with_reducible assumption) | assumption)
                                obtain ⟨ad151, e151, hx151_0, hx151_1⟩ := at_T36 (Kd.R_reads' HO_3.out).2.2 x10_2 p151 q151
                                obtain rfl : ad149 = ad151 := (by injection e151)
                                replace p151 := eq_true p151
                                replace q151 := eq_true q151
                                obtain ⟨Ao36, co36, eo36⟩ := Kd.R_slice HO_5.out
                                subst eo36
                                have p152 : 0 ≤ (x10_2 : Int) := of_decide_eq_true (by first | (with_reducible assumption) | assumption)
                                have q152 : x10_2 < (t140.length : Int) := of_decide_eq_true (by first | (with_reducible assumption) | assumption)
                                obtain ⟨ad152, e152, hx152_0, hx152_1⟩ := at_T36 (Kd.R_reads' HO_5.out).2.2 x10_2 p152 q152
                                cases e152
                                replace p152 := eq_true p152
                                replace q152 := eq_true q152
                                go_wp2
                                repeat (go_quiet (fail); try go_wp2)
                                go_meet
                                case rel => exact ⟨_, (true), (by first | rfl | (simp; done) | (simp [*]; done)), H', ⟨by have := HJ7.out; have := HK2.out; first | omega | exact Nat.le_refl _⟩, ⟨by (with_reducible repeat (first | apply Kd.R_alloc | apply Kd.R_drewN | apply Kd.R_drew)); exact HO_3.out⟩, ⟨by (with_reducible repeat (first | apply Kd.R_alloc | apply Kd.R_drewN | apply Kd.R_drew)); exact HO_5.out⟩, ⟨by (with_reducible repeat (first | apply Kd.R_alloc | apply Kd.R_drewN | apply Kd.R_drew)); exact HO_7.out⟩, ⟨by repeat (first | (with_reducible first | exact HB.out | apply below_alloc | apply pw_below_drewN | apply below_drew1) | exact HB.out)⟩⟩
                            · rw [if_neg c31] at H
                              exact absurd H (by simp)
                        · rw [if_neg c29] at H
                          exact absurd H (by simp)
                      · rw [if_neg c28] at H
                        exact absurd H (by simp)
                    · rw [if_neg c27] at H
                      exact absurd H (by simp)
                  · rw [if_neg c25] at H
                    have c25b0 : decide (0 < x10_2) = false := decide_eq_false c25
                    clear c25
                    (first | rw [c25b0] | (simp only [i64_w, i32_w]; rw [c25b0]) | skip)
                    by_cases c37 : 0 ≤ x10_2
                    · rw [if_pos c37] at H
                      have c37b0 : decide (0 ≤ x10_2) = true := decide_eq_true c37
                      clear c37
                      by_cases c38 : x10_2 < (t140.length : Int)
                      · rw [if_pos c38] at H
                        have c38b0 : decide (x10_2 < (t140.length : Int)) = true := decide_eq_true c38
                        clear c38
                        by_cases c39 : ((rd_T36 t136 x10_2).f0) = ((rd_T36 t140 x10_2).f0)
                        · rw [if_pos c39] at H
                          have c39b0 : (((rd_T36 t136 x10_2).f0) == ((rd_T36 t140 x10_2).f0)) = true := beq_iff_eq.mpr c39
                          have c39b1 : (((rd_T36 t136 x10_2).f0) != ((rd_T36 t140 x10_2).f0)) = false := bne_eq_false_iff_eq.mpr c39
                          clear c39
                          by_cases c40 : x10_2 < (t144.length : Int)
                          · as_aux_lemma =>
                            rw [if_pos c40] at H
                            have c40b0 : decide (x10_2 < (t144.length : Int)) = true := decide_eq_true c40
                            clear c40
                            have H' := Aside0.mk H
                            clear H
                            have p155 : 0 ≤ (x10_2 : Int) := of_decide_eq_true (by first | (with_reducible assumption) | assumption)
                            have q155 : x10_2 < (t136.length : Int) := of_decide_eq_true (by first | (with_reducible assumption) | assumption)
                            obtain ⟨ad155, e155, hx155_0, hx155_1⟩ := at_T36 (Kd.R_reads' HO_3.out).2.2 x10_2 p155 q155
                            cases e155
                            replace p155 := eq_true p155
                            replace q155 := eq_true q155
                            obtain ⟨Ao41, co41, eo41⟩ := Kd.R_slice HO_5.out
                            subst eo41
                            have p156 : 0 ≤ (x10_2 : Int) := of_decide_eq_true (by first | (with_reducible assumption) | assumption)
                            have q156 : x10_2 < (t140.length : Int) := of_decide_eq_true (by first | (with_reducible assumption) | assumption)
                            obtain ⟨ad156, e156, hx156_0, hx156_1⟩ := at_T36 (Kd.R_reads' HO_5.out).2.2 x10_2 p156 q156
                            cases e156
                            replace p156 := eq_true p156
                            replace q156 := eq_true q156
                            have p157 : 0 ≤ (x10_2 : Int) := of_decide_eq_true (by first | (with_reducible assumption) | assumption)
                            have q157 : x10_2 < (t136.length : Int) := of_decide_eq_true (by first | (with_reducible assumption) | assumption)
                            obtain ⟨ad157, e157, hx157_0, hx157_1⟩ := at_T36 (Kd.R_reads' HO_3.out).2.2 x10_2 p157 q157
                            obtain rfl : ad155 = ad157 := (by injection e157)
                            replace p157 := eq_true p157
                            replace q157 := eq_true q157
                            obtain ⟨Ao42, co42, eo42⟩ := Kd.R_slice HO_7.out
                            subst eo42
                            have p158 : 0 ≤ (x10_2 : Int) := of_decide_eq_true (by first | (with_reducible assumption) | assumption)
                            have q158 : x10_2 < (t144.length : Int) := of_decide_eq_true (by first | (with_reducible assumption) | assumption)
                            obtain ⟨ad158, e158, hx158_0, hx158_1⟩ := at_T36 (Kd.R_reads' HO_7.out).2.2 x10_2 p158 q158
                            cases e158
                            replace p158 := eq_true p158
                            replace q158 := eq_true q158
                            go_wp2
                            repeat (go_quiet (fail); try go_wp2)
                            go_meet
                            case rel => exact ⟨_, ((((rd_T36 t136 x10_2).f0) != ((rd_T36 t144 x10_2).f0))), (by first | rfl | (simp; done) | (simp [*]; done)), H', ⟨by have := HJ7.out; have := HK2.out; first | omega | exact Nat.le_refl _⟩, ⟨by (with_reducible repeat (first | apply Kd.R_alloc | apply Kd.R_drewN | apply Kd.R_drew)); exact HO_3.out⟩, ⟨by (with_reducible repeat (first | apply Kd.R_alloc | apply Kd.R_drewN | apply Kd.R_drew)); exact HO_5.out⟩, ⟨by (with_reducible repeat (first | apply Kd.R_alloc | apply Kd.R_drewN | apply Kd.R_drew)); exact HO_7.out⟩, ⟨by repeat (first | (with_reducible first | exact HB.out | apply below_alloc | apply pw_below_drewN | apply below_drew1) | exact HB.out)⟩⟩
                          · rw [if_neg c40] at H
                            exact absurd H (by simp)
                        · as_aux_lemma =>
                          rw [if_neg c39] at H
                          have c39b0 : (((rd_T36 t136 x10_2).f0) == ((rd_T36 t140 x10_2).f0)) = false := beq_eq_false_iff_ne.mpr c39
                          have c39b1 : (((rd_T36 t136 x10_2).f0) != ((rd_T36 t140 x10_2).f0)) = true := bne_iff_ne.mpr c39
                          have H' := Aside0.mk H
                          clear H
                          have p155 : 0 ≤ (x10_2 : Int) := of_decide_eq_true (by first | (with_reducible assumption) | assumption)
                          have q155 : x10_2 < (t136.length : Int) := of_decide_eq_true (by first | (with_reducible assumption) | assumption)
                          obtain ⟨ad155, e155, hx155_0, hx155_1⟩ := at_T36 (Kd.R_reads' HO_3.out).2.2 x10_2 p155 q155
                          cases e155
                          replace p155 := eq_true p155
                          replace q155 := eq_true q155
                          obtain ⟨Ao43, co43, eo43⟩ := Kd.R_slice HO_5.out
                          subst eo43
                          have p156 : 0 ≤ (x10_2 : Int) := of_decide_eq_true (by first | (with_reducible assumption) | assumption)
                          have q156 : x10_2 < (t140.length : Int) := of_decide_eq_true (by first | (with_reducible assumption) | assumption)
                          obtain ⟨ad156, e156, hx156_0, hx156_1⟩ := at_T36 (Kd.R_reads' HO_5.out).2.2 x10_2 p156 q156
                          cases e156
                          replace p156 := eq_true p156
                          replace q156 := eq_true q156
                          go_wp2
                          repeat (go_quiet (fail); try go_wp2)
                          go_meet
                          case rel => exact ⟨_, (true), (by first | rfl | (simp; done) | (simp [*]; done)), H', ⟨by have := HJ7.out; have := HK2.out; first | omega | exact Nat.le_refl _⟩, ⟨by (with_reducible repeat (first | apply Kd.R_alloc | apply Kd.R_drewN | apply Kd.R_drew)); exact HO_3.out⟩, ⟨by (with_reducible repeat (first | apply Kd.R_alloc | apply Kd.R_drewN | apply Kd.R_drew)); exact HO_5.out⟩, ⟨by (with_reducible repeat (first | apply Kd.R_alloc | apply Kd.R_drewN | apply Kd.R_drew)); exact HO_7.out⟩, ⟨by repeat (first | (with_reducible first | exact HB.out | apply below_alloc | apply pw_below_drewN | apply below_drew1) | exact HB.out)⟩⟩
                      · rw [if_neg c38] at H
                        exact absurd H (by simp)
                    · rw [if_neg c37] at H
                      exact absurd H (by simp)
                case rest =>
                  as_aux_lemma =>
                  clear HC23
                  try clear c1
                  try clear p1
                  try clear q1
                  try clear hx1
                  try clear c2
                  try clear c2b0
                  try clear c2b1
                  try clear p2
                  try clear c3
                  try clear c4
                  try clear p6
                  try clear c8
                  try clear c12
                  try clear c12b0
                  try clear c12b1
                  try clear c13
                  try clear c13b0
                  try clear c13b1
                  try clear c14
                  try clear c14b0
                  try clear c14b1
                  try clear p14
                  try clear q14
                  try clear hx14
                  try clear c15
                  try clear c15b0
                  try clear c15b1
                  try clear c15b2
                  try clear p15
                  try clear q15
                  try clear hx15
                  try clear c21
                  try clear c22
                  try clear c22b0
                  try clear c25
                  try clear c25b0
                  try clear c27
                  try clear c27b0
                  try clear c28
                  try clear c28b0
                  try clear c29
                  try clear c29b0
                  try clear c30
                  try clear c30b0
                  try clear c31
                  try clear c31b0
                  try clear c32
                  try clear c32b0
                  try clear c32b1
                  try clear c33
                  try clear c33b0
                  try clear c37
                  try clear c37b0
                  try clear c38
                  try clear c38b0
                  try clear c39
                  try clear c39b0
                  try clear c39b1
                  try clear c40
                  try clear c40b0
                  try clear hx149_0
                  try clear hx149_1
                  try clear hx150_0
                  try clear hx150_1
                  try clear hx151_0
                  try clear hx151_1
                  try clear hx152_0
                  try clear hx152_1
                  try clear hx153_0
                  try clear hx153_1
                  try clear hx154_0
                  try clear hx154_1
                  try clear hx155_0
                  try clear hx155_1
                  try clear hx156_0
                  try clear hx156_1
                  try clear hx157_0
                  try clear hx157_1
                  try clear hx158_0
                  try clear hx158_1
                  try clear p149
                  try clear p150
                  try clear p151
                  try clear p152
                  try clear p153
                  try clear p154
                  try clear p155
                  try clear p156
                  try clear p157
                  try clear p158
                  try clear p2
                  try clear q149
                  try clear q150
                  try clear q151
                  try clear q152
                  try clear q153
                  try clear q154
                  try clear q155
                  try clear q156
                  try clear q157
                  try clear q158
                  obtain ⟨kq, x108_22, rfl, HA, HJ22, HO_3, HO_5, HO_7, HB⟩ := hcut
                  cases kq with
                  | zero => exact absurd HA.out (by simp [tailracelaw13_OpersReduces.j2])
                  | succ kj22 =>
                    have H := HA.out
                    clear HA
                    simp only [tailracelaw13_OpersReduces.j2] at H
                    by_cases c44 : x108_22 = true
                    · subst c44
                      have H1 : (some false) = some r := by rw [if_pos rfl] at H; exact H
                      clear H
                      have H := H1
                      clear H1
                      obtain rfl := Option.some.inj H
                      go_wp2
                      repeat (go_quiet (fail); try go_wp2)
                      go_ret
                      exact ⟨by first | rfl | (simp [errW_none, errW_some] <;> rfl) | (simp [*, errW_none, errW_some] <;> rfl), by repeat (first | (with_reducible first | exact HB.out | apply below_alloc | apply pw_below_drewN | apply below_drew1) | exact HB.out)⟩
                    · replace c44 := Bool.eq_false_iff.mpr c44
                      subst c44
                      have H1 : (if 0 ≤ x10_2 then (if x10_2 < (t136.length : Int) then (if x10_2 < (t140.length : Int) then ((tailracelaw13_in.f kj22 l0 ((rd_T36 t140 x10_2).f0) ((rd_T36 t140 x10_2).f1)).bind fun t161 => (if t161 = true then (if x10_2 < (t144.length : Int) then ((tailracelaw13_in.f kj22 l0 ((rd_T36 t144 x10_2).f0) ((rd_T36 t144 x10_2).f1)).bind fun t163 => (tailracelaw13_OpersReduces.j3 kj22 l0 t136 t140 t144 (wrap64 (x9_2 + ((rd_T36 t136 x10_2).f1))) x10_2 (!t163))) else (none)) else (tailracelaw13_OpersReduces.j3 kj22 l0 t136 t140 t144 (wrap64 (x9_2 + ((rd_T36 t136 x10_2).f1))) x10_2 true))) else (none)) else (none)) else (none)) = some r := by rw [if_neg (show ¬ (false = true) by decide)] at H; exact H
                      clear H
                      have H := H1
                      clear H1
                      by_cases c45 : 0 ≤ x10_2
                      · rw [if_pos c45] at H
                        have c45b0 : decide (0 ≤ x10_2) = true := decide_eq_true c45
                        clear c45
                        by_cases c46 : x10_2 < (t136.length : Int)
                        · rw [if_pos c46] at H
                          have c46b0 : decide (x10_2 < (t136.length : Int)) = true := decide_eq_true c46
                          clear c46
                          have HC47 := Aside0.mk H
                          clear H
                          have p159 : 0 ≤ (x10_2 : Int) := of_decide_eq_true (by first | (with_reducible assumption) | assumption)
                          have q159 : x10_2 < (t136.length : Int) := of_decide_eq_true (by first | (with_reducible assumption) | assumption)
                          obtain ⟨ad159, e159, hx159_0, hx159_1⟩ := at_T36 (Kd.R_reads' HO_3.out).2.2 x10_2 p159 q159
                          cases e159
                          replace p159 := eq_true p159
                          replace q159 := eq_true q159
                          go_upto_region 15 with (fail)
                          repeat (go_quiet (fail); go_upto_region 15 with (fail))
                          go_cut [131] (fun v131 wc => ∃ (kq : Nat) (x131_46 : Bool), v131 = .bool x131_46 ∧ Aside0 (tailracelaw13_OpersReduces.j3 kq l0 t136 t140 t144 (wrap64 (x9_2 + ((rd_T36 t136 x10_2).f1))) x10_2 x131_46 = some r) ∧ Aside0 (kq ≤ kj22) ∧ Aside0 (Kd.R k36 36 wc w.heap.size (fun k_ => some k_ ≠ (v141 : Value).ownBlock ∧ some k_ ≠ (v145 : Value).ownBlock) (.slice (some ad159) t136.length co24) t136) ∧ Aside0 (Kd.R k36 36 wc w.heap.size (fun k_ => some k_ ≠ ((.slice (some ad159) t136.length co24) : Value).ownBlock ∧ some k_ ≠ (v145 : Value).ownBlock) v141 t140) ∧ Aside0 (Kd.R k36 36 wc w.heap.size (fun k_ => some k_ ≠ ((.slice (some ad159) t136.length co24) : Value).ownBlock ∧ some k_ ≠ (v141 : Value).ownBlock) v145 t144) ∧ Aside0 (Below w.heap.size w wc))
                          case first =>
                            as_aux_lemma =>
                            have H := HC47.out
                            clear HC47
                            by_cases c48 : x10_2 < (t140.length : Int)
                            · rw [if_pos c48] at H
                              have c48b0 : decide (x10_2 < (t140.length : Int)) = true := decide_eq_true c48
                              clear c48
                              (first | rw [c48b0] | (simp only [i64_w, i32_w]; rw [c48b0]) | skip)
                              replace H := Option.bind_eq_some_iff.mp H
                              obtain ⟨t161, A490, H⟩ := H
                              replace H : (if t161 = true then (if x10_2 < (t144.length : Int) then ((tailracelaw13_in.f kj22 l0 ((rd_T36 t144 x10_2).f0) ((rd_T36 t144 x10_2).f1)).bind fun t163 => (tailracelaw13_OpersReduces.j3 kj22 l0 t136 t140 t144 (wrap64 (x9_2 + ((rd_T36 t136 x10_2).f1))) x10_2 (!t163))) else (none)) else (tailracelaw13_OpersReduces.j3 kj22 l0 t136 t140 t144 (wrap64 (x9_2 + ((rd_T36 t136 x10_2).f1))) x10_2 true)) = some r := H
                              have A49 := Aside0.mk A490
                              clear A490
                              by_cases c50 : t161 = true
                              · subst c50
                                have H1 : (if x10_2 < (t144.length : Int) then ((tailracelaw13_in.f kj22 l0 ((rd_T36 t144 x10_2).f0) ((rd_T36 t144 x10_2).f1)).bind fun t163 => (tailracelaw13_OpersReduces.j3 kj22 l0 t136 t140 t144 (wrap64 (x9_2 + ((rd_T36 t136 x10_2).f1))) x10_2 (!t163))) else (none)) = some r := by rw [if_pos rfl] at H; exact H
                                clear H
                                have H := H1
                                clear H1
                                by_cases c51 : x10_2 < (t144.length : Int)
                                · as_aux_lemma =>
                                  rw [if_pos c51] at H
                                  have c51b0 : decide (x10_2 < (t144.length : Int)) = true := decide_eq_true c51
                                  clear c51
                                  replace H := Option.bind_eq_some_iff.mp H
                                  obtain ⟨t163, A520, H⟩ := H
                                  replace H : (tailracelaw13_OpersReduces.j3 kj22 l0 t136 t140 t144 (wrap64 (x9_2 + ((rd_T36 t136 x10_2).f1))) x10_2 (!t163)) = some r := H
                                  have A52 := Aside0.mk A520
                                  clear A520
                                  have H' := Aside0.mk H
                                  clear H
                                  obtain ⟨Ao53, co53, eo53⟩ := Kd.R_slice HO_5.out
                                  subst eo53
                                  have p160 : 0 ≤ (x10_2 : Int) := of_decide_eq_true (by first | (with_reducible assumption) | assumption)
                                  have q160 : x10_2 < (t140.length : Int) := of_decide_eq_true (by first | (with_reducible assumption) | assumption)
                                  obtain ⟨ad160, e160, hx160_0, hx160_1⟩ := at_T36 (Kd.R_reads' HO_5.out).2.2 x10_2 p160 q160
                                  cases e160
                                  replace p160 := eq_true p160
                                  replace q160 := eq_true q160
                                  go_wp2_with (first | (go_at_call 23; (with_reducible refine (tailracelaw13_in.calls kj22 _ _ l0 ((rd_T36 t140 x10_2).f0) ((rd_T36 t140 x10_2).f1) true _ ?side1 ?side2 A49.out).mono ?_); (case side1 => repeat (first | exact (Kd.C_below HR0.out HB.out) | (with_reducible refine Kd.C_alloc ?_ _) | (with_reducible refine Kd.C_drewN ?_ _) | (with_reducible refine Kd.C_drew ?_))); (case side2 => exact HC0.out); rintro e w54 ⟨rfl, hb⟩; have n0_ := Aside0.mk (Kd.R_below (by (with_reducible repeat (first | apply Kd.R_alloc | apply Kd.R_drewN | apply Kd.R_drew)); exact HO_3.out) hb); have n1_ := Aside0.mk (Kd.R_below (by (with_reducible repeat (first | apply Kd.R_alloc | apply Kd.R_drewN | apply Kd.R_drew)); exact HO_5.out) hb); have n2_ := Aside0.mk (Kd.R_below (by (with_reducible repeat (first | apply Kd.R_alloc | apply Kd.R_drewN | apply Kd.R_drew)); exact HO_7.out) hb); have n3_ := Aside0.mk (below_step (by repeat (first | (with_reducible first | exact HB.out | apply below_alloc | apply pw_below_drewN | apply below_drew1) | exact HB.out)) hb); clear HO_3; clear HO_5; clear HO_7; clear HB; have HO_3 := n0_; have HO_5 := n1_; have HO_7 := n2_; have HB := n3_; clear n0_ n1_ n2_ n3_; (try clear hb); (try clear hb2); (try clear hk); (try clear hi); obtain ⟨Ao55, co55, eo55⟩ := Kd.R_slice HO_7.out; subst eo55; have p162 : 0 ≤ (x10_2 : Int) := of_decide_eq_true (by first | (with_reducible assumption) | assumption); have q162 : x10_2 < (t144.length : Int) := of_decide_eq_true (by first | (with_reducible assumption) | assumption); obtain ⟨ad162, e162, hx162_0, hx162_1⟩ := at_T36 (Kd.R_reads' HO_7.out).2.2 x10_2 p162 q162; cases e162; replace p162 := eq_true p162; replace q162 := eq_true q162) | (go_at_call 23; (with_reducible refine (tailracelaw13_in.calls kj22 _ _ l0 ((rd_T36 t144 x10_2).f0) ((rd_T36 t144 x10_2).f1) t163 _ ?side1 ?side2 A52.out).mono ?_); (case side1 => repeat (first | exact (Kd.C_below HR0.out HB.out) | (with_reducible refine Kd.C_alloc ?_ _) | (with_reducible refine Kd.C_drewN ?_ _) | (with_reducible refine Kd.C_drew ?_))); (case side2 => exact HC0.out); rintro e w56 ⟨rfl, hb⟩; have n0_ := Aside0.mk (Kd.R_below (by (with_reducible repeat (first | apply Kd.R_alloc | apply Kd.R_drewN | apply Kd.R_drew)); exact HO_3.out) hb); have n1_ := Aside0.mk (Kd.R_below (by (with_reducible repeat (first | apply Kd.R_alloc | apply Kd.R_drewN | apply Kd.R_drew)); exact HO_5.out) hb); have n2_ := Aside0.mk (Kd.R_below (by (with_reducible repeat (first | apply Kd.R_alloc | apply Kd.R_drewN | apply Kd.R_drew)); exact HO_7.out) hb); have n3_ := Aside0.mk (below_step (by repeat (first | (with_reducible first | exact HB.out | apply below_alloc | apply pw_below_drewN | apply below_drew1) | exact HB.out)) hb); clear HO_3; clear HO_5; clear HO_7; clear HB; have HO_3 := n0_; have HO_5 := n1_; have HO_7 := n2_; have HB := n3_; clear n0_ n1_ n2_ n3_; (try clear hb); (try clear hb2); (try clear hk); (try clear hi)))
                                  repeat (go_quiet (first | (go_at_call 23; (with_reducible refine (tailracelaw13_in.calls kj22 _ _ l0 ((rd_T36 t140 x10_2).f0) ((rd_T36 t140 x10_2).f1) true _ ?side1 ?side2 A49.out).mono ?_); (case side1 => repeat (first | exact (Kd.C_below HR0.out HB.out) | (with_reducible refine Kd.C_alloc ?_ _) | (with_reducible refine Kd.C_drewN ?_ _) | (with_reducible refine Kd.C_drew ?_))); (case side2 => exact HC0.out); rintro e w54 ⟨rfl, hb⟩; have n0_ := Aside0.mk (Kd.R_below (by (with_reducible repeat (first | apply Kd.R_alloc | apply Kd.R_drewN | apply Kd.R_drew)); exact HO_3.out) hb); have n1_ := Aside0.mk (Kd.R_below (by (with_reducible repeat (first | apply Kd.R_alloc | apply Kd.R_drewN | apply Kd.R_drew)); exact HO_5.out) hb); have n2_ := Aside0.mk (Kd.R_below (by (with_reducible repeat (first | apply Kd.R_alloc | apply Kd.R_drewN | apply Kd.R_drew)); exact HO_7.out) hb); have n3_ := Aside0.mk (below_step (by repeat (first | (with_reducible first | exact HB.out | apply below_alloc | apply pw_below_drewN | apply below_drew1) | exact HB.out)) hb); clear HO_3; clear HO_5; clear HO_7; clear HB; have HO_3 := n0_; have HO_5 := n1_; have HO_7 := n2_; have HB := n3_; clear n0_ n1_ n2_ n3_; (try clear hb); (try clear hb2); (try clear hk); (try clear hi); obtain ⟨Ao55, co55, eo55⟩ := Kd.R_slice HO_7.out; subst eo55; have p162 : 0 ≤ (x10_2 : Int) := of_decide_eq_true (by first | (with_reducible assumption) | assumption); have q162 : x10_2 < (t144.length : Int) := of_decide_eq_true (by first | (with_reducible assumption) | assumption); obtain ⟨ad162, e162, hx162_0, hx162_1⟩ := at_T36 (Kd.R_reads' HO_7.out).2.2 x10_2 p162 q162; cases e162; replace p162 := eq_true p162; replace q162 := eq_true q162) | (go_at_call 23; (with_reducible refine (tailracelaw13_in.calls kj22 _ _ l0 ((rd_T36 t144 x10_2).f0) ((rd_T36 t144 x10_2).f1) t163 _ ?side1 ?side2 A52.out).mono ?_); (case side1 => repeat (first | exact (Kd.C_below HR0.out HB.out) | (with_reducible refine Kd.C_alloc ?_ _) | (with_reducible refine Kd.C_drewN ?_ _) | (with_reducible refine Kd.C_drew ?_))); (case side2 => exact HC0.out); rintro e w56 ⟨rfl, hb⟩; have n0_ := Aside0.mk (Kd.R_below (by (with_reducible repeat (first | apply Kd.R_alloc | apply Kd.R_drewN | apply Kd.R_drew)); exact HO_3.out) hb); have n1_ := Aside0.mk (Kd.R_below (by (with_reducible repeat (first | apply Kd.R_alloc | apply Kd.R_drewN | apply Kd.R_drew)); exact HO_5.out) hb); have n2_ := Aside0.mk (Kd.R_below (by (with_reducible repeat (first | apply Kd.R_alloc | apply Kd.R_drewN | apply Kd.R_drew)); exact HO_7.out) hb); have n3_ := Aside0.mk (below_step (by repeat (first | (with_reducible first | exact HB.out | apply below_alloc | apply pw_below_drewN | apply below_drew1) | exact HB.out)) hb); clear HO_3; clear HO_5; clear HO_7; clear HB; have HO_3 := n0_; have HO_5 := n1_; have HO_7 := n2_; have HB := n3_; clear n0_ n1_ n2_ n3_; (try clear hb); (try clear hb2); (try clear hk); (try clear hi))); try go_wp2_with (first | (go_at_call 23; (with_reducible refine (tailracelaw13_in.calls kj22 _ _ l0 ((rd_T36 t140 x10_2).f0) ((rd_T36 t140 x10_2).f1) true _ ?side1 ?side2 A49.out).mono ?_); (case side1 => repeat (first | exact (Kd.C_below HR0.out HB.out) | (with_reducible refine Kd.C_alloc ?_ _) | (with_reducible refine Kd.C_drewN ?_ _) | (with_reducible refine Kd.C_drew ?_))); (case side2 => exact HC0.out); rintro e w54 ⟨rfl, hb⟩; have n0_ := Aside0.mk (Kd.R_below (by (with_reducible repeat (first | apply Kd.R_alloc | apply Kd.R_drewN | apply Kd.R_drew)); exact HO_3.out) hb); have n1_ := Aside0.mk (Kd.R_below (by (with_reducible repeat (first | apply Kd.R_alloc | apply Kd.R_drewN | apply Kd.R_drew)); exact HO_5.out) hb); have n2_ := Aside0.mk (Kd.R_below (by (with_reducible repeat (first | apply Kd.R_alloc | apply Kd.R_drewN | apply Kd.R_drew)); exact HO_7.out) hb); have n3_ := Aside0.mk (below_step (by repeat (first | (with_reducible first | exact HB.out | apply below_alloc | apply pw_below_drewN | apply below_drew1) | exact HB.out)) hb); clear HO_3; clear HO_5; clear HO_7; clear HB; have HO_3 := n0_; have HO_5 := n1_; have HO_7 := n2_; have HB := n3_; clear n0_ n1_ n2_ n3_; (try clear hb); (try clear hb2); (try clear hk); (try clear hi); obtain ⟨Ao55, co55, eo55⟩ := Kd.R_slice HO_7.out; subst eo55; have p162 : 0 ≤ (x10_2 : Int) := of_decide_eq_true (by first | (with_reducible assumption) | assumption); have q162 : x10_2 < (t144.length : Int) := of_decide_eq_true (by first | (with_reducible assumption) | assumption); obtain ⟨ad162, e162, hx162_0, hx162_1⟩ := at_T36 (Kd.R_reads' HO_7.out).2.2 x10_2 p162 q162; cases e162; replace p162 := eq_true p162; replace q162 := eq_true q162) | (go_at_call 23; (with_reducible refine (tailracelaw13_in.calls kj22 _ _ l0 ((rd_T36 t144 x10_2).f0) ((rd_T36 t144 x10_2).f1) t163 _ ?side1 ?side2 A52.out).mono ?_); (case side1 => repeat (first | exact (Kd.C_below HR0.out HB.out) | (with_reducible refine Kd.C_alloc ?_ _) | (with_reducible refine Kd.C_drewN ?_ _) | (with_reducible refine Kd.C_drew ?_))); (case side2 => exact HC0.out); rintro e w56 ⟨rfl, hb⟩; have n0_ := Aside0.mk (Kd.R_below (by (with_reducible repeat (first | apply Kd.R_alloc | apply Kd.R_drewN | apply Kd.R_drew)); exact HO_3.out) hb); have n1_ := Aside0.mk (Kd.R_below (by (with_reducible repeat (first | apply Kd.R_alloc | apply Kd.R_drewN | apply Kd.R_drew)); exact HO_5.out) hb); have n2_ := Aside0.mk (Kd.R_below (by (with_reducible repeat (first | apply Kd.R_alloc | apply Kd.R_drewN | apply Kd.R_drew)); exact HO_7.out) hb); have n3_ := Aside0.mk (below_step (by repeat (first | (with_reducible first | exact HB.out | apply below_alloc | apply pw_below_drewN | apply below_drew1) | exact HB.out)) hb); clear HO_3; clear HO_5; clear HO_7; clear HB; have HO_3 := n0_; have HO_5 := n1_; have HO_7 := n2_; have HB := n3_; clear n0_ n1_ n2_ n3_; (try clear hb); (try clear hb2); (try clear hk); (try clear hi))))
                                  go_meet
                                  case rel => exact ⟨_, (!t163), (by first | rfl | (simp; done) | (simp [*]; done)), H', ⟨by have := HJ7.out; have := HK2.out; have := HJ22.out; first | omega | exact Nat.le_refl _⟩, ⟨by (with_reducible repeat (first | apply Kd.R_alloc | apply Kd.R_drewN | apply Kd.R_drew)); exact HO_3.out⟩, ⟨by (with_reducible repeat (first | apply Kd.R_alloc | apply Kd.R_drewN | apply Kd.R_drew)); exact HO_5.out⟩, ⟨by (with_reducible repeat (first | apply Kd.R_alloc | apply Kd.R_drewN | apply Kd.R_drew)); exact HO_7.out⟩, ⟨by repeat (first | (with_reducible first | exact HB.out | apply below_alloc | apply pw_below_drewN | apply below_drew1) | exact HB.out)⟩⟩
                                · rw [if_neg c51] at H
                                  exact absurd H (by simp)
                              · replace c50 := Bool.eq_false_iff.mpr c50
                                subst c50
                                have H1 : (tailracelaw13_OpersReduces.j3 kj22 l0 t136 t140 t144 (wrap64 (x9_2 + ((rd_T36 t136 x10_2).f1))) x10_2 true) = some r := by rw [if_neg (show ¬ (false = true) by decide)] at H; exact H
                                clear H
                                have H := H1
                                clear H1
                                have H' := Aside0.mk H
                                clear H
                                obtain ⟨Ao57, co57, eo57⟩ := Kd.R_slice HO_5.out
                                subst eo57
                                have p160 : 0 ≤ (x10_2 : Int) := of_decide_eq_true (by first | (with_reducible assumption) | assumption)
                                have q160 : x10_2 < (t140.length : Int) := of_decide_eq_true (by first | (with_reducible assumption) | assumption)
                                obtain ⟨ad160, e160, hx160_0, hx160_1⟩ := at_T36 (Kd.R_reads' HO_5.out).2.2 x10_2 p160 q160
                                cases e160
                                replace p160 := eq_true p160
                                replace q160 := eq_true q160
                                go_wp2_with (first | (go_at_call 23; (with_reducible refine (tailracelaw13_in.calls kj22 _ _ l0 ((rd_T36 t140 x10_2).f0) ((rd_T36 t140 x10_2).f1) false _ ?side1 ?side2 A49.out).mono ?_); (case side1 => repeat (first | exact (Kd.C_below HR0.out HB.out) | (with_reducible refine Kd.C_alloc ?_ _) | (with_reducible refine Kd.C_drewN ?_ _) | (with_reducible refine Kd.C_drew ?_))); (case side2 => exact HC0.out); rintro e w58 ⟨rfl, hb⟩; have n0_ := Aside0.mk (Kd.R_below (by (with_reducible repeat (first | apply Kd.R_alloc | apply Kd.R_drewN | apply Kd.R_drew)); exact HO_3.out) hb); have n1_ := Aside0.mk (Kd.R_below (by (with_reducible repeat (first | apply Kd.R_alloc | apply Kd.R_drewN | apply Kd.R_drew)); exact HO_5.out) hb); have n2_ := Aside0.mk (Kd.R_below (by (with_reducible repeat (first | apply Kd.R_alloc | apply Kd.R_drewN | apply Kd.R_drew)); exact HO_7.out) hb); have n3_ := Aside0.mk (below_step (by repeat (first | (with_reducible first | exact HB.out | apply below_alloc | apply pw_below_drewN | apply below_drew1) | exact HB.out)) hb); clear HO_3; clear HO_5; clear HO_7; clear HB; have HO_3 := n0_; have HO_5 := n1_; have HO_7 := n2_; have HB := n3_; clear n0_ n1_ n2_ n3_; (try clear hb); (try clear hb2); (try clear hk); (try clear hi)))
                                repeat (go_quiet (first | (go_at_call 23; (with_reducible refine (tailracelaw13_in.calls kj22 _ _ l0 ((rd_T36 t140 x10_2).f0) ((rd_T36 t140 x10_2).f1) false _ ?side1 ?side2 A49.out).mono ?_); (case side1 => repeat (first | exact (Kd.C_below HR0.out HB.out) | (with_reducible refine Kd.C_alloc ?_ _) | (with_reducible refine Kd.C_drewN ?_ _) | (with_reducible refine Kd.C_drew ?_))); (case side2 => exact HC0.out); rintro e w58 ⟨rfl, hb⟩; have n0_ := Aside0.mk (Kd.R_below (by (with_reducible repeat (first | apply Kd.R_alloc | apply Kd.R_drewN | apply Kd.R_drew)); exact HO_3.out) hb); have n1_ := Aside0.mk (Kd.R_below (by (with_reducible repeat (first | apply Kd.R_alloc | apply Kd.R_drewN | apply Kd.R_drew)); exact HO_5.out) hb); have n2_ := Aside0.mk (Kd.R_below (by (with_reducible repeat (first | apply Kd.R_alloc | apply Kd.R_drewN | apply Kd.R_drew)); exact HO_7.out) hb); have n3_ := Aside0.mk (below_step (by repeat (first | (with_reducible first | exact HB.out | apply below_alloc | apply pw_below_drewN | apply below_drew1) | exact HB.out)) hb); clear HO_3; clear HO_5; clear HO_7; clear HB; have HO_3 := n0_; have HO_5 := n1_; have HO_7 := n2_; have HB := n3_; clear n0_ n1_ n2_ n3_; (try clear hb); (try clear hb2); (try clear hk); (try clear hi))); try go_wp2_with (first | (go_at_call 23; (with_reducible refine (tailracelaw13_in.calls kj22 _ _ l0 ((rd_T36 t140 x10_2).f0) ((rd_T36 t140 x10_2).f1) false _ ?side1 ?side2 A49.out).mono ?_); (case side1 => repeat (first | exact (Kd.C_below HR0.out HB.out) | (with_reducible refine Kd.C_alloc ?_ _) | (with_reducible refine Kd.C_drewN ?_ _) | (with_reducible refine Kd.C_drew ?_))); (case side2 => exact HC0.out); rintro e w58 ⟨rfl, hb⟩; have n0_ := Aside0.mk (Kd.R_below (by (with_reducible repeat (first | apply Kd.R_alloc | apply Kd.R_drewN | apply Kd.R_drew)); exact HO_3.out) hb); have n1_ := Aside0.mk (Kd.R_below (by (with_reducible repeat (first | apply Kd.R_alloc | apply Kd.R_drewN | apply Kd.R_drew)); exact HO_5.out) hb); have n2_ := Aside0.mk (Kd.R_below (by (with_reducible repeat (first | apply Kd.R_alloc | apply Kd.R_drewN | apply Kd.R_drew)); exact HO_7.out) hb); have n3_ := Aside0.mk (below_step (by repeat (first | (with_reducible first | exact HB.out | apply below_alloc | apply pw_below_drewN | apply below_drew1) | exact HB.out)) hb); clear HO_3; clear HO_5; clear HO_7; clear HB; have HO_3 := n0_; have HO_5 := n1_; have HO_7 := n2_; have HB := n3_; clear n0_ n1_ n2_ n3_; (try clear hb); (try clear hb2); (try clear hk); (try clear hi))))
                                go_meet
                                case rel => exact ⟨_, (true), (by first | rfl | (simp; done) | (simp [*]; done)), H', ⟨by have := HJ7.out; have := HK2.out; have := HJ22.out; first | omega | exact Nat.le_refl _⟩, ⟨by (with_reducible repeat (first | apply Kd.R_alloc | apply Kd.R_drewN | apply Kd.R_drew)); exact HO_3.out⟩, ⟨by (with_reducible repeat (first | apply Kd.R_alloc | apply Kd.R_drewN | apply Kd.R_drew)); exact HO_5.out⟩, ⟨by (with_reducible repeat (first | apply Kd.R_alloc | apply Kd.R_drewN | apply Kd.R_drew)); exact HO_7.out⟩, ⟨by repeat (first | (with_reducible first | exact HB.out | apply below_alloc | apply pw_below_drewN | apply below_drew1) | exact HB.out)⟩⟩
                            · rw [if_neg c48] at H
                              exact absurd H (by simp)
                          case rest =>
                            as_aux_lemma =>
                            clear HC47
                            try clear c1
                            try clear p1
                            try clear q1
                            try clear hx1
                            try clear c2
                            try clear c2b0
                            try clear c2b1
                            try clear p2
                            try clear c3
                            try clear c4
                            try clear c5
                            try clear p6
                            try clear c8
                            try clear c12
                            try clear c12b0
                            try clear c12b1
                            try clear c13
                            try clear c13b0
                            try clear c13b1
                            try clear c14
                            try clear c14b0
                            try clear c14b1
                            try clear p14
                            try clear q14
                            try clear hx14
                            try clear c15
                            try clear c15b0
                            try clear c15b1
                            try clear c15b2
                            try clear p15
                            try clear q15
                            try clear hx15
                            try clear p16
                            try clear q16
                            try clear hx16
                            try clear c21
                            try clear c22
                            try clear c22b0
                            try clear c25
                            try clear c25b0
                            try clear c27
                            try clear c27b0
                            try clear c28
                            try clear c28b0
                            try clear c29
                            try clear c29b0
                            try clear c30
                            try clear c30b0
                            try clear c31
                            try clear c31b0
                            try clear c32
                            try clear c32b0
                            try clear c32b1
                            try clear c33
                            try clear c33b0
                            try clear c37
                            try clear c37b0
                            try clear c38
                            try clear c38b0
                            try clear c39
                            try clear c39b0
                            try clear c39b1
                            try clear c40
                            try clear c40b0
                            try clear c44
                            try clear c45
                            try clear c45b0
                            try clear c46
                            try clear c46b0
                            try clear c48
                            try clear c48b0
                            try clear c50
                            try clear c51
                            try clear c51b0
                            try clear hx149_0
                            try clear hx149_1
                            try clear hx150_0
                            try clear hx150_1
                            try clear hx151_0
                            try clear hx151_1
                            try clear hx152_0
                            try clear hx152_1
                            try clear hx153_0
                            try clear hx153_1
                            try clear hx154_0
                            try clear hx154_1
                            try clear hx155_0
                            try clear hx155_1
                            try clear hx156_0
                            try clear hx156_1
                            try clear hx157_0
                            try clear hx157_1
                            try clear hx158_0
                            try clear hx158_1
                            try clear hx159_0
                            try clear hx159_1
                            try clear hx160_0
                            try clear hx160_1
                            try clear hx162_0
                            try clear hx162_1
                            try clear p1
                            try clear p14
                            try clear p149
                            try clear p15
                            try clear p150
                            try clear p151
                            try clear p152
                            try clear p153
                            try clear p154
                            try clear p155
                            try clear p156
                            try clear p157
                            try clear p158
                            try clear p159
                            try clear p160
                            try clear p162
                            try clear p2
                            try clear p6
                            try clear q1
                            try clear q14
                            try clear q149
                            try clear q15
                            try clear q150
                            try clear q151
                            try clear q152
                            try clear q153
                            try clear q154
                            try clear q155
                            try clear q156
                            try clear q157
                            try clear q158
                            try clear q159
                            try clear q160
                            try clear q162
                            obtain ⟨kq, x131_46, rfl, HA, HJ46, HO_3, HO_5, HO_7, HB⟩ := hcut
                            cases kq with
                            | zero => exact absurd HA.out (by simp [tailracelaw13_OpersReduces.j3])
                            | succ kj46 =>
                              have H := HA.out
                              clear HA
                              simp only [tailracelaw13_OpersReduces.j3] at H
                              by_cases c59 : x131_46 = true
                              · subst c59
                                have H1 : (some false) = some r := by rw [if_pos rfl] at H; exact H
                                clear H
                                have H := H1
                                clear H1
                                obtain rfl := Option.some.inj H
                                go_wp2
                                repeat (go_quiet (fail); try go_wp2)
                                go_ret
                                exact ⟨by first | rfl | (simp [errW_none, errW_some] <;> rfl) | (simp [*, errW_none, errW_some] <;> rfl), by repeat (first | (with_reducible first | exact HB.out | apply below_alloc | apply pw_below_drewN | apply below_drew1) | exact HB.out)⟩
                              · replace c59 := Bool.eq_false_iff.mpr c59
                                subst c59
                                have H1 : (tailracelaw13_OpersReduces.l1 kj46 l0 t136 t140 t144 (wrap64 (x9_2 + ((rd_T36 t136 x10_2).f1))) x10_2 0) = some r := by rw [if_neg (show ¬ (false = true) by decide)] at H; exact H
                                clear H
                                have H := H1
                                clear H1
                                have H' := Aside0.mk H
                                clear H
                                go_wp2
                                repeat (go_quiet (fail); try go_wp2)
                                go_loopg [11] kj46 (fun kq v11 w' => ∃ (x11_5 : Int), v11 = .int .i64 x11_5 ∧ Aside0 (tailracelaw13_OpersReduces.l1 kq l0 t136 t140 t144 (wrap64 (x9_2 + ((rd_T36 t136 x10_2).f1))) x10_2 x11_5 = some r) ∧ Aside0 (kq ≤ kj46) ∧ Aside0 (Kd.R k36 36 w' w.heap.size (fun k_ => some k_ ≠ (v141 : Value).ownBlock ∧ some k_ ≠ (v145 : Value).ownBlock) (.slice (some ad159) t136.length co24) t136) ∧ Aside0 (Kd.R k36 36 w' w.heap.size (fun k_ => some k_ ≠ ((.slice (some ad159) t136.length co24) : Value).ownBlock ∧ some k_ ≠ (v145 : Value).ownBlock) v141 t140) ∧ Aside0 (Kd.R k36 36 w' w.heap.size (fun k_ => some k_ ≠ ((.slice (some ad159) t136.length co24) : Value).ownBlock ∧ some k_ ≠ (v141 : Value).ownBlock) v145 t144) ∧ Aside0 (Below w.heap.size w w'))
                                case atStart => exact ⟨(0), (by first | rfl | (simp; done) | (simp [*]; done)), H', ⟨Nat.le_refl _⟩, ⟨by (with_reducible repeat (first | apply Kd.R_alloc | apply Kd.R_drewN | apply Kd.R_drew)); exact HO_3.out⟩, ⟨by (with_reducible repeat (first | apply Kd.R_alloc | apply Kd.R_drewN | apply Kd.R_drew)); exact HO_5.out⟩, ⟨by (with_reducible repeat (first | apply Kd.R_alloc | apply Kd.R_drewN | apply Kd.R_drew)); exact HO_7.out⟩, ⟨by repeat (first | (with_reducible first | exact HB.out | apply below_alloc | apply pw_below_drewN | apply below_drew1) | exact HB.out)⟩⟩
                                case round =>
                                  as_aux_lemma =>
                                  clear H'
                                  try clear c1
                                  try clear p1
                                  try clear q1
                                  try clear hx1
                                  try clear c2
                                  try clear c2b0
                                  try clear c2b1
                                  try clear p2
                                  try clear c3
                                  try clear c4
                                  try clear c5
                                  try clear p6
                                  try clear c8
                                  try clear c12
                                  try clear c12b0
                                  try clear c12b1
                                  try clear c13
                                  try clear c13b0
                                  try clear c13b1
                                  try clear c14
                                  try clear c14b0
                                  try clear c14b1
                                  try clear p14
                                  try clear q14
                                  try clear hx14
                                  try clear c15
                                  try clear c15b0
                                  try clear c15b1
                                  try clear c15b2
                                  try clear p15
                                  try clear q15
                                  try clear hx15
                                  try clear p16
                                  try clear q16
                                  try clear hx16
                                  try clear c21
                                  try clear c22
                                  try clear c22b0
                                  try clear c25
                                  try clear c25b0
                                  try clear c27
                                  try clear c27b0
                                  try clear c28
                                  try clear c28b0
                                  try clear c29
                                  try clear c29b0
                                  try clear c30
                                  try clear c30b0
                                  try clear c31
                                  try clear c31b0
                                  try clear c32
                                  try clear c32b0
                                  try clear c32b1
                                  try clear c33
                                  try clear c33b0
                                  try clear c37
                                  try clear c37b0
                                  try clear c38
                                  try clear c38b0
                                  try clear c39
                                  try clear c39b0
                                  try clear c39b1
                                  try clear c40
                                  try clear c40b0
                                  try clear c44
                                  try clear c45
                                  try clear c45b0
                                  try clear c46
                                  try clear c46b0
                                  try clear c48
                                  try clear c48b0
                                  try clear c50
                                  try clear c51
                                  try clear c51b0
                                  try clear c59
                                  try clear hx149_0
                                  try clear hx149_1
                                  try clear hx150_0
                                  try clear hx150_1
                                  try clear hx151_0
                                  try clear hx151_1
                                  try clear hx152_0
                                  try clear hx152_1
                                  try clear hx153_0
                                  try clear hx153_1
                                  try clear hx154_0
                                  try clear hx154_1
                                  try clear hx155_0
                                  try clear hx155_1
                                  try clear hx156_0
                                  try clear hx156_1
                                  try clear hx157_0
                                  try clear hx157_1
                                  try clear hx158_0
                                  try clear hx158_1
                                  try clear hx159_0
                                  try clear hx159_1
                                  try clear hx160_0
                                  try clear hx160_1
                                  try clear hx162_0
                                  try clear hx162_1
                                  try clear p1
                                  try clear p14
                                  try clear p149
                                  try clear p15
                                  try clear p150
                                  try clear p151
                                  try clear p152
                                  try clear p153
                                  try clear p154
                                  try clear p155
                                  try clear p156
                                  try clear p157
                                  try clear p158
                                  try clear p159
                                  try clear p16
                                  try clear p160
                                  try clear p162
                                  try clear p2
                                  try clear p6
                                  try clear q1
                                  try clear q14
                                  try clear q149
                                  try clear q15
                                  try clear q150
                                  try clear q151
                                  try clear q152
                                  try clear q153
                                  try clear q154
                                  try clear q155
                                  try clear q156
                                  try clear q157
                                  try clear q158
                                  try clear q159
                                  try clear q16
                                  try clear q160
                                  try clear q162
                                  obtain ⟨x11_5, rfl, HA, HK5, HO_3, HO_5, HO_7, HB⟩ := hrel
                                  cases gk with
                                  | zero => exact absurd HA.out (by simp [tailracelaw13_OpersReduces.l1])
                                  | succ k5 =>
                                    have H := HA.out
                                    clear HA
                                    simp only [tailracelaw13_OpersReduces.l1] at H
                                    by_cases c60 : x11_5 < (l0.length : Int)
                                    · rw [if_pos c60] at H
                                      have c60b0 : decide (x11_5 < (l0.length : Int)) = true := decide_eq_true c60
                                      clear c60
                                      by_cases c61 : 0 ≤ x11_5
                                      · rw [if_pos c61] at H
                                        have c61b0 : decide (0 ≤ x11_5) = true := decide_eq_true c61
                                        clear c61
                                        by_cases c62 : 0 ≤ x10_2
                                        · rw [if_pos c62] at H
                                          have c62b0 : decide (0 ≤ x10_2) = true := decide_eq_true c62
                                          clear c62
                                          by_cases c63 : x10_2 < (t136.length : Int)
                                          · rw [if_pos c63] at H
                                            have c63b0 : decide (x10_2 < (t136.length : Int)) = true := decide_eq_true c63
                                            clear c63
                                            by_cases c64 : ((rd_T36 l0 x11_5).f0) = ((rd_T36 t136 x10_2).f0)
                                            · rw [if_pos c64] at H
                                              have c64b0 : (((rd_T36 l0 x11_5).f0) == ((rd_T36 t136 x10_2).f0)) = true := beq_iff_eq.mpr c64
                                              have c64b1 : (((rd_T36 l0 x11_5).f0) != ((rd_T36 t136 x10_2).f0)) = false := bne_eq_false_iff_eq.mpr c64
                                              clear c64
                                              by_cases c65 : x10_2 < (t140.length : Int)
                                              · rw [if_pos c65] at H
                                                have c65b0 : decide (x10_2 < (t140.length : Int)) = true := decide_eq_true c65
                                                clear c65
                                                by_cases c66 : ((rd_T36 l0 x11_5).f1) < ((rd_T36 t140 x10_2).f1)
                                                · as_aux_lemma =>
                                                  rw [if_pos c66] at H
                                                  have c66b0 : decide (((rd_T36 l0 x11_5).f1) < ((rd_T36 t140 x10_2).f1)) = true := decide_eq_true c66
                                                  clear c66
                                                  obtain rfl := Option.some.inj H
                                                  have p164 : 0 ≤ (x11_5 : Int) := of_decide_eq_true (by first | (with_reducible assumption) | assumption)
                                                  have q164 : x11_5 < (l0.length : Int) := of_decide_eq_true (by first | (with_reducible assumption) | assumption)
                                                  obtain ⟨ad164, e164, hx164_0, hx164_1⟩ := at_T36 HR0.out x11_5 p164 q164
                                                  cases e164
                                                  replace hx164_0 := (HB.out.cell (World.block_lt_of_cell? w _ hx164_0)).trans hx164_0
                                                  replace hx164_1 := (HB.out.cell (World.block_lt_of_cell? w _ hx164_1)).trans hx164_1
                                                  replace p164 := eq_true p164
                                                  replace q164 := eq_true q164
                                                  have p165 : 0 ≤ (x10_2 : Int) := of_decide_eq_true (by first | (with_reducible assumption) | assumption)
                                                  have q165 : x10_2 < (t136.length : Int) := of_decide_eq_true (by first | (with_reducible assumption) | assumption)
                                                  obtain ⟨ad165, e165, hx165_0, hx165_1⟩ := at_T36 (Kd.R_reads' HO_3.out).2.2 x10_2 p165 q165
                                                  obtain rfl : ad159 = ad165 := (by injection e165)
                                                  replace p165 := eq_true p165
                                                  replace q165 := eq_true q165
                                                  have p166 : 0 ≤ (x11_5 : Int) := of_decide_eq_true (by first | (with_reducible assumption) | assumption)
                                                  have q166 : x11_5 < (l0.length : Int) := of_decide_eq_true (by first | (with_reducible assumption) | assumption)
                                                  obtain ⟨ad166, e166, hx166_0, hx166_1⟩ := at_T36 HR0.out x11_5 p166 q166
                                                  obtain rfl : ad164 = ad166 := (by injection e166)
                                                  replace hx166_0 := (HB.out.cell (World.block_lt_of_cell? w _ hx166_0)).trans hx166_0
                                                  replace hx166_1 := (HB.out.cell (World.block_lt_of_cell? w _ hx166_1)).trans hx166_1
                                                  replace p166 := eq_true p166
                                                  replace q166 := eq_true q166
                                                  obtain ⟨Ao67, co67, eo67⟩ := Kd.R_slice HO_5.out
                                                  subst eo67
                                                  have p167 : 0 ≤ (x10_2 : Int) := of_decide_eq_true (by first | (with_reducible assumption) | assumption)
                                                  have q167 : x10_2 < (t140.length : Int) := of_decide_eq_true (by first | (with_reducible assumption) | assumption)
                                                  obtain ⟨ad167, e167, hx167_0, hx167_1⟩ := at_T36 (Kd.R_reads' HO_5.out).2.2 x10_2 p167 q167
                                                  cases e167
                                                  replace p167 := eq_true p167
                                                  replace q167 := eq_true q167
                                                  go_wp2
                                                  repeat (go_quiet (fail); try go_wp2)
                                                  go_ret
                                                  exact ⟨by first | rfl | (simp [errW_none, errW_some] <;> rfl) | (simp [*, errW_none, errW_some] <;> rfl), by repeat (first | (with_reducible first | exact HB.out | apply below_alloc | apply pw_below_drewN | apply below_drew1) | exact HB.out)⟩
                                                · rw [if_neg c66] at H
                                                  have c66b0 : decide (((rd_T36 l0 x11_5).f1) < ((rd_T36 t140 x10_2).f1)) = false := decide_eq_false c66
                                                  clear c66
                                                  by_cases c68 : x10_2 < (t144.length : Int)
                                                  · rw [if_pos c68] at H
                                                    have c68b0 : decide (x10_2 < (t144.length : Int)) = true := decide_eq_true c68
                                                    clear c68
                                                    by_cases c69 : ((rd_T36 l0 x11_5).f1) > ((rd_T36 t144 x10_2).f1)
                                                    · as_aux_lemma =>
                                                      rw [if_pos c69] at H
                                                      have c69b0 : decide (((rd_T36 t144 x10_2).f1) < ((rd_T36 l0 x11_5).f1)) = true := decide_eq_true c69
                                                      clear c69
                                                      obtain rfl := Option.some.inj H
                                                      have p164 : 0 ≤ (x11_5 : Int) := of_decide_eq_true (by first | (with_reducible assumption) | assumption)
                                                      have q164 : x11_5 < (l0.length : Int) := of_decide_eq_true (by first | (with_reducible assumption) | assumption)
                                                      obtain ⟨ad164, e164, hx164_0, hx164_1⟩ := at_T36 HR0.out x11_5 p164 q164
                                                      cases e164
                                                      replace hx164_0 := (HB.out.cell (World.block_lt_of_cell? w _ hx164_0)).trans hx164_0
                                                      replace hx164_1 := (HB.out.cell (World.block_lt_of_cell? w _ hx164_1)).trans hx164_1
                                                      replace p164 := eq_true p164
                                                      replace q164 := eq_true q164
                                                      have p165 : 0 ≤ (x10_2 : Int) := of_decide_eq_true (by first | (with_reducible assumption) | assumption)
                                                      have q165 : x10_2 < (t136.length : Int) := of_decide_eq_true (by first | (with_reducible assumption) | assumption)
                                                      obtain ⟨ad165, e165, hx165_0, hx165_1⟩ := at_T36 (Kd.R_reads' HO_3.out).2.2 x10_2 p165 q165
                                                      obtain rfl : ad159 = ad165 := (by injection e165)
                                                      replace p165 := eq_true p165
                                                      replace q165 := eq_true q165
                                                      have p166 : 0 ≤ (x11_5 : Int) := of_decide_eq_true (by first | (with_reducible assumption) | assumption)
                                                      have q166 : x11_5 < (l0.length : Int) := of_decide_eq_true (by first | (with_reducible assumption) | assumption)
                                                      obtain ⟨ad166, e166, hx166_0, hx166_1⟩ := at_T36 HR0.out x11_5 p166 q166
                                                      obtain rfl : ad164 = ad166 := (by injection e166)
                                                      replace hx166_0 := (HB.out.cell (World.block_lt_of_cell? w _ hx166_0)).trans hx166_0
                                                      replace hx166_1 := (HB.out.cell (World.block_lt_of_cell? w _ hx166_1)).trans hx166_1
                                                      replace p166 := eq_true p166
                                                      replace q166 := eq_true q166
                                                      obtain ⟨Ao70, co70, eo70⟩ := Kd.R_slice HO_5.out
                                                      subst eo70
                                                      have p167 : 0 ≤ (x10_2 : Int) := of_decide_eq_true (by first | (with_reducible assumption) | assumption)
                                                      have q167 : x10_2 < (t140.length : Int) := of_decide_eq_true (by first | (with_reducible assumption) | assumption)
                                                      obtain ⟨ad167, e167, hx167_0, hx167_1⟩ := at_T36 (Kd.R_reads' HO_5.out).2.2 x10_2 p167 q167
                                                      cases e167
                                                      replace p167 := eq_true p167
                                                      replace q167 := eq_true q167
                                                      have p168 : 0 ≤ (x11_5 : Int) := of_decide_eq_true (by first | (with_reducible assumption) | assumption)
                                                      have q168 : x11_5 < (l0.length : Int) := of_decide_eq_true (by first | (with_reducible assumption) | assumption)
                                                      obtain ⟨ad168, e168, hx168_0, hx168_1⟩ := at_T36 HR0.out x11_5 p168 q168
                                                      obtain rfl : ad164 = ad168 := (by injection e168)
                                                      replace hx168_0 := (HB.out.cell (World.block_lt_of_cell? w _ hx168_0)).trans hx168_0
                                                      replace hx168_1 := (HB.out.cell (World.block_lt_of_cell? w _ hx168_1)).trans hx168_1
                                                      replace p168 := eq_true p168
                                                      replace q168 := eq_true q168
                                                      obtain ⟨Ao71, co71, eo71⟩ := Kd.R_slice HO_7.out
                                                      subst eo71
                                                      have p169 : 0 ≤ (x10_2 : Int) := of_decide_eq_true (by first | (with_reducible assumption) | assumption)
                                                      have q169 : x10_2 < (t144.length : Int) := of_decide_eq_true (by first | (with_reducible assumption) | assumption)
                                                      obtain ⟨ad169, e169, hx169_0, hx169_1⟩ := at_T36 (Kd.R_reads' HO_7.out).2.2 x10_2 p169 q169
                                                      cases e169
                                                      replace p169 := eq_true p169
                                                      replace q169 := eq_true q169
                                                      go_wp2
                                                      repeat (go_quiet (fail); try go_wp2)
                                                      go_ret
                                                      exact ⟨by first | rfl | (simp [errW_none, errW_some] <;> rfl) | (simp [*, errW_none, errW_some] <;> rfl), by repeat (first | (with_reducible first | exact HB.out | apply below_alloc | apply pw_below_drewN | apply below_drew1) | exact HB.out)⟩
                                                    · as_aux_lemma =>
                                                      rw [if_neg c69] at H
                                                      have c69b0 : decide (((rd_T36 t144 x10_2).f1) < ((rd_T36 l0 x11_5).f1)) = false := decide_eq_false c69
                                                      clear c69
                                                      have H' := Aside0.mk H
                                                      clear H
                                                      have p164 : 0 ≤ (x11_5 : Int) := of_decide_eq_true (by first | (with_reducible assumption) | assumption)
                                                      have q164 : x11_5 < (l0.length : Int) := of_decide_eq_true (by first | (with_reducible assumption) | assumption)
                                                      obtain ⟨ad164, e164, hx164_0, hx164_1⟩ := at_T36 HR0.out x11_5 p164 q164
                                                      cases e164
                                                      replace hx164_0 := (HB.out.cell (World.block_lt_of_cell? w _ hx164_0)).trans hx164_0
                                                      replace hx164_1 := (HB.out.cell (World.block_lt_of_cell? w _ hx164_1)).trans hx164_1
                                                      replace p164 := eq_true p164
                                                      replace q164 := eq_true q164
                                                      have p165 : 0 ≤ (x10_2 : Int) := of_decide_eq_true (by first | (with_reducible assumption) | assumption)
                                                      have q165 : x10_2 < (t136.length : Int) := of_decide_eq_true (by first | (with_reducible assumption) | assumption)
                                                      obtain ⟨ad165, e165, hx165_0, hx165_1⟩ := at_T36 (Kd.R_reads' HO_3.out).2.2 x10_2 p165 q165
                                                      obtain rfl : ad159 = ad165 := (by injection e165)
                                                      replace p165 := eq_true p165
                                                      replace q165 := eq_true q165
                                                      have p166 : 0 ≤ (x11_5 : Int) := of_decide_eq_true (by first | (with_reducible assumption) | assumption)
                                                      have q166 : x11_5 < (l0.length : Int) := of_decide_eq_true (by first | (with_reducible assumption) | assumption)
                                                      obtain ⟨ad166, e166, hx166_0, hx166_1⟩ := at_T36 HR0.out x11_5 p166 q166
                                                      obtain rfl : ad164 = ad166 := (by injection e166)
                                                      replace hx166_0 := (HB.out.cell (World.block_lt_of_cell? w _ hx166_0)).trans hx166_0
                                                      replace hx166_1 := (HB.out.cell (World.block_lt_of_cell? w _ hx166_1)).trans hx166_1
                                                      replace p166 := eq_true p166
                                                      replace q166 := eq_true q166
                                                      obtain ⟨Ao72, co72, eo72⟩ := Kd.R_slice HO_5.out
                                                      subst eo72
                                                      have p167 : 0 ≤ (x10_2 : Int) := of_decide_eq_true (by first | (with_reducible assumption) | assumption)
                                                      have q167 : x10_2 < (t140.length : Int) := of_decide_eq_true (by first | (with_reducible assumption) | assumption)
                                                      obtain ⟨ad167, e167, hx167_0, hx167_1⟩ := at_T36 (Kd.R_reads' HO_5.out).2.2 x10_2 p167 q167
                                                      cases e167
                                                      replace p167 := eq_true p167
                                                      replace q167 := eq_true q167
                                                      have p168 : 0 ≤ (x11_5 : Int) := of_decide_eq_true (by first | (with_reducible assumption) | assumption)
                                                      have q168 : x11_5 < (l0.length : Int) := of_decide_eq_true (by first | (with_reducible assumption) | assumption)
                                                      obtain ⟨ad168, e168, hx168_0, hx168_1⟩ := at_T36 HR0.out x11_5 p168 q168
                                                      obtain rfl : ad164 = ad168 := (by injection e168)
                                                      replace hx168_0 := (HB.out.cell (World.block_lt_of_cell? w _ hx168_0)).trans hx168_0
                                                      replace hx168_1 := (HB.out.cell (World.block_lt_of_cell? w _ hx168_1)).trans hx168_1
                                                      replace p168 := eq_true p168
                                                      replace q168 := eq_true q168
                                                      obtain ⟨Ao73, co73, eo73⟩ := Kd.R_slice HO_7.out
                                                      subst eo73
                                                      have p169 : 0 ≤ (x10_2 : Int) := of_decide_eq_true (by first | (with_reducible assumption) | assumption)
                                                      have q169 : x10_2 < (t144.length : Int) := of_decide_eq_true (by first | (with_reducible assumption) | assumption)
                                                      obtain ⟨ad169, e169, hx169_0, hx169_1⟩ := at_T36 (Kd.R_reads' HO_7.out).2.2 x10_2 p169 q169
                                                      cases e169
                                                      replace p169 := eq_true p169
                                                      replace q169 := eq_true q169
                                                      go_wp2
                                                      repeat (go_quiet (fail); try go_wp2)
                                                      go_roundg k5
                                                      case measure => have := HJ7.out; have := HK2.out; have := HJ22.out; have := HJ46.out; have := HK5.out; omega
                                                      case rel => exact ⟨(wrap64 (x11_5 + 1)), (by first | rfl | (simp; done) | (simp [*]; done)), H', ⟨by have := HJ7.out; have := HK2.out; have := HJ22.out; have := HJ46.out; have := HK5.out; omega⟩, ⟨by (with_reducible repeat (first | apply Kd.R_alloc | apply Kd.R_drewN | apply Kd.R_drew)); exact HO_3.out⟩, ⟨by (with_reducible repeat (first | apply Kd.R_alloc | apply Kd.R_drewN | apply Kd.R_drew)); exact HO_5.out⟩, ⟨by (with_reducible repeat (first | apply Kd.R_alloc | apply Kd.R_drewN | apply Kd.R_drew)); exact HO_7.out⟩, ⟨by repeat (first | (with_reducible first | exact HB.out | apply below_alloc | apply pw_below_drewN | apply below_drew1) | exact HB.out)⟩⟩
                                                  · rw [if_neg c68] at H
                                                    exact absurd H (by simp)
                                              · rw [if_neg c65] at H
                                                exact absurd H (by simp)
                                            · as_aux_lemma =>
                                              rw [if_neg c64] at H
                                              have c64b0 : (((rd_T36 l0 x11_5).f0) == ((rd_T36 t136 x10_2).f0)) = false := beq_eq_false_iff_ne.mpr c64
                                              have c64b1 : (((rd_T36 l0 x11_5).f0) != ((rd_T36 t136 x10_2).f0)) = true := bne_iff_ne.mpr c64
                                              have H' := Aside0.mk H
                                              clear H
                                              have p164 : 0 ≤ (x11_5 : Int) := of_decide_eq_true (by first | (with_reducible assumption) | assumption)
                                              have q164 : x11_5 < (l0.length : Int) := of_decide_eq_true (by first | (with_reducible assumption) | assumption)
                                              obtain ⟨ad164, e164, hx164_0, hx164_1⟩ := at_T36 HR0.out x11_5 p164 q164
                                              cases e164
                                              replace hx164_0 := (HB.out.cell (World.block_lt_of_cell? w _ hx164_0)).trans hx164_0
                                              replace hx164_1 := (HB.out.cell (World.block_lt_of_cell? w _ hx164_1)).trans hx164_1
                                              replace p164 := eq_true p164
                                              replace q164 := eq_true q164
                                              have p165 : 0 ≤ (x10_2 : Int) := of_decide_eq_true (by first | (with_reducible assumption) | assumption)
                                              have q165 : x10_2 < (t136.length : Int) := of_decide_eq_true (by first | (with_reducible assumption) | assumption)
                                              obtain ⟨ad165, e165, hx165_0, hx165_1⟩ := at_T36 (Kd.R_reads' HO_3.out).2.2 x10_2 p165 q165
                                              obtain rfl : ad159 = ad165 := (by injection e165)
                                              replace p165 := eq_true p165
                                              replace q165 := eq_true q165
                                              go_wp2
                                              repeat (go_quiet (fail); try go_wp2)
                                              go_roundg k5
                                              case measure => have := HJ7.out; have := HK2.out; have := HJ22.out; have := HJ46.out; have := HK5.out; omega
                                              case rel => exact ⟨(wrap64 (x11_5 + 1)), (by first | rfl | (simp; done) | (simp [*]; done)), H', ⟨by have := HJ7.out; have := HK2.out; have := HJ22.out; have := HJ46.out; have := HK5.out; omega⟩, ⟨by (with_reducible repeat (first | apply Kd.R_alloc | apply Kd.R_drewN | apply Kd.R_drew)); exact HO_3.out⟩, ⟨by (with_reducible repeat (first | apply Kd.R_alloc | apply Kd.R_drewN | apply Kd.R_drew)); exact HO_5.out⟩, ⟨by (with_reducible repeat (first | apply Kd.R_alloc | apply Kd.R_drewN | apply Kd.R_drew)); exact HO_7.out⟩, ⟨by repeat (first | (with_reducible first | exact HB.out | apply below_alloc | apply pw_below_drewN | apply below_drew1) | exact HB.out)⟩⟩
                                          · rw [if_neg c63] at H
                                            exact absurd H (by simp)
                                        · rw [if_neg c62] at H
                                          exact absurd H (by simp)
                                      · rw [if_neg c61] at H
                                        exact absurd H (by simp)
                                    · rw [if_neg c60] at H
                                      have c60b0 : decide (x11_5 < (l0.length : Int)) = false := decide_eq_false c60
                                      clear c60
                                      have H' := Aside0.mk H
                                      clear H
                                      go_wp2
                                      repeat (go_quiet (fail); try go_wp2)
                                      go_roundg k5
                                      case measure => have := HJ7.out; have := HK2.out; have := HJ22.out; have := HJ46.out; have := HK5.out; omega
                                      case rel => exact ⟨((wrap64 (x9_2 + ((rd_T36 t136 x10_2).f1)))), (wrap64 (x10_2 + 1)), (by first | rfl | (simp; done) | (simp [*]; done)), (by first | rfl | (simp; done) | (simp [*]; done)), H', ⟨by have := HJ7.out; have := HK2.out; have := HJ22.out; have := HJ46.out; have := HK5.out; omega⟩, ⟨by (with_reducible repeat (first | apply Kd.R_alloc | apply Kd.R_drewN | apply Kd.R_drew)); exact HO_3.out⟩, ⟨by (with_reducible repeat (first | apply Kd.R_alloc | apply Kd.R_drewN | apply Kd.R_drew)); exact HO_5.out⟩, ⟨by (with_reducible repeat (first | apply Kd.R_alloc | apply Kd.R_drewN | apply Kd.R_drew)); exact HO_7.out⟩, ⟨by repeat (first | (with_reducible first | exact HB.out | apply below_alloc | apply pw_below_drewN | apply below_drew1) | exact HB.out)⟩⟩
                        · rw [if_neg c46] at H
                          exact absurd H (by simp)
                      · rw [if_neg c45] at H
                        exact absurd H (by simp)
              · as_aux_lemma =>
                rw [if_neg c22] at H
                have c22b0 : decide (x10_2 < (t136.length : Int)) = false := decide_eq_false c22
                clear c22
                by_cases c74 : x9_2 = (l0.length : Int)
                · rw [if_pos c74] at H
                  have c74b0 : (x9_2 == (l0.length : Int)) = true := beq_iff_eq.mpr c74
                  have c74b1 : (x9_2 != (l0.length : Int)) = false := bne_eq_false_iff_eq.mpr c74
                  clear c74
                  replace H := Option.bind_eq_some_iff.mp H
                  obtain ⟨t148, A750, H⟩ := H
                  replace H : (some t148) = some r := H
                  have A75 := Aside0.mk A750
                  clear A750
                  obtain rfl := Option.some.inj H
                  obtain ⟨Ao76, co76, eo76⟩ := Kd.R_slice HO_3.out
                  subst eo76
                  go_wp2_with (first | (go_at_call 11; (with_reducible refine (tailracelaw13_works.calls  t148 _ A75.out).mono ?_); rintro e w77 ⟨rfl, hb⟩; have n0_ := Aside0.mk (Kd.R_below (by (with_reducible repeat (first | apply Kd.R_alloc | apply Kd.R_drewN | apply Kd.R_drew)); exact HO_3.out) hb); have n1_ := Aside0.mk (Kd.R_below (by (with_reducible repeat (first | apply Kd.R_alloc | apply Kd.R_drewN | apply Kd.R_drew)); exact HO_5.out) hb); have n2_ := Aside0.mk (Kd.R_below (by (with_reducible repeat (first | apply Kd.R_alloc | apply Kd.R_drewN | apply Kd.R_drew)); exact HO_7.out) hb); have n3_ := Aside0.mk (below_step (by repeat (first | (with_reducible first | exact HB.out | apply below_alloc | apply pw_below_drewN | apply below_drew1) | exact HB.out)) hb); clear HO_3; clear HO_5; clear HO_7; clear HB; have HO_3 := n0_; have HO_5 := n1_; have HO_7 := n2_; have HB := n3_; clear n0_ n1_ n2_ n3_; (try clear hb); (try clear hb2); (try clear hk); (try clear hi)))
                  repeat (go_quiet (first | (go_at_call 11; (with_reducible refine (tailracelaw13_works.calls  t148 _ A75.out).mono ?_); rintro e w77 ⟨rfl, hb⟩; have n0_ := Aside0.mk (Kd.R_below (by (with_reducible repeat (first | apply Kd.R_alloc | apply Kd.R_drewN | apply Kd.R_drew)); exact HO_3.out) hb); have n1_ := Aside0.mk (Kd.R_below (by (with_reducible repeat (first | apply Kd.R_alloc | apply Kd.R_drewN | apply Kd.R_drew)); exact HO_5.out) hb); have n2_ := Aside0.mk (Kd.R_below (by (with_reducible repeat (first | apply Kd.R_alloc | apply Kd.R_drewN | apply Kd.R_drew)); exact HO_7.out) hb); have n3_ := Aside0.mk (below_step (by repeat (first | (with_reducible first | exact HB.out | apply below_alloc | apply pw_below_drewN | apply below_drew1) | exact HB.out)) hb); clear HO_3; clear HO_5; clear HO_7; clear HB; have HO_3 := n0_; have HO_5 := n1_; have HO_7 := n2_; have HB := n3_; clear n0_ n1_ n2_ n3_; (try clear hb); (try clear hb2); (try clear hk); (try clear hi))); try go_wp2_with (first | (go_at_call 11; (with_reducible refine (tailracelaw13_works.calls  t148 _ A75.out).mono ?_); rintro e w77 ⟨rfl, hb⟩; have n0_ := Aside0.mk (Kd.R_below (by (with_reducible repeat (first | apply Kd.R_alloc | apply Kd.R_drewN | apply Kd.R_drew)); exact HO_3.out) hb); have n1_ := Aside0.mk (Kd.R_below (by (with_reducible repeat (first | apply Kd.R_alloc | apply Kd.R_drewN | apply Kd.R_drew)); exact HO_5.out) hb); have n2_ := Aside0.mk (Kd.R_below (by (with_reducible repeat (first | apply Kd.R_alloc | apply Kd.R_drewN | apply Kd.R_drew)); exact HO_7.out) hb); have n3_ := Aside0.mk (below_step (by repeat (first | (with_reducible first | exact HB.out | apply below_alloc | apply pw_below_drewN | apply below_drew1) | exact HB.out)) hb); clear HO_3; clear HO_5; clear HO_7; clear HB; have HO_3 := n0_; have HO_5 := n1_; have HO_7 := n2_; have HB := n3_; clear n0_ n1_ n2_ n3_; (try clear hb); (try clear hb2); (try clear hk); (try clear hi))))
                  go_ret
                  exact ⟨by first | rfl | (simp [errW_none, errW_some] <;> rfl) | (simp [*, errW_none, errW_some] <;> rfl), by repeat (first | (with_reducible first | exact HB.out | apply below_alloc | apply pw_below_drewN | apply below_drew1) | exact HB.out)⟩
                · rw [if_neg c74] at H
                  have c74b0 : (x9_2 == (l0.length : Int)) = false := beq_eq_false_iff_ne.mpr c74
                  have c74b1 : (x9_2 != (l0.length : Int)) = true := bne_iff_ne.mpr c74
                  obtain rfl := Option.some.inj H
                  obtain ⟨Ao78, co78, eo78⟩ := Kd.R_slice HO_3.out
                  subst eo78
                  go_wp2
                  repeat (go_quiet (fail); try go_wp2)
                  go_ret
                  exact ⟨by first | rfl | (simp [errW_none, errW_some] <;> rfl) | (simp [*, errW_none, errW_some] <;> rfl), by repeat (first | (with_reducible first | exact HB.out | apply below_alloc | apply pw_below_drewN | apply below_drew1) | exact HB.out)⟩
end Go.Proofs.Ytcihpjkjodhdpaa.X
namespace Go.Proofs.Ytcihpjkjodhdpaa.X
set_option linter.unusedVariables false
set_option linter.unusedSimpArgs false
open Go.RowKit Go.Proofs.YtcihpjkjodhdpaaW.PrintWords Go.Proofs.YtcihpjkjodhdpaaW.PrintLast Go.Proofs.YtcihpjkjodhdpaaW.PrintMore
theorem rd_at (l : List S36) (i : Nat) (h : i < l.length) : rd_T36 l (i : Int) = l[i] := by
  unfold rd_T36
  rw [Int.toNat_natCast, List.getD_eq_getElem?_getD, List.getElem?_eq_getElem h, Option.getD_some]
theorem in_ev (l : List S36) (hl : l.length ≤ 1000) (x y : Int) : ∀ (d i : Nat), i + d = l.length → ⟨x, y⟩ ∈ l.drop i → Ev (fun k => tailracelaw13_in.l0 k l (i : Int) x y) true
  | 0, i, hi, h => by rw [List.drop_of_length_le (by omega)] at h; simp at h
  | d + 1, i, hi, h => by
    have hlt : i < l.length := by omega
    rw [List.drop_eq_getElem_cons hlt] at h
    by_cases c : (((rd_T36 l (i : Int)).f0) == x && (((rd_T36 l (i : Int)).f1) == y)) = true
    · exact Ev.step (f := fun _ => some true) (fun k => by rw [tailracelaw13_in.l0, if_pos (by omega), if_pos (by omega), if_pos c]) (Ev.now _)
    · have h2 : ⟨x, y⟩ ∈ l.drop (i + 1) := by
        rcases List.mem_cons.1 h with h | h
        · rw [rd_at l i hlt, ← h] at c
          simp at c
        · exact h
      refine Ev.step (fun k => ?_) (in_ev l hl x y d (i + 1) (by omega) h2)
      rw [tailracelaw13_in.l0, if_pos (by omega), if_pos (by omega), if_neg c, wrap_small (by omega) (by omega)]
      rfl
theorem in_ev0 (l : List S36) (hl : l.length ≤ 1000) (x y : Int) (h : ⟨x, y⟩ ∈ l) : Ev (fun k => tailracelaw13_in.f k l x y) true := in_ev l hl x y l.length 0 (Nat.zero_add _) h
section
variable (l : List S36) (hl : l.length ≤ 60) (a b c : List S36) (n : Nat)
theorem l1_ev (i : Nat) (r : Bool) (x9 : Int) (ha : i < a.length) (hb : i < b.length) (hc : i < c.length)
    (hmin : ∀ x ∈ l, x.f0 = (rd_T36 a (i : Int)).f0 → (rd_T36 b (i : Int)).f1 ≤ x.f1) (hmax : ∀ x ∈ l, x.f0 = (rd_T36 a (i : Int)).f0 → x.f1 ≤ (rd_T36 c (i : Int)).f1) (hl : l.length ≤ 60) (hi : i ≤ 1000)
    (h : Ev (fun k => tailracelaw13_OpersReduces.l0 k l a b c x9 ((i + 1 : Nat) : Int)) r) : ∀ (d j : Nat), j + d = l.length → Ev (fun k => tailracelaw13_OpersReduces.l1 k l a b c x9 (i : Int) (j : Int)) r
  | 0, j, hj => by
    refine Ev.step (fun k => ?_) h
    rw [tailracelaw13_OpersReduces.l1, if_neg (by omega), wrap_small (by omega) (by omega)]
    rfl
  | d + 1, j, hj => by
    have hlt : j < l.length := by omega
    have hm : rd_T36 l (j : Int) ∈ l := by rw [rd_at l j hlt]; exact List.getElem_mem _
    refine Ev.step (fun k => ?_) (l1_ev i r x9 ha hb hc hmin hmax hl hi h d (j + 1) (by omega))
    rw [tailracelaw13_OpersReduces.l1, if_pos (by omega), if_pos (by omega), if_pos (by omega), if_pos (by omega)]
    by_cases e : (rd_T36 l (j : Int)).f0 = (rd_T36 a (i : Int)).f0
    · have e1 := hmin _ hm e
      have e2 := hmax _ hm e
      rw [if_pos e, if_pos (by omega), if_neg (by omega), if_pos (by omega), if_neg (by omega), wrap_small (by omega) (by omega)]
      rfl
    · rw [if_neg e, wrap_small (by omega) (by omega)]
      rfl
end
theorem l0_ev (l : List S36) (hl : l.length ≤ 60) (K : List Int) (v1 v2 v3 : Int → Int) (hK : K.Pairwise (· < ·)) (hn : K.length ≤ 1000)
    (hv1 : ∀ k ∈ K, v1 k = (cnt k l : Int))
    (hin2 : ∀ k ∈ K, (⟨k, v2 k⟩ : S36) ∈ l) (hin3 : ∀ k ∈ K, (⟨k, v3 k⟩ : S36) ∈ l)
    (hmin : ∀ k ∈ K, ∀ x ∈ l, x.f0 = k → v2 k ≤ x.f1) (hmax : ∀ k ∈ K, ∀ x ∈ l, x.f0 = k → x.f1 ≤ v3 k) :
    ∀ (d i : Nat) (x9 : Int), i + d = K.length → 0 ≤ x9 → x9 + sumC l (K.drop i) = l.length →
      Ev (fun k => tailracelaw13_OpersReduces.l0 k l (K.map fun k => ⟨k, v1 k⟩) (K.map fun k => ⟨k, v2 k⟩) (K.map fun k => ⟨k, v3 k⟩) x9 (i : Int)) true
  | 0, i, x9, hi, h0, hs => by
    rw [List.drop_of_length_le (by omega)] at hs
    simp only [sumC] at hs
    refine Ev.step (f := fun _ => some true) (fun k => ?_) (Ev.now _)
    rw [tailracelaw13_OpersReduces.l0, if_neg (by rw [List.length_map]; omega), if_pos (by omega)]
    rfl
  | d + 1, i, x9, hi, h0, hs => by
    have hlt : i < K.length := by omega
    have hk : K[i] ∈ K := List.getElem_mem _
    have ra : rd_T36 (K.map fun k => (⟨k, v1 k⟩ : S36)) (i : Int) = ⟨K[i], v1 K[i]⟩ := by rw [rd_at _ i (by simpa using hlt)]; simp
    have rb : rd_T36 (K.map fun k => (⟨k, v2 k⟩ : S36)) (i : Int) = ⟨K[i], v2 K[i]⟩ := by rw [rd_at _ i (by simpa using hlt)]; simp
    have rc : rd_T36 (K.map fun k => (⟨k, v3 k⟩ : S36)) (i : Int) = ⟨K[i], v3 K[i]⟩ := by rw [rd_at _ i (by simpa using hlt)]; simp
    have la : (K.map fun k => (⟨k, v1 k⟩ : S36)).length = K.length := List.length_map ..
    have lb : (K.map fun k => (⟨k, v2 k⟩ : S36)).length = K.length := List.length_map ..
    have lc : (K.map fun k => (⟨k, v3 k⟩ : S36)).length = K.length := List.length_map ..
    rw [List.drop_eq_getElem_cons hlt] at hs
    simp only [sumC] at hs
    have hc1 := hv1 _ hk
    have hx : wrap64 (x9 + v1 K[i]) = x9 + v1 K[i] := wrap_small (by omega) (by omega)
    have ih := l0_ev l hl K v1 v2 v3 hK hn hv1 hin2 hin3 hmin hmax d (i + 1) (x9 + v1 K[i]) (by omega) (by omega) (by omega)
    have h1 := l1_ev l _ _ _ i true (x9 + v1 K[i]) (by rw [la]; exact hlt) (by rw [lb]; exact hlt) (by rw [lc]; exact hlt) (by rw [ra, rb]; exact hmin _ hk) (by rw [ra, rc]; exact hmax _ hk) hl (by omega) ih l.length 0 (Nat.zero_add _)
    have h3 : Ev (fun k => tailracelaw13_OpersReduces.j3 k l (K.map fun k => ⟨k, v1 k⟩) (K.map fun k => ⟨k, v2 k⟩) (K.map fun k => ⟨k, v3 k⟩) (x9 + v1 K[i]) (i : Int) (!true)) true := by
      refine Ev.step (fun k => ?_) h1
      rw [tailracelaw13_OpersReduces.j3, if_neg (by simp)]
      rfl
    have h2 : Ev (fun k => tailracelaw13_OpersReduces.j2 k l (K.map fun k => ⟨k, v1 k⟩) (K.map fun k => ⟨k, v2 k⟩) (K.map fun k => ⟨k, v3 k⟩) x9 (i : Int) false) true := by
      refine Ev.step (f := fun k => (tailracelaw13_in.f k l K[i] (v2 K[i])).bind fun t161 => (if t161 = true then ((tailracelaw13_in.f k l K[i] (v3 K[i])).bind fun t163 => (tailracelaw13_OpersReduces.j3 k l (K.map fun k => ⟨k, v1 k⟩) (K.map fun k => ⟨k, v2 k⟩) (K.map fun k => ⟨k, v3 k⟩) (x9 + v1 K[i]) (i : Int) (!t163))) else (tailracelaw13_OpersReduces.j3 k l (K.map fun k => ⟨k, v1 k⟩) (K.map fun k => ⟨k, v2 k⟩) (K.map fun k => ⟨k, v3 k⟩) (x9 + v1 K[i]) (i : Int) true))) (fun k => ?_) ?_
      · rw [tailracelaw13_OpersReduces.j2, if_neg (by simp), if_pos (by omega), if_pos (by rw [la]; omega), if_pos (by rw [lb]; omega), ra, rb, rc]
        simp only [hx]
        rw [if_pos (show (i : Int) < ((K.map fun k => (⟨k, v3 k⟩ : S36)).length : Int) by rw [lc]; omega)]
      · refine Ev.bind (in_ev0 l (by omega) _ _ (hin2 _ hk)) ?_
        simp only [if_true]
        exact Ev.bind (in_ev0 l (by omega) _ _ (hin3 _ hk)) h3
    refine Ev.step (fun k => ?_) h2
    rw [tailracelaw13_OpersReduces.l0, if_pos (by rw [la]; omega)]
    by_cases hi0 : (i : Int) > 0
    · have hp : rd_T36 (K.map fun k => (⟨k, v1 k⟩ : S36)) ((i : Int) - 1) = ⟨K[i - 1], v1 K[i - 1]⟩ := by
        rw [show (i : Int) - 1 = ((i - 1 : Nat) : Int) by omega, rd_at _ (i - 1) (by rw [la]; omega)]; simp
      have hlt2 : K[i - 1] < K[i] := List.pairwise_iff_getElem.1 hK (i - 1) i (by omega) (by omega) (by omega)
      rw [if_pos hi0, wrap_small (by omega) (by omega), if_pos (by omega), if_pos (by rw [la]; omega), if_pos (by omega), hp, ra, rb, rc, if_neg (by show ¬ ((K[i - 1]) ≥ (K[i])); omega), if_pos (by rw [lb]; omega), if_pos rfl, if_pos (by rw [lc]; omega)]
      simp
    · rw [if_neg hi0, if_pos (by omega), if_pos (by rw [lb]; omega), ra, rb, rc, if_pos rfl, if_pos (by rw [lc]; omega)]
      simp
theorem okRows_one {l : List S36} (hl : l.length ≤ 1000) (hw : ∀ x ∈ l, wf36 x) : okRows [l] = true := by
  unfold okRows
  simp only [List.all_cons, List.all_nil, Bool.and_true, Bool.and_eq_true, decide_eq_true_eq, List.all_eq_true]
  exact ⟨hl, fun x hx => (wfB_iff x).2 (hw x hx)⟩
theorem run_red (a : Int) (ha : a = 1 ∨ a = 2 ∨ a = 3) (l : List S36) (hl : l.length ≤ 60) (hw : ∀ x ∈ l, wf36 x) : opers_Run1.f 5 a 0 0 [] l = some ((keysS l).map fun k => ⟨k, (redS a l k).getD 0⟩, 0) := by
  unfold opers_Run1.f opers_Run.f
  have hn : numB 5 a 0 = true := by rcases ha with rfl | rfl | rfl <;> rfl
  rw [if_neg (by rw [hn]; simp), if_neg (by show ¬ (1 : Int) ≠ arityI 5; decide), if_pos ⟨okRows_one (by omega) hw, by omega⟩, ← srt_redL]
  rfl
theorem firsts_len : ∀ (r : List S36) (seen : List Int), (firsts seen r).length ≤ r.length
  | [], seen => by simp [firsts]
  | x :: r, seen => by
    unfold firsts
    split
    · have := firsts_len r seen; rw [List.length_cons]; omega
    · have := firsts_len r (seen ++ [x.f0]); rw [List.length_cons, List.length_cons]; omega
theorem keysS_len (l : List S36) : (keysS l).length ≤ l.length := by rw [(keysS_perm l).length_eq]; exact firsts_len l []
theorem OpersReduces_ev (l : List S36) (hw : ∀ x ∈ l, wf36 x) : Ev (fun k => tailracelaw13_OpersReduces.f k l) true := by
  unfold tailracelaw13_OpersReduces.f
  by_cases h : (l.length : Int) > 60
  · simp only [if_pos h]
    exact Ev.now true
  simp only [if_neg h]
  have hl : l.length ≤ 60 := by omega
  rw [run_red 1 (by simp) l hl hw, run_red 2 (by simp) l hl hw, run_red 3 (by simp) l hl hw]
  simp only [Option.bind_some, if_true, List.length_map, bne_self_eq_false]
  have hat : ∀ a, ∀ k ∈ keysS l, redS a l k = some ((redS a l k).getD 0) := fun a k hk => by
    obtain ⟨v, hv⟩ := redS_at a l k hk
    rw [hv]; rfl
  have hkl := keysS_len l
  refine Ev.step (f := fun k => tailracelaw13_OpersReduces.l0 k l ((keysS l).map fun k => ⟨k, (redS 1 l k).getD 0⟩) ((keysS l).map fun k => ⟨k, (redS 2 l k).getD 0⟩) ((keysS l).map fun k => ⟨k, (redS 3 l k).getD 0⟩) 0 0) (fun k => by rw [tailracelaw13_OpersReduces.j0, if_neg (by simp)]) ?_
  refine l0_ev l hl (keysS l) _ _ _ (keysS_lt l) (by omega) (fun k hk => ?_) (fun k hk => ?_) (fun k hk => ?_) (fun k hk => ?_) (fun k hk => ?_) (keysS l).length 0 0 (Nat.zero_add _) (by omega) ?_
  · have := red1 l (fun _ => none) k _ (hat 1 k hk) (by simp) (by simp; omega)
    simpa using this
  · rcases (red2 l (fun _ => none) k _ (hat 2 k hk)).1 with h | h
    · exact h
    · cases h
  · rcases (red3 l (fun _ => none) k _ (hat 3 k hk)).1 with h | h
    · exact h
    · cases h
  · exact (red2 l (fun _ => none) k _ (hat 2 k hk)).2.1
  · exact (red3 l (fun _ => none) k _ (hat 3 k hk)).2.1
  · rw [List.drop_zero, sumC_keys]; omega
end Go.Proofs.Ytcihpjkjodhdpaa.X
namespace Go.Proofs.Ytcihpjkjodhdpaa.X
set_option linter.unusedVariables false
set_option linter.unusedSimpArgs false
open Go.RowKit Go.Proofs.YtcihpjkjodhdpaaW.PrintWords Go.Proofs.YtcihpjkjodhdpaaW.PrintLast Go.Proofs.YtcihpjkjodhdpaaW.PrintMore
open Go.ChangeShapes Go.WideShapes
section
variable {H : Type} {enc : TypeId × Value → H} {W : World} {fuel : Nat} {x : DataW H × List MemPlace} {cs : List Value}
set_option maxRecDepth 10000 in
theorem open_rec (h : DataW.trod enc Try.prog W 0 (fun _ => true) true fuel 36 cs = some x) : ∃ y : S36, cs = [.int .i64 y.f0, .int .i64 y.f1] ∧ wf36 y := by
  obtain ⟨xs, n, _, _, hl, hlen, hf⟩ := DataW.trod_struct Try.underlying36 h
  have hc : Try.prog.cellsOf 36 = 2 := by kernel_rfl
  have hc2 : Try.prog.cellsOf 2 = 1 := by kernel_rfl
  rw [hc] at hl
  match cs, hl with
  | [c0, c1], _ =>
    match xs, hlen with
    | [y0, y1], _ =>
      have h0 : DataW.trod enc Try.prog W 0 (fun _ => true) true n 2 (([c0, c1].drop 0).take (Try.prog.cellsOf 2)) = some y0 := hf 0 _ rfl
      rw [hc2] at h0
      replace h0 : DataW.trod enc Try.prog W 0 (fun _ => true) true n 2 [c0] = some y0 := h0
      have h1 : DataW.trod enc Try.prog W 0 (fun _ => true) true n 2 (([c0, c1].drop 1).take (Try.prog.cellsOf 2)) = some y1 := hf 1 _ rfl
      rw [hc2] at h1
      replace h1 : DataW.trod enc Try.prog W 0 (fun _ => true) true n 2 [c1] = some y1 := h1
      obtain ⟨z0, e0, _, w0⟩ := DataW.trod_int Try.underlying2 h0
      obtain ⟨z1, e1, _, w1⟩ := DataW.trod_int Try.underlying2 h1
      simp only [List.cons.injEq, and_true] at e0 e1
      subst e0 e1
      exact ⟨⟨z0, z1⟩, rfl, w0, w1⟩
theorem open_slice_of {α : Type} [Inhabited α] {d : Kd α} {e : TypeId} {sz : Nat} (he : Try.prog.cellsOf e = sz) (hs : d.sz = sz) (Pr : α → Prop)
    (hopen : ∀ {fuel : Nat} {cs : List Value} {x : DataW H × List MemPlace}, DataW.trod enc Try.prog W 0 (fun _ => true) true fuel e cs = some x → ∃ y : α, d.K W y cs ∧ Pr y)
    {t : TypeId} (ht : Try.prog.underlying t = some (.slice e)) (h : DataW.trod enc Try.prog W 0 (fun _ => true) true fuel t cs = some x) : ∃ (a : Option Addr) (cap : Nat) (G : List α), cs = [.slice a G.length cap] ∧ G.length ≤ cap ∧ Kd.C d W a G.length G ∧ ∀ y ∈ G, Pr y := by
  rcases Go.Deep.open_slice ht h with ⟨hcs, _⟩ | ⟨ad, l, c, m, n, D, Pl, hcs, _, hl, hm, hmm, _, hx⟩
  · exact ⟨none, 0, [], hcs, Nat.le_refl _, ⟨rfl, by simp, fun h => absurd h (Nat.not_lt_zero _)⟩, by simp⟩
  · simp only [if_true] at hmm
    rw [he] at hx
    obtain ⟨g, hg⟩ := Go.Deep.choose_lt (α := α) (p := fun i y => ∃ cs', W.cells? 0 (ad.add (i * sz)) sz = some cs' ∧ d.K W y cs' ∧ Pr y) (n := m) fun i hi => by
      obtain ⟨cs', h1, h2⟩ := hx i hi
      obtain ⟨y, hy, hp⟩ := hopen h2
      exact ⟨y, cs', h1, hy, hp⟩
    have hlen : ((List.range l).map g).length = l := by simp
    refine ⟨some ad, c, (List.range l).map g, by rw [hlen]; exact hcs, by rw [hlen]; exact hl, ⟨rfl, ?_, fun _ => ⟨ad, rfl, fun j p hp => ?_⟩⟩, fun y hy => ?_⟩
    · unfold maxLen at hm
      rw [hlen]
      omega
    · rw [List.getElem?_map] at hp
      by_cases hj : j < l
      · rw [List.getElem?_range hj] at hp
        obtain rfl : g j = p := by simpa using hp
        obtain ⟨cs', h1, h2, _⟩ := hg j (by omega)
        obtain ⟨_, h3, h4⟩ := World.cells?_some h1
        refine ⟨cs', by rw [h3, hs], h2, fun i u hu => ?_⟩
        have hi : i < sz := by
          rcases Nat.lt_or_ge i sz with h | h
          · exact h
          · rw [List.getElem?_eq_none (by omega)] at hu; exact absurd hu (by simp)
        rw [hs, ← Go.Deep.add_add, h4 i hi, hu]
      · rw [List.getElem?_eq_none (by simp; omega)] at hp
        exact absurd hp (by simp)
    · obtain ⟨j, hj, rfl⟩ := List.mem_map.1 hy
      obtain ⟨_, _, _, hp⟩ := hg j (by have := List.mem_range.1 hj; omega)
      exact hp
instance : Inhabited S36 := ⟨z36⟩
theorem open_recs (h : DataW.trod enc Try.prog W 0 (fun _ => true) true fuel 28 cs = some x) : ∃ (a : Option Addr) (cap : Nat) (G : List S36), cs = [.slice a G.length cap] ∧ G.length ≤ cap ∧ Kd.C k36 W a G.length G ∧ ∀ y ∈ G, wf36 y :=
  open_slice_of (d := k36) (by kernel_rfl) rfl wf36 (fun h => by obtain ⟨y, rfl, hw⟩ := open_rec h; exact ⟨y, k36_mk _ y, hw⟩) Try.underlying28 h
end
end Go.Proofs.Ytcihpjkjodhdpaa.X
