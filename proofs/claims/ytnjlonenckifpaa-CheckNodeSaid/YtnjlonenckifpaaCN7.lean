/- A part of the proof. -/
import Derived.Test.YtnjlonenckifpaaCN6
import Derived.Deep.Slices
import Derived.ChangeSlices
import Derived.WideShapes
namespace Go.Proofs.Ytnjlonenckifpaa.X
open Go.RowKit Go.Proofs.YtnjlonenckifpaaW.PrintWords Go.Proofs.YtnjlonenckifpaaW.PrintLast Go.Proofs.YtnjlonenckifpaaW.PrintMore
set_option linter.unusedVariables false
set_option linter.unusedSimpArgs false
def tailracelaw10_CheckNode.f (k : Nat) (l0 : List (S39)) (a1 : Int) : Option (Bool) := (tailracekit_Ins.f k l0 40).bind fun t234 => (if t234 = true then ((tailracekit_Own.f k l0).bind fun t236 => ((check_Node.f k t236 a1).bind fun t239 => ((tailraceref10_Node.f k l0 a1).bind fun t240 => (if t239 = t240 then ((tailraceref09_Same.f k t236 l0).bind fun t241 => (if t241 = true then ((tailracelaw10_works.f).bind fun t242 => (some t242)) else (some false))) else (some false))))) else ((tailracelaw10_works.f).bind fun t235 => (some t235)))
set_option maxHeartbeats 8000000 in
set_option maxRecDepth 100000 in
theorem tailracelaw10_CheckNode.calls (k : Nat) (A0 : Option Addr) (c0 : Nat) (l0 : List (S39)) (a1 : Int) (r : Bool) (w : World) (hr0 : Kd.C k39 w A0 l0.length l0) (hc0 : l0.length ≤ c0) (h : tailracelaw10_CheckNode.f k l0 a1 = some r) :
    Calls Try.prog 3 #[.slice A0 l0.length c0, .int .i64 a1] w fun e w' => e = .returned (.bool r) ∧ Below w.heap.size w w' := by
  have HR0 := Aside0.mk hr0
  have HC0 := Aside0.mk hc0
  clear hr0 hc0
  have HB := Aside0.mk (Below.refl w.heap.size w)
  have H : ((tailracekit_Ins.f k l0 40).bind fun t234 => (if t234 = true then ((tailracekit_Own.f k l0).bind fun t236 => ((check_Node.f k t236 a1).bind fun t239 => ((tailraceref10_Node.f k l0 a1).bind fun t240 => (if t239 = t240 then ((tailraceref09_Same.f k t236 l0).bind fun t241 => (if t241 = true then ((tailracelaw10_works.f).bind fun t242 => (some t242)) else (some false))) else (some false))))) else ((tailracelaw10_works.f).bind fun t235 => (some t235)))) = some r := h
  clear h
  replace H := Option.bind_eq_some_iff.mp H
  obtain ⟨t234, A30, H⟩ := H
  replace H : (if t234 = true then ((tailracekit_Own.f k l0).bind fun t236 => ((check_Node.f k t236 a1).bind fun t239 => ((tailraceref10_Node.f k l0 a1).bind fun t240 => (if t239 = t240 then ((tailraceref09_Same.f k t236 l0).bind fun t241 => (if t241 = true then ((tailracelaw10_works.f).bind fun t242 => (some t242)) else (some false))) else (some false))))) else ((tailracelaw10_works.f).bind fun t235 => (some t235))) = some r := H
  have A3 := Aside0.mk A30
  clear A30
  by_cases c4 : t234 = true
  · subst c4
    have H1 : ((tailracekit_Own.f k l0).bind fun t236 => ((check_Node.f k t236 a1).bind fun t239 => ((tailraceref10_Node.f k l0 a1).bind fun t240 => (if t239 = t240 then ((tailraceref09_Same.f k t236 l0).bind fun t241 => (if t241 = true then ((tailracelaw10_works.f).bind fun t242 => (some t242)) else (some false))) else (some false))))) = some r := by rw [if_pos rfl] at H; exact H
    clear H
    have H := H1
    clear H1
    replace H := Option.bind_eq_some_iff.mp H
    obtain ⟨t236, A50, H⟩ := H
    replace H : ((check_Node.f k t236 a1).bind fun t239 => ((tailraceref10_Node.f k l0 a1).bind fun t240 => (if t239 = t240 then ((tailraceref09_Same.f k t236 l0).bind fun t241 => (if t241 = true then ((tailracelaw10_works.f).bind fun t242 => (some t242)) else (some false))) else (some false)))) = some r := H
    have A5 := Aside0.mk A50
    clear A50
    replace H := Option.bind_eq_some_iff.mp H
    obtain ⟨t239, A60, H⟩ := H
    replace H : ((tailraceref10_Node.f k l0 a1).bind fun t240 => (if t239 = t240 then ((tailraceref09_Same.f k t236 l0).bind fun t241 => (if t241 = true then ((tailracelaw10_works.f).bind fun t242 => (some t242)) else (some false))) else (some false))) = some r := H
    have A6 := Aside0.mk A60
    clear A60
    replace H := Option.bind_eq_some_iff.mp H
    obtain ⟨t240, A70, H⟩ := H
    replace H : (if t239 = t240 then ((tailraceref09_Same.f k t236 l0).bind fun t241 => (if t241 = true then ((tailracelaw10_works.f).bind fun t242 => (some t242)) else (some false))) else (some false)) = some r := H
    have A7 := Aside0.mk A70
    clear A70
    by_cases c8 : t239 = t240
    · rw [if_pos c8] at H
      have c8b0 : (t239 == t240) = true := beq_iff_eq.mpr c8
      have c8b1 : (t239 != t240) = false := bne_eq_false_iff_eq.mpr c8
      clear c8
      replace H := Option.bind_eq_some_iff.mp H
      obtain ⟨t241, A90, H⟩ := H
      replace H : (if t241 = true then ((tailracelaw10_works.f).bind fun t242 => (some t242)) else (some false)) = some r := H
      have A9 := Aside0.mk A90
      clear A90
      by_cases c10 : t241 = true
      · subst c10
        have H1 : ((tailracelaw10_works.f).bind fun t242 => (some t242)) = some r := by rw [if_pos rfl] at H; exact H
        clear H
        have H := H1
        clear H1
        replace H := Option.bind_eq_some_iff.mp H
        obtain ⟨t242, A110, H⟩ := H
        replace H : (some t242) = some r := H
        have A11 := Aside0.mk A110
        clear A110
        obtain rfl := Option.some.inj H
        go_enter Try.func3, Try.ntmps3
        go_wp2_with (first | ((with_reducible refine gate_callee (f := 9) rfl ?_); refine goesL_ (some 7) rfl rfl Try.func9 (by kernel_rfl) rfl #[.slice A0 l0.length c0, .int .i64 40] rfl (by (try simp only [List.map_toArray, List.map_cons, List.map_nil]); first | done | rfl | (simp only [List.length_drop, List.length_take]; rfl)) ?_; (with_reducible refine (tailracekit_Ins.calls k _ _ l0 40 true _ ?side1 ?side2 A3.out).mono ?_); (case side1 => repeat (first | exact HR0.out | (with_reducible refine Kd.C_alloc ?_ _) | (with_reducible refine Kd.C_drewN ?_ _) | (with_reducible refine Kd.C_drew ?_))); (case side2 => exact HC0.out); rintro e w' ⟨rfl, ⟨nd, rfl⟩⟩; refine ⟨_, rfl, ?_⟩) | ((with_reducible refine gate_callee (f := 11) rfl ?_); refine goesL_ (some 11) rfl rfl Try.func11 (by kernel_rfl) rfl #[.slice A0 l0.length c0] rfl (by (try simp only [List.map_toArray, List.map_cons, List.map_nil]); first | done | rfl | (simp only [List.length_drop, List.length_take]; rfl)) ?_; (with_reducible refine (tailracekit_Own.calls k _ _ l0 t236 _ ?side1 ?side2 A5.out).mono ?_); (case side1 => repeat (first | exact HR0.out | (with_reducible refine Kd.C_alloc ?_ _) | (with_reducible refine Kd.C_drewN ?_ _) | (with_reducible refine Kd.C_drew ?_))); (case side2 => exact HC0.out); rintro e w12 ⟨v237, rfl, ho0, hb⟩; refine ⟨_, rfl, ?_⟩; have n0_ := Aside0.mk (Kd.S_lower ho0 (below_size (by repeat (first | (with_reducible first | exact HB.out | apply below_alloc | apply pw_below_drewN | apply below_drew1) | exact HB.out)))); have n1_ := Aside0.mk (below_step (by repeat (first | (with_reducible first | exact HB.out | apply below_alloc | apply pw_below_drewN | apply below_drew1) | exact HB.out)) hb); clear HB; have HO238 := n0_; have HB := n1_; clear n0_ n1_; (try clear hb); (try clear hb2); (try clear hk); (try clear hi); (try clear ho0); obtain ⟨Ao13, co13, eo13⟩ := Kd.S_slice HO238.out; subst eo13) | ((with_reducible refine gate_callee (f := 12) rfl ?_); refine goesL_ (some 14) rfl rfl Try.func12 (by kernel_rfl) rfl #[.slice Ao13 t236.length co13, .int .i64 a1] rfl (by (try simp only [List.map_toArray, List.map_cons, List.map_nil]); first | done | rfl | (simp only [List.length_drop, List.length_take]; rfl)) ?_; (with_reducible refine (check_Node.calls k _ _ t236 a1 t239 _ ?side1 ?side2 A6.out).mono ?_); (case side1 => repeat (first | exact (Kd.S_reads' HO238.out).2.2 | (with_reducible refine Kd.C_alloc ?_ _) | (with_reducible refine Kd.C_drewN ?_ _) | (with_reducible refine Kd.C_drew ?_))); (case side2 => exact (Kd.S_reads' HO238.out).2.1); rintro e w14 ⟨rfl, hb⟩; refine ⟨_, rfl, ?_⟩; have n0_ := Aside0.mk (Kd.S_below (by (with_reducible repeat (first | apply Kd.S_alloc | apply Kd.S_drewN | apply Kd.S_drew)); exact HO238.out) hb); have n1_ := Aside0.mk (below_step (by repeat (first | (with_reducible first | exact HB.out | apply below_alloc | apply pw_below_drewN | apply below_drew1) | exact HB.out)) hb); clear HO238; clear HB; have HO238 := n0_; have HB := n1_; clear n0_ n1_; (try clear hb); (try clear hb2); (try clear hk); (try clear hi)) | ((with_reducible refine gate_callee (f := 13) rfl ?_); refine goesL_ (some 17) rfl rfl Try.func13 (by kernel_rfl) rfl #[.slice A0 l0.length c0, .int .i64 a1] rfl (by (try simp only [List.map_toArray, List.map_cons, List.map_nil]); first | done | rfl | (simp only [List.length_drop, List.length_take]; rfl)) ?_; (with_reducible refine (tailraceref10_Node.calls k _ _ l0 a1 t240 _ ?side1 ?side2 A7.out).mono ?_); (case side1 => repeat (first | exact (Kd.C_below HR0.out HB.out) | (with_reducible refine Kd.C_alloc ?_ _) | (with_reducible refine Kd.C_drewN ?_ _) | (with_reducible refine Kd.C_drew ?_))); (case side2 => exact HC0.out); rintro e w15 ⟨rfl, hb⟩; refine ⟨_, rfl, ?_⟩; have n0_ := Aside0.mk (Kd.S_below (by (with_reducible repeat (first | apply Kd.S_alloc | apply Kd.S_drewN | apply Kd.S_drew)); exact HO238.out) hb); have n1_ := Aside0.mk (below_step (by repeat (first | (with_reducible first | exact HB.out | apply below_alloc | apply pw_below_drewN | apply below_drew1) | exact HB.out)) hb); clear HO238; clear HB; have HO238 := n0_; have HB := n1_; clear n0_ n1_; (try clear hb); (try clear hb2); (try clear hk); (try clear hi)) | (go_at_call 14; (with_reducible refine (tailraceref09_Same.calls k _ _ t236 _ _ l0 true _ ?side1 ?side2 ?side3 ?side4 A9.out).mono ?_); (case side1 => repeat (first | exact (Kd.S_reads' HO238.out).2.2 | (with_reducible refine Kd.C_alloc ?_ _) | (with_reducible refine Kd.C_drewN ?_ _) | (with_reducible refine Kd.C_drew ?_))); (case side2 => exact (Kd.S_reads' HO238.out).2.1); (case side3 => repeat (first | exact (Kd.C_below HR0.out HB.out) | (with_reducible refine Kd.C_alloc ?_ _) | (with_reducible refine Kd.C_drewN ?_ _) | (with_reducible refine Kd.C_drew ?_))); (case side4 => exact HC0.out); rintro e w16 ⟨rfl, hb⟩; have n0_ := Aside0.mk (Kd.S_below (by (with_reducible repeat (first | apply Kd.S_alloc | apply Kd.S_drewN | apply Kd.S_drew)); exact HO238.out) hb); have n1_ := Aside0.mk (below_step (by repeat (first | (with_reducible first | exact HB.out | apply below_alloc | apply pw_below_drewN | apply below_drew1) | exact HB.out)) hb); clear HO238; clear HB; have HO238 := n0_; have HB := n1_; clear n0_ n1_; (try clear hb); (try clear hb2); (try clear hk); (try clear hi)) | (go_at_call 10; (with_reducible refine (tailracelaw10_works.calls  t242 _ A11.out).mono ?_); rintro e w17 ⟨rfl, hb⟩; have n0_ := Aside0.mk (Kd.S_below (by (with_reducible repeat (first | apply Kd.S_alloc | apply Kd.S_drewN | apply Kd.S_drew)); exact HO238.out) hb); have n1_ := Aside0.mk (below_step (by repeat (first | (with_reducible first | exact HB.out | apply below_alloc | apply pw_below_drewN | apply below_drew1) | exact HB.out)) hb); clear HO238; clear HB; have HO238 := n0_; have HB := n1_; clear n0_ n1_; (try clear hb); (try clear hb2); (try clear hk); (try clear hi)))
        go_ret
        exact ⟨by first | rfl | (simp [errW_none, errW_some] <;> rfl) | (simp [*, errW_none, errW_some] <;> rfl), by repeat (first | (with_reducible first | exact HB.out | apply below_alloc | apply pw_below_drewN | apply below_drew1) | exact HB.out)⟩
      · replace c10 := Bool.eq_false_iff.mpr c10
        subst c10
        have H1 : (some false) = some r := by rw [if_neg (show ¬ (false = true) by decide)] at H; exact H
        clear H
        have H := H1
        clear H1
        obtain rfl := Option.some.inj H
        go_enter Try.func3, Try.ntmps3
        go_wp2_with (first | ((with_reducible refine gate_callee (f := 9) rfl ?_); refine goesL_ (some 7) rfl rfl Try.func9 (by kernel_rfl) rfl #[.slice A0 l0.length c0, .int .i64 40] rfl (by (try simp only [List.map_toArray, List.map_cons, List.map_nil]); first | done | rfl | (simp only [List.length_drop, List.length_take]; rfl)) ?_; (with_reducible refine (tailracekit_Ins.calls k _ _ l0 40 true _ ?side1 ?side2 A3.out).mono ?_); (case side1 => repeat (first | exact HR0.out | (with_reducible refine Kd.C_alloc ?_ _) | (with_reducible refine Kd.C_drewN ?_ _) | (with_reducible refine Kd.C_drew ?_))); (case side2 => exact HC0.out); rintro e w' ⟨rfl, ⟨nd, rfl⟩⟩; refine ⟨_, rfl, ?_⟩) | ((with_reducible refine gate_callee (f := 11) rfl ?_); refine goesL_ (some 11) rfl rfl Try.func11 (by kernel_rfl) rfl #[.slice A0 l0.length c0] rfl (by (try simp only [List.map_toArray, List.map_cons, List.map_nil]); first | done | rfl | (simp only [List.length_drop, List.length_take]; rfl)) ?_; (with_reducible refine (tailracekit_Own.calls k _ _ l0 t236 _ ?side1 ?side2 A5.out).mono ?_); (case side1 => repeat (first | exact HR0.out | (with_reducible refine Kd.C_alloc ?_ _) | (with_reducible refine Kd.C_drewN ?_ _) | (with_reducible refine Kd.C_drew ?_))); (case side2 => exact HC0.out); rintro e w18 ⟨v237, rfl, ho0, hb⟩; refine ⟨_, rfl, ?_⟩; have n0_ := Aside0.mk (Kd.S_lower ho0 (below_size (by repeat (first | (with_reducible first | exact HB.out | apply below_alloc | apply pw_below_drewN | apply below_drew1) | exact HB.out)))); have n1_ := Aside0.mk (below_step (by repeat (first | (with_reducible first | exact HB.out | apply below_alloc | apply pw_below_drewN | apply below_drew1) | exact HB.out)) hb); clear HB; have HO238 := n0_; have HB := n1_; clear n0_ n1_; (try clear hb); (try clear hb2); (try clear hk); (try clear hi); (try clear ho0); obtain ⟨Ao19, co19, eo19⟩ := Kd.S_slice HO238.out; subst eo19) | ((with_reducible refine gate_callee (f := 12) rfl ?_); refine goesL_ (some 14) rfl rfl Try.func12 (by kernel_rfl) rfl #[.slice Ao19 t236.length co19, .int .i64 a1] rfl (by (try simp only [List.map_toArray, List.map_cons, List.map_nil]); first | done | rfl | (simp only [List.length_drop, List.length_take]; rfl)) ?_; (with_reducible refine (check_Node.calls k _ _ t236 a1 t239 _ ?side1 ?side2 A6.out).mono ?_); (case side1 => repeat (first | exact (Kd.S_reads' HO238.out).2.2 | (with_reducible refine Kd.C_alloc ?_ _) | (with_reducible refine Kd.C_drewN ?_ _) | (with_reducible refine Kd.C_drew ?_))); (case side2 => exact (Kd.S_reads' HO238.out).2.1); rintro e w20 ⟨rfl, hb⟩; refine ⟨_, rfl, ?_⟩; have n0_ := Aside0.mk (Kd.S_below (by (with_reducible repeat (first | apply Kd.S_alloc | apply Kd.S_drewN | apply Kd.S_drew)); exact HO238.out) hb); have n1_ := Aside0.mk (below_step (by repeat (first | (with_reducible first | exact HB.out | apply below_alloc | apply pw_below_drewN | apply below_drew1) | exact HB.out)) hb); clear HO238; clear HB; have HO238 := n0_; have HB := n1_; clear n0_ n1_; (try clear hb); (try clear hb2); (try clear hk); (try clear hi)) | ((with_reducible refine gate_callee (f := 13) rfl ?_); refine goesL_ (some 17) rfl rfl Try.func13 (by kernel_rfl) rfl #[.slice A0 l0.length c0, .int .i64 a1] rfl (by (try simp only [List.map_toArray, List.map_cons, List.map_nil]); first | done | rfl | (simp only [List.length_drop, List.length_take]; rfl)) ?_; (with_reducible refine (tailraceref10_Node.calls k _ _ l0 a1 t240 _ ?side1 ?side2 A7.out).mono ?_); (case side1 => repeat (first | exact (Kd.C_below HR0.out HB.out) | (with_reducible refine Kd.C_alloc ?_ _) | (with_reducible refine Kd.C_drewN ?_ _) | (with_reducible refine Kd.C_drew ?_))); (case side2 => exact HC0.out); rintro e w21 ⟨rfl, hb⟩; refine ⟨_, rfl, ?_⟩; have n0_ := Aside0.mk (Kd.S_below (by (with_reducible repeat (first | apply Kd.S_alloc | apply Kd.S_drewN | apply Kd.S_drew)); exact HO238.out) hb); have n1_ := Aside0.mk (below_step (by repeat (first | (with_reducible first | exact HB.out | apply below_alloc | apply pw_below_drewN | apply below_drew1) | exact HB.out)) hb); clear HO238; clear HB; have HO238 := n0_; have HB := n1_; clear n0_ n1_; (try clear hb); (try clear hb2); (try clear hk); (try clear hi)) | (go_at_call 14; (with_reducible refine (tailraceref09_Same.calls k _ _ t236 _ _ l0 false _ ?side1 ?side2 ?side3 ?side4 A9.out).mono ?_); (case side1 => repeat (first | exact (Kd.S_reads' HO238.out).2.2 | (with_reducible refine Kd.C_alloc ?_ _) | (with_reducible refine Kd.C_drewN ?_ _) | (with_reducible refine Kd.C_drew ?_))); (case side2 => exact (Kd.S_reads' HO238.out).2.1); (case side3 => repeat (first | exact (Kd.C_below HR0.out HB.out) | (with_reducible refine Kd.C_alloc ?_ _) | (with_reducible refine Kd.C_drewN ?_ _) | (with_reducible refine Kd.C_drew ?_))); (case side4 => exact HC0.out); rintro e w22 ⟨rfl, hb⟩; have n0_ := Aside0.mk (Kd.S_below (by (with_reducible repeat (first | apply Kd.S_alloc | apply Kd.S_drewN | apply Kd.S_drew)); exact HO238.out) hb); have n1_ := Aside0.mk (below_step (by repeat (first | (with_reducible first | exact HB.out | apply below_alloc | apply pw_below_drewN | apply below_drew1) | exact HB.out)) hb); clear HO238; clear HB; have HO238 := n0_; have HB := n1_; clear n0_ n1_; (try clear hb); (try clear hb2); (try clear hk); (try clear hi)))
        go_ret
        exact ⟨by first | rfl | (simp [errW_none, errW_some] <;> rfl) | (simp [*, errW_none, errW_some] <;> rfl), by repeat (first | (with_reducible first | exact HB.out | apply below_alloc | apply pw_below_drewN | apply below_drew1) | exact HB.out)⟩
    · rw [if_neg c8] at H
      have c8b0 : (t239 == t240) = false := beq_eq_false_iff_ne.mpr c8
      have c8b1 : (t239 != t240) = true := bne_iff_ne.mpr c8
      obtain rfl := Option.some.inj H
      go_enter Try.func3, Try.ntmps3
      go_wp2_with (first | ((with_reducible refine gate_callee (f := 9) rfl ?_); refine goesL_ (some 7) rfl rfl Try.func9 (by kernel_rfl) rfl #[.slice A0 l0.length c0, .int .i64 40] rfl (by (try simp only [List.map_toArray, List.map_cons, List.map_nil]); first | done | rfl | (simp only [List.length_drop, List.length_take]; rfl)) ?_; (with_reducible refine (tailracekit_Ins.calls k _ _ l0 40 true _ ?side1 ?side2 A3.out).mono ?_); (case side1 => repeat (first | exact HR0.out | (with_reducible refine Kd.C_alloc ?_ _) | (with_reducible refine Kd.C_drewN ?_ _) | (with_reducible refine Kd.C_drew ?_))); (case side2 => exact HC0.out); rintro e w' ⟨rfl, ⟨nd, rfl⟩⟩; refine ⟨_, rfl, ?_⟩) | ((with_reducible refine gate_callee (f := 11) rfl ?_); refine goesL_ (some 11) rfl rfl Try.func11 (by kernel_rfl) rfl #[.slice A0 l0.length c0] rfl (by (try simp only [List.map_toArray, List.map_cons, List.map_nil]); first | done | rfl | (simp only [List.length_drop, List.length_take]; rfl)) ?_; (with_reducible refine (tailracekit_Own.calls k _ _ l0 t236 _ ?side1 ?side2 A5.out).mono ?_); (case side1 => repeat (first | exact HR0.out | (with_reducible refine Kd.C_alloc ?_ _) | (with_reducible refine Kd.C_drewN ?_ _) | (with_reducible refine Kd.C_drew ?_))); (case side2 => exact HC0.out); rintro e w23 ⟨v237, rfl, ho0, hb⟩; refine ⟨_, rfl, ?_⟩; have n0_ := Aside0.mk (Kd.S_lower ho0 (below_size (by repeat (first | (with_reducible first | exact HB.out | apply below_alloc | apply pw_below_drewN | apply below_drew1) | exact HB.out)))); have n1_ := Aside0.mk (below_step (by repeat (first | (with_reducible first | exact HB.out | apply below_alloc | apply pw_below_drewN | apply below_drew1) | exact HB.out)) hb); clear HB; have HO238 := n0_; have HB := n1_; clear n0_ n1_; (try clear hb); (try clear hb2); (try clear hk); (try clear hi); (try clear ho0); obtain ⟨Ao24, co24, eo24⟩ := Kd.S_slice HO238.out; subst eo24) | ((with_reducible refine gate_callee (f := 12) rfl ?_); refine goesL_ (some 14) rfl rfl Try.func12 (by kernel_rfl) rfl #[.slice Ao24 t236.length co24, .int .i64 a1] rfl (by (try simp only [List.map_toArray, List.map_cons, List.map_nil]); first | done | rfl | (simp only [List.length_drop, List.length_take]; rfl)) ?_; (with_reducible refine (check_Node.calls k _ _ t236 a1 t239 _ ?side1 ?side2 A6.out).mono ?_); (case side1 => repeat (first | exact (Kd.S_reads' HO238.out).2.2 | (with_reducible refine Kd.C_alloc ?_ _) | (with_reducible refine Kd.C_drewN ?_ _) | (with_reducible refine Kd.C_drew ?_))); (case side2 => exact (Kd.S_reads' HO238.out).2.1); rintro e w25 ⟨rfl, hb⟩; refine ⟨_, rfl, ?_⟩; have n0_ := Aside0.mk (Kd.S_below (by (with_reducible repeat (first | apply Kd.S_alloc | apply Kd.S_drewN | apply Kd.S_drew)); exact HO238.out) hb); have n1_ := Aside0.mk (below_step (by repeat (first | (with_reducible first | exact HB.out | apply below_alloc | apply pw_below_drewN | apply below_drew1) | exact HB.out)) hb); clear HO238; clear HB; have HO238 := n0_; have HB := n1_; clear n0_ n1_; (try clear hb); (try clear hb2); (try clear hk); (try clear hi)) | ((with_reducible refine gate_callee (f := 13) rfl ?_); refine goesL_ (some 17) rfl rfl Try.func13 (by kernel_rfl) rfl #[.slice A0 l0.length c0, .int .i64 a1] rfl (by (try simp only [List.map_toArray, List.map_cons, List.map_nil]); first | done | rfl | (simp only [List.length_drop, List.length_take]; rfl)) ?_; (with_reducible refine (tailraceref10_Node.calls k _ _ l0 a1 t240 _ ?side1 ?side2 A7.out).mono ?_); (case side1 => repeat (first | exact (Kd.C_below HR0.out HB.out) | (with_reducible refine Kd.C_alloc ?_ _) | (with_reducible refine Kd.C_drewN ?_ _) | (with_reducible refine Kd.C_drew ?_))); (case side2 => exact HC0.out); rintro e w26 ⟨rfl, hb⟩; refine ⟨_, rfl, ?_⟩; have n0_ := Aside0.mk (Kd.S_below (by (with_reducible repeat (first | apply Kd.S_alloc | apply Kd.S_drewN | apply Kd.S_drew)); exact HO238.out) hb); have n1_ := Aside0.mk (below_step (by repeat (first | (with_reducible first | exact HB.out | apply below_alloc | apply pw_below_drewN | apply below_drew1) | exact HB.out)) hb); clear HO238; clear HB; have HO238 := n0_; have HB := n1_; clear n0_ n1_; (try clear hb); (try clear hb2); (try clear hk); (try clear hi)))
      go_ret
      exact ⟨by first | rfl | (simp [errW_none, errW_some] <;> rfl) | (simp [*, errW_none, errW_some] <;> rfl), by repeat (first | (with_reducible first | exact HB.out | apply below_alloc | apply pw_below_drewN | apply below_drew1) | exact HB.out)⟩
  · replace c4 := Bool.eq_false_iff.mpr c4
    subst c4
    have H1 : ((tailracelaw10_works.f).bind fun t235 => (some t235)) = some r := by rw [if_neg (show ¬ (false = true) by decide)] at H; exact H
    clear H
    have H := H1
    clear H1
    replace H := Option.bind_eq_some_iff.mp H
    obtain ⟨t235, A270, H⟩ := H
    replace H : (some t235) = some r := H
    have A27 := Aside0.mk A270
    clear A270
    obtain rfl := Option.some.inj H
    go_enter Try.func3, Try.ntmps3
    go_wp2_with (first | ((with_reducible refine gate_callee (f := 9) rfl ?_); refine goesL_ (some 7) rfl rfl Try.func9 (by kernel_rfl) rfl #[.slice A0 l0.length c0, .int .i64 40] rfl (by (try simp only [List.map_toArray, List.map_cons, List.map_nil]); first | done | rfl | (simp only [List.length_drop, List.length_take]; rfl)) ?_; (with_reducible refine (tailracekit_Ins.calls k _ _ l0 40 false _ ?side1 ?side2 A3.out).mono ?_); (case side1 => repeat (first | exact HR0.out | (with_reducible refine Kd.C_alloc ?_ _) | (with_reducible refine Kd.C_drewN ?_ _) | (with_reducible refine Kd.C_drew ?_))); (case side2 => exact HC0.out); rintro e w' ⟨rfl, ⟨nd, rfl⟩⟩; refine ⟨_, rfl, ?_⟩) | ((with_reducible refine gate_callee (f := 10) rfl ?_); refine goesL_ (some 9) rfl rfl Try.func10 (by kernel_rfl) rfl #[] rfl (by (try simp only [List.map_toArray, List.map_cons, List.map_nil]); first | done | rfl | (simp only [List.length_drop, List.length_take]; rfl)) ?_; (with_reducible refine (tailracelaw10_works.calls  t235 _ A27.out).mono ?_); rintro e w28 ⟨rfl, hb⟩; refine ⟨_, rfl, ?_⟩; have n0_ := Aside0.mk (below_step (by repeat (first | (with_reducible first | exact HB.out | apply below_alloc | apply pw_below_drewN | apply below_drew1) | exact HB.out)) hb); clear HB; have HB := n0_; clear n0_; (try clear hb); (try clear hb2); (try clear hk); (try clear hi)))
    go_ret
    exact ⟨by first | rfl | (simp [errW_none, errW_some] <;> rfl) | (simp [*, errW_none, errW_some] <;> rfl), by repeat (first | (with_reducible first | exact HB.out | apply below_alloc | apply pw_below_drewN | apply below_drew1) | exact HB.out)⟩
end Go.Proofs.Ytnjlonenckifpaa.X
namespace Go.Proofs.Ytnjlonenckifpaa.X
open Go.RowKit Go.Proofs.YtnjlonenckifpaaW.PrintWords Go.Proofs.YtnjlonenckifpaaW.PrintLast Go.Proofs.YtnjlonenckifpaaW.PrintMore
set_option linter.unusedVariables false
set_option linter.unusedSimpArgs false
def tailracelaw10_CheckAll.f (k : Nat) (l0 : List (S39)) : Option (Bool) := (tailracekit_Ins.f k l0 36).bind fun t304 => (if t304 = true then ((tailracekit_Own.f k l0).bind fun t306 => ((check_Check.f k t306).bind fun bt309 => ((tailraceref10_Check.f k l0).bind fun bt311 => (if bt309.1 = bt311.1 then (if bt309.2 = bt311.2 then ((tailraceref09_Same.f k t306 l0).bind fun t313 => (if t313 = true then ((tailracelaw10_works.f).bind fun t314 => (some t314)) else (some false))) else (some false)) else (some false))))) else ((tailracelaw10_works.f).bind fun t305 => (some t305)))
end Go.Proofs.Ytnjlonenckifpaa.X
namespace Go.Proofs.Ytnjlonenckifpaa.X
set_option linter.unusedVariables false
set_option linter.unusedSimpArgs false
open Go.RowKit Go.Proofs.YtnjlonenckifpaaW.PrintWords Go.Proofs.YtnjlonenckifpaaW.PrintLast Go.Proofs.YtnjlonenckifpaaW.PrintMore
theorem same_l1 (G : List S39) (i : Nat) (hi : i < G.length) (hs : small G = true) (a b c d : Int) (l : List Int) (hl : l.length ≤ 64) (r : Bool) (h : Ev (fun k => tailraceref09_Same.l0 k G G ((i + 1 : Nat) : Int)) r) : ∀ (dd q : Nat), q + dd = l.length →
    Ev (fun k => tailraceref09_Same.l1 k G G (i : Int) (q : Int) a b c d l a b c d l) r
  | 0, q, hq => by
    have hGl := small_len hs
    refine Ev.step (fun k => ?_) h
    rw [tailraceref09_Same.l1, if_neg (by omega), wrap_small (by omega) (by omega)]
    rfl
  | dd + 1, q, hq => by
    refine Ev.step (fun k => ?_) (same_l1 G i hi hs a b c d l hl r h dd (q + 1) (by omega))
    rw [tailraceref09_Same.l1, if_pos (by omega), if_pos (by omega), if_pos (by omega), if_pos rfl, wrap_small (by omega) (by omega)]
    rfl
theorem same_l0 (G : List S39) (hs : small G = true) : ∀ (d i : Nat), i + d = G.length → Ev (fun k => tailraceref09_Same.l0 k G G (i : Int)) true
  | 0, i, hi => Ev.step (f := fun _ => some true) (fun k => by rw [tailraceref09_Same.l0, if_neg (by omega)]) (Ev.now _)
  | d + 1, i, hi => by
    have h := same_l1 G i (by omega) hs (rd_T39 G (i : Int)).f0 (rd_T39 G (i : Int)).f1 (rd_T39 G (i : Int)).f2 (rd_T39 G (i : Int)).f3 (rd_T39 G (i : Int)).f4 (small_in hs _) true (same_l0 G hs d (i + 1) (by omega)) _ 0 (Nat.zero_add _)
    refine Ev.step (f := fun k => tailraceref09_Same.j1 k G G (i : Int) false (rd_T39 G (i : Int)).f0 (rd_T39 G (i : Int)).f1 (rd_T39 G (i : Int)).f2 (rd_T39 G (i : Int)).f3 (rd_T39 G (i : Int)).f4 (rd_T39 G (i : Int)).f0 (rd_T39 G (i : Int)).f1 (rd_T39 G (i : Int)).f2 (rd_T39 G (i : Int)).f3 (rd_T39 G (i : Int)).f4) (fun k => ?_) (Ev.step (fun k => ?_) h)
    · rw [tailraceref09_Same.l0, if_pos (by omega), if_pos (by omega), if_pos (by omega), if_pos rfl, if_pos rfl, if_pos rfl, if_pos rfl, bne_self_eq_false]
    · rw [tailraceref09_Same.j1, if_neg (by simp)]
      rfl
theorem same_ev (G : List S39) (hs : small G = true) : Ev (fun k => tailraceref09_Same.f k G G) true :=
  Ev.congr (fun k => by rw [tailraceref09_Same.f, if_pos rfl]; rfl) (same_l0 G hs G.length 0 (Nat.zero_add _))
theorem Ev.works : Ev (fun _ : Nat => (tailracelaw10_works.f).bind fun t => some t) true := Ev.now true
theorem CheckNode_ev (G : List S39) (i : Int) : Ev (fun k => tailracelaw10_CheckNode.f k G i) true := by
  obtain ⟨r, h1, h2⟩ := ins_ev G 40 (by omega)
  unfold tailracelaw10_CheckNode.f
  refine Ev.bind h1 ?_
  by_cases hr : r = true
  · have hs := (h2 hr).1
    simp only [if_pos hr]
    refine Ev.bind (own_ev G hs) ?_
    refine Ev.bind (node_ev G i) ?_
    refine Ev.bind (ref_node_ev G hs i) ?_
    simp only [if_true]
    refine Ev.bind (same_ev G hs) ?_
    exact Ev.works
  · simp only [if_neg hr]
    exact Ev.works
end Go.Proofs.Ytnjlonenckifpaa.X
namespace Go.Proofs.Ytnjlonenckifpaa.X
set_option linter.unusedVariables false
set_option linter.unusedSimpArgs false
open Go.RowKit Go.Proofs.YtnjlonenckifpaaW.PrintWords Go.Proofs.YtnjlonenckifpaaW.PrintLast Go.Proofs.YtnjlonenckifpaaW.PrintMore
open Go.ChangeShapes Go.WideShapes
section
variable {H : Type} {enc : TypeId × Value → H} {W : World} {fuel : Nat} {x : DataW H × List MemPlace} {cs : List Value}
theorem open_ins (h : DataW.trod enc Try.prog W 0 (fun _ => true) true fuel 33 cs = some x) : ∃ (A : Option Addr) (c : Nat) (xs : List Int), cs = [.slice A xs.length c] ∧ xs.length ≤ c ∧ (Kd.int .i64).C W A xs.length xs := by
  rcases open_ints Try.underlying33 Try.underlying3 (by kernel_rfl) h with ⟨rfl, _⟩ | ⟨a, len, cap, zs, rfl, _, hl, hm, hz, _, hcell, _⟩
  · exact ⟨none, 0, [], rfl, Nat.le_refl _, rfl, by simp, fun h => absurd h (Nat.not_lt_zero _)⟩
  · simp only [if_true] at hz
    have hlen : (zs.take len).length = len := by rw [List.length_take]; omega
    refine ⟨some a, cap, zs.take len, by rw [hlen], by omega, ?_⟩
    rw [hlen]
    refine Kd.C_of_reads (d := (0 : Int)) ⟨hlen, ?_, fun _ => ⟨a, rfl, fun j hj => ?_⟩⟩
    · unfold maxLen at hm; omega
    · rw [hcell j (by omega)]
      congr 2
      simp [List.getD_eq_getElem?_getD, List.getElem?_take, hj]
theorem open_node (h : DataW.trod enc Try.prog W 0 (fun _ => true) true fuel 39 cs = some x) : ∃ y : S39, k39.K W y cs := by
  obtain ⟨xs, n, _, _, hl, hlen, hf⟩ := DataW.trod_struct Try.underlying39 h
  have hc : Try.prog.cellsOf 39 = 5 := by kernel_rfl
  have hc5 : Try.prog.cellsOf 5 = 1 := by kernel_rfl
  have hc2 : Try.prog.cellsOf 2 = 1 := by kernel_rfl
  have hc3 : Try.prog.cellsOf 3 = 1 := by kernel_rfl
  have hc33 : Try.prog.cellsOf 33 = 1 := by kernel_rfl
  rw [hc] at hl
  match cs, hl with
  | [c0, c1, c2, c3, c4], _ =>
    match xs, hlen with
    | [y0, y1, y2, y3, y4], _ =>
      have h0 : DataW.trod enc Try.prog W 0 (fun _ => true) true n 5 (([c0, c1, c2, c3, c4].drop 0).take (Try.prog.cellsOf 5)) = some y0 := hf 0 _ rfl
      rw [hc5] at h0
      replace h0 : DataW.trod enc Try.prog W 0 (fun _ => true) true n 5 [c0] = some y0 := h0
      have h1 : DataW.trod enc Try.prog W 0 (fun _ => true) true n 5 (([c0, c1, c2, c3, c4].drop 1).take (Try.prog.cellsOf 5)) = some y1 := hf 1 _ rfl
      rw [hc5] at h1
      replace h1 : DataW.trod enc Try.prog W 0 (fun _ => true) true n 5 [c1] = some y1 := h1
      have h2 : DataW.trod enc Try.prog W 0 (fun _ => true) true n 2 (([c0, c1, c2, c3, c4].drop 2).take (Try.prog.cellsOf 2)) = some y2 := hf 2 _ rfl
      rw [hc2] at h2
      replace h2 : DataW.trod enc Try.prog W 0 (fun _ => true) true n 2 [c2] = some y2 := h2
      have h3 : DataW.trod enc Try.prog W 0 (fun _ => true) true n 3 (([c0, c1, c2, c3, c4].drop 3).take (Try.prog.cellsOf 3)) = some y3 := hf 3 _ rfl
      rw [hc3] at h3
      replace h3 : DataW.trod enc Try.prog W 0 (fun _ => true) true n 3 [c3] = some y3 := h3
      have h4 : DataW.trod enc Try.prog W 0 (fun _ => true) true n 33 (([c0, c1, c2, c3, c4].drop 4).take (Try.prog.cellsOf 33)) = some y4 := hf 4 _ rfl
      rw [hc33] at h4
      replace h4 : DataW.trod enc Try.prog W 0 (fun _ => true) true n 33 [c4] = some y4 := h4
      obtain ⟨z0, e0, _, _⟩ := DataW.trod_int Try.underlying5 h0
      obtain ⟨z1, e1, _, _⟩ := DataW.trod_int Try.underlying5 h1
      obtain ⟨z2, e2, _, _⟩ := DataW.trod_int Try.underlying2 h2
      obtain ⟨z3, e3, _, _⟩ := DataW.trod_int Try.underlying3 h3
      obtain ⟨A, c, l, e4, l4, g4⟩ := open_ins h4
      simp only [List.cons.injEq, and_true] at e0 e1 e2 e3 e4
      subst e0 e1 e2 e3 e4
      exact ⟨⟨z0, z1, z2, z3, l⟩, k39_mk W ⟨z0, z1, z2, z3, l⟩ l4 g4⟩
instance : Inhabited S39 := ⟨z39⟩
theorem open_graph {t : TypeId} (ht : Try.prog.underlying t = some (.slice 39)) {a : Option Addr} {len cap : Nat} (h : DataW.trod enc Try.prog W 0 (fun _ => true) true fuel t [.slice a len cap] = some x) : ∃ G : List S39, G.length = len ∧ len ≤ cap ∧ Kd.C k39 W a G.length G := by
  rcases Go.Deep.open_slice ht h with ⟨hcs, _⟩ | ⟨ad, l, c, m, n, D, Pl, hcs, _, hl, hm, hmm, _, hx⟩
  · simp only [List.cons.injEq, and_true, Value.slice.injEq] at hcs
    obtain ⟨rfl, rfl, rfl⟩ := hcs
    exact ⟨[], rfl, Nat.le_refl _, rfl, by simp, fun h => absurd h (Nat.not_lt_zero _)⟩
  · simp only [List.cons.injEq, and_true, Value.slice.injEq] at hcs
    obtain ⟨rfl, rfl, rfl⟩ := hcs
    simp only [if_true] at hmm
    have hc : Try.prog.cellsOf 39 = 5 := by kernel_rfl
    rw [hc] at hx
    obtain ⟨g, hg⟩ := Go.Deep.choose_lt (α := S39) (p := fun i y => ∃ cs', W.cells? 0 (ad.add (i * 5)) 5 = some cs' ∧ k39.K W y cs') (n := m) fun i hi => by
      obtain ⟨cs', h1, h2⟩ := hx i hi
      obtain ⟨y, hy⟩ := open_node h2
      exact ⟨y, cs', h1, hy⟩
    refine ⟨(List.range len).map g, by simp, hl, rfl, ?_, fun _ => ⟨ad, rfl, fun j p hp => ?_⟩⟩
    · unfold maxLen at hm
      rw [List.length_map, List.length_range]
      omega
    · rw [List.getElem?_map] at hp
      by_cases hj : j < len
      · rw [List.getElem?_range hj] at hp
        obtain rfl : g j = p := by simpa using hp
        obtain ⟨cs', h1, h2⟩ := hg j (by omega)
        obtain ⟨_, h3, h4⟩ := World.cells?_some h1
        refine ⟨cs', h3, h2, fun i u hu => ?_⟩
        have hi : i < 5 := by
          rcases Nat.lt_or_ge i 5 with h | h
          · exact h
          · rw [List.getElem?_eq_none (by omega)] at hu; exact absurd hu (by simp)
        have e : k39.sz = 5 := rfl
        rw [e, ← Go.Deep.add_add, h4 i hi, hu]
      · rw [List.getElem?_eq_none (by simp; omega)] at hp
        exact absurd hp (by simp)
end
end Go.Proofs.Ytnjlonenckifpaa.X
