/- A part of the proof. -/
import Derived.Test.YtnjlonenckifpaaCP5
import Derived.Deep.Slices
import Derived.ChangeSlices
import Derived.WideShapes
namespace Go.Proofs.Ytnjlonenckifpaa.X
open Go.RowKit Go.Proofs.YtnjlonenckifpaaW.PrintWords Go.Proofs.YtnjlonenckifpaaW.PrintLast Go.Proofs.YtnjlonenckifpaaW.PrintMore
attribute [local go_sem] max2_int max_two
set_option linter.unusedVariables false
set_option linter.unusedSimpArgs false
mutual
def tailracelaw10_CheckParts.l0 : Nat → List (S39) → List Int → List Int → Int → Option (Bool)
  | 0, _, _, _, _ => none
  | k + 1, x0, x5, x6, x8 => if x8 < (x6.length : Int) then (if 0 ≤ x8 then (if 0 ≤ (rd x6 x8) then (if (rd x6 x8) < (x0.length : Int) then ((check_Node.f k x0 (rd x6 x8)).bind fun t222 => (if t222 = 0 then (tailracelaw10_CheckParts.l1 k x0 x5 x6 x8 0 ((rd_T39 x0 (rd x6 x8)).f0) ((rd_T39 x0 (rd x6 x8)).f1) ((rd_T39 x0 (rd x6 x8)).f2) ((rd_T39 x0 (rd x6 x8)).f3) ((rd_T39 x0 (rd x6 x8)).f4)) else (some false))) else (none)) else (none)) else (none)) else ((tailracelaw10_works.f).bind fun t217 => (some t217))
def tailracelaw10_CheckParts.l1 : Nat → List (S39) → List Int → List Int → Int → Int → Int → Int → Int → Int → List Int → Option (Bool)
  | 0, _, _, _, _, _, _, _, _, _, _ => none
  | k + 1, x0, x5, x6, x8, x10, x221000, x221001, x221002, x221003, x221004 => if x10 < (x221004.length : Int) then (if x221000 = 9 then (tailracelaw10_CheckParts.l1 k x0 x5 x6 x8 (wrap64 (x10 + 1)) x221000 x221001 x221002 x221003 x221004) else (if 0 ≤ x8 then (if x8 < (x6.length : Int) then (if 0 ≤ (rd x6 x8) then (if (rd x6 x8) < (x5.length : Int) then (if 0 ≤ x10 then (if 0 ≤ (rd x221004 x10) then (if (rd x221004 x10) < (x5.length : Int) then (tailracelaw10_CheckParts.l1 k x0 (x5.set ((rd x6 x8) : Int).toNat (mx (rd x5 (rd x6 x8)) (wrap64 ((rd x5 (rd x221004 x10)) + 1)))) x6 x8 (wrap64 (x10 + 1)) x221000 x221001 x221002 x221003 x221004) else (none)) else (none)) else (none)) else (none)) else (none)) else (none)) else (none))) else (if 0 ≤ x8 then (if x8 < (x6.length : Int) then (if 0 ≤ (rd x6 x8) then (if (rd x6 x8) < (x5.length : Int) then (if (rd x5 (rd x6 x8)) > x8 then (some false) else (tailracelaw10_CheckParts.l0 k x0 x5 x6 (wrap64 (x8 + 1)))) else (none)) else (none)) else (none)) else (none))
end
def tailracelaw10_CheckParts.f (k : Nat) (l0 : List (S39)) : Option (Bool) := (tailracekit_Ins.f k l0 30).bind fun t205 => (if t205 = true then ((check_Check.f k l0).bind fun bt207 => (if bt207.2 = 0 then (if 0 ≤ (l0.length : Int) then (if ((l0.length : Int) : Int).toNat ≤ 35184372088832 then ((check_Order.f k l0).bind fun bt213 => (tailracelaw10_CheckParts.l0 k l0 (List.replicate ((l0.length : Int) : Int).toNat 0) bt213.1 0)) else (none)) else (none)) else ((tailracelaw10_works.f).bind fun t209 => (some t209)))) else ((tailracelaw10_works.f).bind fun t206 => (some t206)))
def tailracelaw10_CheckParts.T18 : Bool × List (List Nat × List Nat) := (true, [([], []), ([], []), ([], []), ([1, 2], [1, 2]), ([3], [3]), ([], []), ([], []), ([], []), ([6, 7], [6, 7]), ([8], [8]), ([5, 9], [5, 9]), ([10], [10]), ([], []), ([], []), ([13], [13]), ([], []), ([14, 15], [14, 15]), ([16], [16]), ([12, 17], [12, 17]), ([18], [18]), ([19], [19]), ([11, 20], [11, 20]), ([0, 4, 0, 1, 2, 3, 4, 5, 6, 7, 8, 9, 10, 11, 12, 13, 14, 15, 16, 17, 18, 19, 20, 21], [0, 4]), ([22, 21, 0, 1, 2, 3, 4, 5, 6, 7, 8, 9, 10, 11, 12, 13, 14, 15, 16, 17, 18, 19, 20, 21], [21, 22])])
def tailracelaw10_CheckParts.B18 : List Nat := [0, 0, 0, 6, 14, 0, 0, 0, 192, 448, 992, 2016, 0, 0, 8192, 0, 57344, 122880, 258048, 520192, 1044480, 2097120, 4194303, 8388607]
theorem tailracelaw10_CheckParts.tab18 : rtab .any (opsOf Try.f7 18) = tailracelaw10_CheckParts.T18 := by kernel_rfl
theorem tailracelaw10_CheckParts.bits18 : waitsOk tailracelaw10_CheckParts.T18.2 tailracelaw10_CheckParts.B18 = true := by kernel_rfl
set_option maxHeartbeats 8000000 in
set_option maxRecDepth 100000 in
theorem tailracelaw10_CheckParts.calls (k : Nat) (A0 : Option Addr) (c0 : Nat) (l0 : List (S39)) (r : Bool) (w : World) (hr0 : Kd.C k39 w A0 l0.length l0) (hc0 : l0.length ≤ c0) (h : tailracelaw10_CheckParts.f k l0 = some r) :
    Calls Try.prog 7 #[.slice A0 l0.length c0] w fun e w' => e = .returned (.bool r) ∧ Below w.heap.size w w' := by
  have hu39 := Try.underlying39
  have HR0 := Aside0.mk hr0
  have HC0 := Aside0.mk hc0
  clear hr0 hc0
  have HB := Aside0.mk (Below.refl w.heap.size w)
  have H : ((tailracekit_Ins.f k l0 30).bind fun t205 => (if t205 = true then ((check_Check.f k l0).bind fun bt207 => (if bt207.2 = 0 then (if 0 ≤ (l0.length : Int) then (if ((l0.length : Int) : Int).toNat ≤ 35184372088832 then ((check_Order.f k l0).bind fun bt213 => (tailracelaw10_CheckParts.l0 k l0 (List.replicate ((l0.length : Int) : Int).toNat 0) bt213.1 0)) else (none)) else (none)) else ((tailracelaw10_works.f).bind fun t209 => (some t209)))) else ((tailracelaw10_works.f).bind fun t206 => (some t206)))) = some r := h
  clear h
  replace H := Option.bind_eq_some_iff.mp H
  obtain ⟨t205, A20, H⟩ := H
  replace H : (if t205 = true then ((check_Check.f k l0).bind fun bt207 => (if bt207.2 = 0 then (if 0 ≤ (l0.length : Int) then (if ((l0.length : Int) : Int).toNat ≤ 35184372088832 then ((check_Order.f k l0).bind fun bt213 => (tailracelaw10_CheckParts.l0 k l0 (List.replicate ((l0.length : Int) : Int).toNat 0) bt213.1 0)) else (none)) else (none)) else ((tailracelaw10_works.f).bind fun t209 => (some t209)))) else ((tailracelaw10_works.f).bind fun t206 => (some t206))) = some r := H
  have A2 := Aside0.mk A20
  clear A20
  by_cases c3 : t205 = true
  · subst c3
    have H1 : ((check_Check.f k l0).bind fun bt207 => (if bt207.2 = 0 then (if 0 ≤ (l0.length : Int) then (if ((l0.length : Int) : Int).toNat ≤ 35184372088832 then ((check_Order.f k l0).bind fun bt213 => (tailracelaw10_CheckParts.l0 k l0 (List.replicate ((l0.length : Int) : Int).toNat 0) bt213.1 0)) else (none)) else (none)) else ((tailracelaw10_works.f).bind fun t209 => (some t209)))) = some r := by rw [if_pos rfl] at H; exact H
    clear H
    have H := H1
    clear H1
    replace H := Option.bind_eq_some_iff.mp H
    obtain ⟨⟨t207, t208⟩, A40, H⟩ := H
    replace H : (if t208 = 0 then (if 0 ≤ (l0.length : Int) then (if ((l0.length : Int) : Int).toNat ≤ 35184372088832 then ((check_Order.f k l0).bind fun bt213 => (tailracelaw10_CheckParts.l0 k l0 (List.replicate ((l0.length : Int) : Int).toNat 0) bt213.1 0)) else (none)) else (none)) else ((tailracelaw10_works.f).bind fun t209 => (some t209))) = some r := H
    have A4 := Aside0.mk A40
    clear A40
    by_cases c5 : t208 = 0
    · rw [if_pos c5] at H
      have c5b0 : (t208 == 0) = true := beq_iff_eq.mpr c5
      have c5b1 : (t208 != 0) = false := bne_eq_false_iff_eq.mpr c5
      clear c5
      by_cases c6 : 0 ≤ (l0.length : Int)
      · rw [if_pos c6] at H
        have c6b0 := eq_true c6
        have c6b1 : decide (0 ≤ (l0.length : Int)) = true := decide_eq_true c6
        clear c6
        by_cases c7 : ((l0.length : Int) : Int).toNat ≤ 35184372088832
        · rw [if_pos c7] at H
          have c7b0 := eq_true c7
          have c7b1 : decide (((l0.length : Int) : Int).toNat ≤ 35184372088832) = true := decide_eq_true c7
          clear c7
          obtain ⟨y210, hy210⟩ : ∃ y_ : List Int, y_ = (List.replicate ((l0.length : Int) : Int).toNat 0) := ⟨_, rfl⟩
          replace H : ((check_Order.f k l0).bind fun bt213 => (tailracelaw10_CheckParts.l0 k l0 y210 bt213.1 0)) = some r := by first | (rw [hy210]; with_reducible exact H) | (have H2_ := (Option.bind_some _ _).symm.trans H; rw [hy210]; with_reducible exact H2_) | (have H2_ := (Option.bind_some _ _).symm.trans H; with_reducible exact H2_) | with_reducible exact H | (rw [hy210]; exact H) | exact H
          have Ny210 := Aside0.mk hy210
          clear hy210
          replace H := Option.bind_eq_some_iff.mp H
          obtain ⟨⟨t213, t214⟩, A80, H⟩ := H
          replace H : (tailracelaw10_CheckParts.l0 k l0 y210 t213 0) = some r := H
          have A8 := Aside0.mk A80
          clear A80
          have H' := Aside0.mk H
          clear H
          go_enter Try.func7, Try.ntmps7
          go_wp2_with (first | ((with_reducible refine gate_callee (f := 9) rfl ?_); refine goesL_ (some 12) rfl rfl Try.func9 (by kernel_rfl) rfl #[.slice A0 l0.length c0, .int .i64 30] rfl (by (try simp only [List.map_toArray, List.map_cons, List.map_nil]); first | done | rfl | (simp only [List.length_drop, List.length_take]; rfl)) ?_; (with_reducible refine (tailracekit_Ins.calls k _ _ l0 30 true _ ?side1 ?side2 A2.out).mono ?_); (case side1 => repeat (first | exact HR0.out | (with_reducible refine Kd.C_alloc ?_ _) | (with_reducible refine Kd.C_drewN ?_ _) | (with_reducible refine Kd.C_drew ?_))); (case side2 => exact HC0.out); rintro e w' ⟨rfl, ⟨nd, rfl⟩⟩; refine ⟨_, rfl, ?_⟩) | ((with_reducible refine gate_callee (f := 15) rfl ?_); refine goesL_ (some 17) rfl rfl Try.func15 (by kernel_rfl) rfl #[.slice A0 l0.length c0] rfl (by (try simp only [List.map_toArray, List.map_cons, List.map_nil]); first | done | rfl | (simp only [List.length_drop, List.length_take]; rfl)) ?_; (with_reducible refine (check_Check.calls k _ _ l0 t207 t208 _ ?side1 ?side2 A4.out).mono ?_); (case side1 => repeat (first | exact HR0.out | (with_reducible refine Kd.C_alloc ?_ _) | (with_reducible refine Kd.C_drewN ?_ _) | (with_reducible refine Kd.C_drew ?_))); (case side2 => exact HC0.out); rintro e w9 ⟨rfl, hb⟩; refine ⟨_, rfl, ?_⟩; have n0_ := Aside0.mk (below_step (by repeat (first | (with_reducible first | exact HB.out | apply below_alloc | apply pw_below_drewN | apply below_drew1) | exact HB.out)) hb); clear HB; have HB := n0_; clear n0_; (try clear hb); (try clear hb2); (try clear hk); (try clear hi)) | ((with_reducible refine gate_dst (N := 25) rfl ?_); refine Kd.R_make (Kd.int .i64) _ 3 rfl (N := 25) rfl 33 _ _ rfl (l0.length : Int) rfl rfl Try.underlying33 (.int .i64 0) 8 info3 rfl (by decide) (by omega) 0 (ok := fun _ => True) (okp := fun _ => True) rfl (fun _ hk => hk) trivial (of_decide_eq_true (by first | (with_reducible assumption) | assumption)) (Nat.le_trans (Nat.mul_le_mul_right _ (of_decide_eq_true (by first | (with_reducible assumption) | assumption) : (l0.length : Int).toNat ≤ 35184372088832)) (by omega)) (Below.refl _ _) (Nat.le_refl _) ?_; intro v211 w10 ho11 hb hg_ hnew_; clear hg_ hnew_; (first | rw [← Ny210.out] at ho11 | (simp only [Int.reduceToNat] at ho11; rw [← Ny210.out] at ho11)); have n0_ := Aside0.mk (Kd.R_lower ho11 (below_size (by repeat (first | (with_reducible first | exact HB.out | apply below_alloc | apply pw_below_drewN | apply below_drew1) | exact HB.out)))); have n1_ := Aside0.mk (below_step (by repeat (first | (with_reducible first | exact HB.out | apply below_alloc | apply pw_below_drewN | apply below_drew1) | exact HB.out)) hb); clear HB; have HO212 := n0_; have HB := n1_; clear n0_ n1_; clear hb ho11) | ((with_reducible refine gate_callee (f := 17) rfl ?_); refine goesL_ (some 28) rfl rfl Try.func17 (by kernel_rfl) rfl #[.slice A0 l0.length c0] rfl (by (try simp only [List.map_toArray, List.map_cons, List.map_nil]); first | done | rfl | (simp only [List.length_drop, List.length_take]; rfl)) ?_; (with_reducible refine (check_Order.calls k _ _ l0 t213 t214 _ ?side1 ?side2 A8.out).mono ?_); (case side1 => repeat (first | exact (Kd.C_below HR0.out HB.out) | (with_reducible refine Kd.C_alloc ?_ _) | (with_reducible refine Kd.C_drewN ?_ _) | (with_reducible refine Kd.C_drew ?_))); (case side2 => exact HC0.out); rintro e w12 ⟨v215, rfl, ho0, hb⟩; refine ⟨_, rfl, ?_⟩; have n0_ := Aside0.mk (Kd.R_elder' (by (with_reducible repeat (first | apply Kd.R_alloc | apply Kd.R_drewN | apply Kd.R_drew)); exact HO212.out) (Kd.R_base ho0) hb); have n1_ := Aside0.mk (Kd.R_lower (Kd.R_new' ho0 (Kd.R_lt (by (with_reducible repeat (first | apply Kd.R_alloc | apply Kd.R_drewN | apply Kd.R_drew)); exact HO212.out))) (below_size (by repeat (first | (with_reducible first | exact HB.out | apply below_alloc | apply pw_below_drewN | apply below_drew1) | exact HB.out)))); have n2_ := Aside0.mk (below_step (by repeat (first | (with_reducible first | exact HB.out | apply below_alloc | apply pw_below_drewN | apply below_drew1) | exact HB.out)) hb); clear HO212; clear HB; have HO212 := n0_; have HO216 := n1_; have HB := n2_; clear n0_ n1_ n2_; (try clear hb); (try clear hb2); (try clear hk); (try clear hi); (try clear ho0)))
          go_loopg [8] k (fun kq v8 w' => ∃ (x5_1 : List Int) (x8_1 : Int), v8 = .int .i64 x8_1 ∧ Aside0 (tailracelaw10_CheckParts.l0 kq l0 x5_1 t213 x8_1 = some r) ∧ Aside0 (kq ≤ k) ∧ Aside0 (Kd.R (Kd.int .i64) 3 w' w.heap.size (fun k_ => some k_ ≠ (v215 : Value).ownBlock) v211 x5_1) ∧ Aside0 (Kd.R (Kd.int .i64) 3 w' w.heap.size (fun k_ => some k_ ≠ (v211 : Value).ownBlock) v215 t213) ∧ Aside0 (Below w.heap.size w w'))
          case atStart => exact ⟨(y210), (0), (by first | rfl | (simp; done) | (simp [*]; done)), H', ⟨Nat.le_refl _⟩, ⟨by (with_reducible repeat (first | apply Kd.R_alloc | apply Kd.R_drewN | apply Kd.R_drew)); exact Kd.R_mono HO212.out (fun _ hk => hk.2)⟩, ⟨by (with_reducible repeat (first | apply Kd.R_alloc | apply Kd.R_drewN | apply Kd.R_drew)); exact Kd.R_mono HO216.out (fun _ hk => hk.2)⟩, ⟨by repeat (first | (with_reducible first | exact HB.out | apply below_alloc | apply pw_below_drewN | apply below_drew1) | exact HB.out)⟩⟩
          case round =>
            clear H'
            try clear c1
            try clear p2
            try clear c3
            try clear c5
            try clear c5b0
            try clear c5b1
            try clear c6
            try clear c6b0
            try clear c6b1
            try clear c7
            try clear c7b0
            try clear c7b1
            try clear c9
            obtain ⟨x5_1, x8_1, rfl, HA, HK1, HO_5, HO_6, HB⟩ := hrel
            cases gk with
            | zero => exact absurd HA.out (by simp [tailracelaw10_CheckParts.l0])
            | succ k1 =>
              have H := HA.out
              clear HA
              simp only [tailracelaw10_CheckParts.l0] at H
              by_cases c13 : x8_1 < (t213.length : Int)
              · rw [if_pos c13] at H
                have c13b0 : decide (x8_1 < (t213.length : Int)) = true := decide_eq_true c13
                clear c13
                by_cases c14 : 0 ≤ x8_1
                · rw [if_pos c14] at H
                  have c14b0 : decide (0 ≤ x8_1) = true := decide_eq_true c14
                  clear c14
                  by_cases c15 : 0 ≤ (rd t213 x8_1)
                  · rw [if_pos c15] at H
                    have c15b0 : decide (0 ≤ (rd t213 x8_1)) = true := decide_eq_true c15
                    clear c15
                    by_cases c16 : (rd t213 x8_1) < (l0.length : Int)
                    · rw [if_pos c16] at H
                      have c16b0 : decide ((rd t213 x8_1) < (l0.length : Int)) = true := decide_eq_true c16
                      clear c16
                      replace H := Option.bind_eq_some_iff.mp H
                      obtain ⟨t222, A170, H⟩ := H
                      replace H : (if t222 = 0 then (tailracelaw10_CheckParts.l1 k1 l0 x5_1 t213 x8_1 0 ((rd_T39 l0 (rd t213 x8_1)).f0) ((rd_T39 l0 (rd t213 x8_1)).f1) ((rd_T39 l0 (rd t213 x8_1)).f2) ((rd_T39 l0 (rd t213 x8_1)).f3) ((rd_T39 l0 (rd t213 x8_1)).f4)) else (some false)) = some r := H
                      have A17 := Aside0.mk A170
                      clear A170
                      by_cases c18 : t222 = 0
                      · rw [if_pos c18] at H
                        have c18b0 : (t222 == 0) = true := beq_iff_eq.mpr c18
                        have c18b1 : (t222 != 0) = false := bne_eq_false_iff_eq.mpr c18
                        clear c18
                        have H' := Aside0.mk H
                        clear H
                        obtain ⟨Ao19, co19, eo19⟩ := Kd.R_slice HO_6.out
                        subst eo19
                        have p218 : 0 ≤ (x8_1 : Int) := of_decide_eq_true (by first | (with_reducible assumption) | assumption)
                        have q218 : x8_1 < (t213.length : Int) := of_decide_eq_true (by first | (with_reducible assumption) | assumption)
                        obtain ⟨ad218, e218, hx218_0⟩ := Kd.at_int (Kd.R_reads' HO_6.out).2.2 x8_1 p218 q218
                        cases e218
                        replace p218 := eq_true p218
                        replace q218 := eq_true q218
                        have p219 : 0 ≤ ((rd t213 x8_1) : Int) := of_decide_eq_true (by first | (with_reducible assumption) | assumption)
                        have q219 : (rd t213 x8_1) < (l0.length : Int) := of_decide_eq_true (by first | (with_reducible assumption) | assumption)
                        obtain ⟨ad219, A219_4, c219_4, e219, hx219_0, hx219_1, hx219_2, hx219_3, hx219_4, hl219_4, hi219_4⟩ := at_T39 HR0.out (rd t213 x8_1) p219 q219
                        cases e219
                        replace hx219_0 := (HB.out.cell (World.block_lt_of_cell? w _ hx219_0)).trans hx219_0
                        replace hx219_1 := (HB.out.cell (World.block_lt_of_cell? w _ hx219_1)).trans hx219_1
                        replace hx219_2 := (HB.out.cell (World.block_lt_of_cell? w _ hx219_2)).trans hx219_2
                        replace hx219_3 := (HB.out.cell (World.block_lt_of_cell? w _ hx219_3)).trans hx219_3
                        replace hx219_4 := (HB.out.cell (World.block_lt_of_cell? w _ hx219_4)).trans hx219_4
                        have HR219_4 := Aside0.mk hi219_4
                        have HC219_4 := Aside0.mk hl219_4
                        clear hi219_4 hl219_4
                        replace p219 := eq_true p219
                        replace q219 := eq_true q219
                        go_wp2_with (first | ((with_reducible refine gate_dst (N := 9) rfl ?_); refine box_event ?hg (N := 9) ?hd (cs := #[.int .u8 0, .int .u8 0, .int .i64 0, .int .i64 0, .slice none 0 0]) (t := 39) ?hr ?_; (case hd => rfl); (case hg => rfl); (case hr => first | (go_simp; done) | (go_simp; rfl)); intro gb220 hg w20 hbox hb; have n0_ := Aside0.mk (Kd.R_below (by (with_reducible repeat (first | apply Kd.R_alloc | apply Kd.R_drewN | apply Kd.R_drew)); exact HO_5.out) hb); have n1_ := Aside0.mk (Kd.R_below (by (with_reducible repeat (first | apply Kd.R_alloc | apply Kd.R_drewN | apply Kd.R_drew)); exact HO_6.out) hb); have n2_ := Aside0.mk (below_step (by repeat (first | (with_reducible first | exact HB.out | apply below_alloc | apply pw_below_drewN | apply below_drew1) | exact HB.out)) hb); have n3_ := Aside0.mk (hbox); have n4_ := Aside0.mk ((by rw [hg]; exact (below_size (by repeat (first | (with_reducible first | exact HB.out | apply below_alloc | apply pw_below_drewN | apply below_drew1) | exact HB.out))) : w.heap.size ≤ gb220)); have n5_ := Aside0.mk ((by rw [hg]; exact (below_size (by repeat (first | (with_reducible first | exact HB.out | apply below_alloc | apply pw_below_drewN | apply below_drew1) | exact HB.out))) : w.heap.size ≤ gb220)); clear HO_5; clear HO_6; clear HB; have HO_5 := n0_; have HO_6 := n1_; have HB := n2_; have BK220 := n3_; have GW220 := n4_; have GE220 := n5_; clear n0_ n1_ n2_ n3_ n4_ n5_; clear hb hbox hg; have hcz21_0 : w20.cell? ⟨gb220, 0, none⟩ = some (.int .u8 0) := (blk_cell BK220.out 0).trans rfl; have hcz21_1 : w20.cell? ⟨gb220, 1, none⟩ = some (.int .u8 0) := (blk_cell BK220.out 1).trans rfl; have hcz21_2 : w20.cell? ⟨gb220, 2, none⟩ = some (.int .i64 0) := (blk_cell BK220.out 2).trans rfl; have hcz21_3 : w20.cell? ⟨gb220, 3, none⟩ = some (.int .i64 0) := (blk_cell BK220.out 3).trans rfl; have hcz21_4 : w20.cell? ⟨gb220, 4, none⟩ = some (.slice none 0 0) := (blk_cell BK220.out 4).trans rfl; have hfz21_0 := blk_frozen BK220.out 0; have hfz21_1 := blk_frozen BK220.out 1; have hfz21_2 := blk_frozen BK220.out 2; have hfz21_3 := blk_frozen BK220.out 3; have hfz21_4 := blk_frozen BK220.out 4; have p221 : 0 ≤ (x8_1 : Int) := of_decide_eq_true (by first | (with_reducible assumption) | assumption); have q221 : x8_1 < (t213.length : Int) := of_decide_eq_true (by first | (with_reducible assumption) | assumption); obtain ⟨ad221, e221, hx221_0⟩ := Kd.at_int (Kd.R_reads' HO_6.out).2.2 x8_1 p221 q221; obtain rfl : ad218 = ad221 := (by injection e221); have hn221_0 : ad218.block ≠ gb220 := Kd.own_blk (Kd.R_ne HO_6.out BK220.out (by decide)); have hn221_1 : ad218.block ≠ gb220 := Kd.own_blk (Kd.R_ne HO_6.out BK220.out (by decide)); have hn221_2 : ad218.block ≠ gb220 := Kd.own_blk (Kd.R_ne HO_6.out BK220.out (by decide)); have hn221_3 : ad218.block ≠ gb220 := Kd.own_blk (Kd.R_ne HO_6.out BK220.out (by decide)); have hn221_4 : ad218.block ≠ gb220 := Kd.own_blk (Kd.R_ne HO_6.out BK220.out (by decide)); replace hx221_0 := (cell_far (p := ⟨gb220, 0, none⟩) (by first | (rw [add_block]; exact hn221_0) | (show (Addr.add _ _).block ≠ _; rw [add_block]; exact hn221_0) | exact hn221_0) (.int .u8 ((rd_T39 l0 (rd t213 x8_1)).f0))).trans hx221_0; replace hx221_0 := (cell_far (p := ⟨gb220, 1, none⟩) (by first | (rw [add_block]; exact hn221_1) | (show (Addr.add _ _).block ≠ _; rw [add_block]; exact hn221_1) | exact hn221_1) (.int .u8 ((rd_T39 l0 (rd t213 x8_1)).f1))).trans hx221_0; replace hx221_0 := (cell_far (p := ⟨gb220, 2, none⟩) (by first | (rw [add_block]; exact hn221_2) | (show (Addr.add _ _).block ≠ _; rw [add_block]; exact hn221_2) | exact hn221_2) (.int .i64 ((rd_T39 l0 (rd t213 x8_1)).f2))).trans hx221_0; replace hx221_0 := (cell_far (p := ⟨gb220, 3, none⟩) (by first | (rw [add_block]; exact hn221_3) | (show (Addr.add _ _).block ≠ _; rw [add_block]; exact hn221_3) | exact hn221_3) (.int .i64 ((rd_T39 l0 (rd t213 x8_1)).f3))).trans hx221_0; replace hx221_0 := (cell_far (p := ⟨gb220, 4, none⟩) (by first | (rw [add_block]; exact hn221_4) | (show (Addr.add _ _).block ≠ _; rw [add_block]; exact hn221_4) | exact hn221_4) (.slice A219_4 ((rd_T39 l0 (rd t213 x8_1)).f4).length c219_4)).trans hx221_0; clear hn221_0; clear hn221_1; clear hn221_2; clear hn221_3; clear hn221_4; replace p221 := eq_true p221; replace q221 := eq_true q221) | ((with_reducible refine gate_callee (f := 12) rfl ?_); refine goesL_ (some 49) rfl rfl Try.func12 (by kernel_rfl) rfl #[.slice (some ad219) l0.length c0, .int .i64 (rd t213 x8_1)] rfl (by (try simp only [List.map_toArray, List.map_cons, List.map_nil]); first | done | rfl | (simp only [List.length_drop, List.length_take]; rfl)) ?_; (with_reducible refine (check_Node.calls k1 _ _ l0 (rd t213 x8_1) t222 _ ?side1 ?side2 A17.out).mono ?_); (case side1 => exact Kd.C_below HR0.out (by repeat (first | (with_reducible first | exact HB.out | apply below_alloc | apply pw_below_drewN | apply below_drew1 | refine below_set ?_ GE220.out) | exact HB.out))); (case side2 => exact HC0.out); rintro e w22 ⟨rfl, hb⟩; refine ⟨_, rfl, ?_⟩; have n0_ := Aside0.mk (Kd.R_below (by (with_reducible repeat (first | apply Kd.R_alloc | apply Kd.R_drewN | apply Kd.R_drew)); exact (Kd.R_mono (Kd.R_far (p := ⟨gb220, 4, none⟩) (Kd.R_far (p := ⟨gb220, 3, none⟩) (Kd.R_far (p := ⟨gb220, 2, none⟩) (Kd.R_far (p := ⟨gb220, 1, none⟩) (Kd.R_far (p := ⟨gb220, 0, none⟩) (Kd.R_types HO_5.out BK220.out (by decide)) (fun _ hk => hk.2) (.int .u8 ((rd_T39 l0 (rd t213 x8_1)).f0))) (fun _ hk => hk.2) (.int .u8 ((rd_T39 l0 (rd t213 x8_1)).f1))) (fun _ hk => hk.2) (.int .i64 ((rd_T39 l0 (rd t213 x8_1)).f2))) (fun _ hk => hk.2) (.int .i64 ((rd_T39 l0 (rd t213 x8_1)).f3))) (fun _ hk => hk.2) (.slice A219_4 ((rd_T39 l0 (rd t213 x8_1)).f4).length c219_4)) (fun _ h_ => h_.1))) hb); have n1_ := Aside0.mk (Kd.R_below (by (with_reducible repeat (first | apply Kd.R_alloc | apply Kd.R_drewN | apply Kd.R_drew)); exact (Kd.R_mono (Kd.R_far (p := ⟨gb220, 4, none⟩) (Kd.R_far (p := ⟨gb220, 3, none⟩) (Kd.R_far (p := ⟨gb220, 2, none⟩) (Kd.R_far (p := ⟨gb220, 1, none⟩) (Kd.R_far (p := ⟨gb220, 0, none⟩) (Kd.R_types HO_6.out BK220.out (by decide)) (fun _ hk => hk.2) (.int .u8 ((rd_T39 l0 (rd t213 x8_1)).f0))) (fun _ hk => hk.2) (.int .u8 ((rd_T39 l0 (rd t213 x8_1)).f1))) (fun _ hk => hk.2) (.int .i64 ((rd_T39 l0 (rd t213 x8_1)).f2))) (fun _ hk => hk.2) (.int .i64 ((rd_T39 l0 (rd t213 x8_1)).f3))) (fun _ hk => hk.2) (.slice A219_4 ((rd_T39 l0 (rd t213 x8_1)).f4).length c219_4)) (fun _ h_ => h_.1))) hb); have n2_ := Aside0.mk (blk_below (g := gb220) (o := .cells #[.int .u8 ((rd_T39 l0 (rd t213 x8_1)).f0), .int .u8 ((rd_T39 l0 (rd t213 x8_1)).f1), .int .i64 ((rd_T39 l0 (rd t213 x8_1)).f2), .int .i64 ((rd_T39 l0 (rd t213 x8_1)).f3), .slice A219_4 ((rd_T39 l0 (rd t213 x8_1)).f4).length c219_4] 39 (0, 0)) (by (with_reducible repeat (first | refine blk_drewN ?_ _ | refine blk_drew ?_ | refine blk_alloc ?_ _)); refine blk_put (cs := #[.int .u8 ((rd_T39 l0 (rd t213 x8_1)).f0), .int .u8 ((rd_T39 l0 (rd t213 x8_1)).f1), .int .i64 ((rd_T39 l0 (rd t213 x8_1)).f2), .int .i64 ((rd_T39 l0 (rd t213 x8_1)).f3), .slice none 0 0]) ?_ 4 _ rfl; (with_reducible repeat (first | refine blk_drewN ?_ _ | refine blk_drew ?_ | refine blk_alloc ?_ _)); refine blk_put (cs := #[.int .u8 ((rd_T39 l0 (rd t213 x8_1)).f0), .int .u8 ((rd_T39 l0 (rd t213 x8_1)).f1), .int .i64 ((rd_T39 l0 (rd t213 x8_1)).f2), .int .i64 0, .slice none 0 0]) ?_ 3 _ rfl; (with_reducible repeat (first | refine blk_drewN ?_ _ | refine blk_drew ?_ | refine blk_alloc ?_ _)); refine blk_put (cs := #[.int .u8 ((rd_T39 l0 (rd t213 x8_1)).f0), .int .u8 ((rd_T39 l0 (rd t213 x8_1)).f1), .int .i64 0, .int .i64 0, .slice none 0 0]) ?_ 2 _ rfl; (with_reducible repeat (first | refine blk_drewN ?_ _ | refine blk_drew ?_ | refine blk_alloc ?_ _)); refine blk_put (cs := #[.int .u8 ((rd_T39 l0 (rd t213 x8_1)).f0), .int .u8 0, .int .i64 0, .int .i64 0, .slice none 0 0]) ?_ 1 _ rfl; (with_reducible repeat (first | refine blk_drewN ?_ _ | refine blk_drew ?_ | refine blk_alloc ?_ _)); refine blk_put (cs := #[.int .u8 0, .int .u8 0, .int .i64 0, .int .i64 0, .slice none 0 0]) ?_ 0 _ rfl; (with_reducible repeat (first | refine blk_drewN ?_ _ | refine blk_drew ?_ | refine blk_alloc ?_ _)); exact BK220.out) hb); have n3_ := Aside0.mk (below_step (by repeat (first | (with_reducible first | exact HB.out | apply below_alloc | apply pw_below_drewN | apply below_drew1 | refine below_set ?_ GE220.out) | exact HB.out)) hb); clear HO_5; clear HO_6; clear BK220; clear HB; have HO_5 := n0_; have HO_6 := n1_; have BK220 := n2_; have HB := n3_; clear n0_ n1_ n2_ n3_; (try clear hb); (try clear hb2); (try clear hk); (try clear hi)))
                        go_loopg [10] k1 (fun kq v10 w' => ∃ (x5_2 : List Int) (x10_2 : Int), v10 = .int .i64 x10_2 ∧ Aside0 (tailracelaw10_CheckParts.l1 kq l0 x5_2 t213 x8_1 x10_2 ((rd_T39 l0 (rd t213 x8_1)).f0) ((rd_T39 l0 (rd t213 x8_1)).f1) ((rd_T39 l0 (rd t213 x8_1)).f2) ((rd_T39 l0 (rd t213 x8_1)).f3) ((rd_T39 l0 (rd t213 x8_1)).f4) = some r) ∧ Aside0 (kq ≤ k1) ∧ Aside0 (Kd.R (Kd.int .i64) 3 w' w.heap.size (fun k_ => some k_ ≠ ((.slice (some ad218) t213.length co19) : Value).ownBlock) v211 x5_2) ∧ Aside0 (Kd.R (Kd.int .i64) 3 w' w.heap.size (fun k_ => some k_ ≠ (v211 : Value).ownBlock) (.slice (some ad218) t213.length co19) t213) ∧ Aside0 (w'.heap[gb220]? = some (.cells #[.int .u8 ((rd_T39 l0 (rd t213 x8_1)).f0), .int .u8 ((rd_T39 l0 (rd t213 x8_1)).f1), .int .i64 ((rd_T39 l0 (rd t213 x8_1)).f2), .int .i64 ((rd_T39 l0 (rd t213 x8_1)).f3), (.slice A219_4 ((rd_T39 l0 (rd t213 x8_1)).f4).length c219_4)] 39 (0, 0))) ∧ Aside0 (Below w.heap.size w w'))
                        case atStart => exact ⟨(x5_1), (0), (by first | rfl | (simp; done) | (simp [*]; done)), H', ⟨Nat.le_refl _⟩, ⟨by (with_reducible repeat (first | apply Kd.R_alloc | apply Kd.R_drewN | apply Kd.R_drew)); exact HO_5.out⟩, ⟨by (with_reducible repeat (first | apply Kd.R_alloc | apply Kd.R_drewN | apply Kd.R_drew)); exact HO_6.out⟩, ⟨by (with_reducible repeat (first | refine blk_drewN ?_ _ | refine blk_drew ?_ | refine blk_alloc ?_ _)); exact BK220.out⟩, ⟨by repeat (first | (with_reducible first | exact HB.out | apply below_alloc | apply pw_below_drewN | apply below_drew1 | refine below_set ?_ GE220.out) | exact HB.out)⟩⟩
                        case round =>
                          clear H'
                          try clear c1
                          try clear c2
                          try clear p2
                          try clear q2
                          try clear hx2
                          try clear c3
                          try clear c5
                          try clear c5b0
                          try clear c5b1
                          try clear c6
                          try clear c6b0
                          try clear c6b1
                          try clear c7
                          try clear c7b0
                          try clear c7b1
                          try clear c9
                          try clear c12
                          try clear c13
                          try clear c13b0
                          try clear c14
                          try clear c14b0
                          try clear c15
                          try clear c15b0
                          try clear c16
                          try clear c16b0
                          try clear c17
                          try clear c18
                          try clear c18b0
                          try clear c18b1
                          try clear c21
                          try clear p21
                          try clear q21
                          try clear hx21
                          try clear p22
                          try clear q22
                          try clear hx22
                          try clear hcz21_0
                          try clear hcz21_1
                          try clear hcz21_2
                          try clear hcz21_3
                          try clear hcz21_4
                          try clear hfz21_0
                          try clear hfz21_1
                          try clear hfz21_2
                          try clear hfz21_3
                          try clear hfz21_4
                          try clear hx218_0
                          try clear hx219_0
                          try clear hx219_1
                          try clear hx219_2
                          try clear hx219_3
                          try clear hx219_4
                          try clear hx221_0
                          try clear p2
                          try clear p218
                          try clear p219
                          try clear p221
                          try clear q218
                          try clear q219
                          try clear q221
                          obtain ⟨x5_2, x10_2, rfl, HA, HK2, HO_5, HO_6, BK220, HB⟩ := hrel
                          cases gk with
                          | zero => exact absurd HA.out (by simp [tailracelaw10_CheckParts.l1])
                          | succ k2 =>
                            have H := HA.out
                            clear HA
                            simp only [tailracelaw10_CheckParts.l1] at H
                            by_cases c23 : x10_2 < (((rd_T39 l0 (rd t213 x8_1)).f4).length : Int)
                            · rw [if_pos c23] at H
                              have c23b0 : decide (x10_2 < (((rd_T39 l0 (rd t213 x8_1)).f4).length : Int)) = true := decide_eq_true c23
                              clear c23
                              by_cases c24 : ((rd_T39 l0 (rd t213 x8_1)).f0) = 9
                              · rw [if_pos c24] at H
                                have c24b0 : (((rd_T39 l0 (rd t213 x8_1)).f0) == 9) = true := beq_iff_eq.mpr c24
                                have c24b1 : (((rd_T39 l0 (rd t213 x8_1)).f0) != 9) = false := bne_eq_false_iff_eq.mpr c24
                                clear c24
                                have H' := Aside0.mk H
                                clear H
                                have hcz25_0 : wr.cell? ⟨gb220, 0, none⟩ = some (.int .u8 ((rd_T39 l0 (rd t213 x8_1)).f0)) := (blk_cell BK220.out 0).trans rfl
                                have hcz25_1 : wr.cell? ⟨gb220, 1, none⟩ = some (.int .u8 ((rd_T39 l0 (rd t213 x8_1)).f1)) := (blk_cell BK220.out 1).trans rfl
                                have hcz25_2 : wr.cell? ⟨gb220, 2, none⟩ = some (.int .i64 ((rd_T39 l0 (rd t213 x8_1)).f2)) := (blk_cell BK220.out 2).trans rfl
                                have hcz25_3 : wr.cell? ⟨gb220, 3, none⟩ = some (.int .i64 ((rd_T39 l0 (rd t213 x8_1)).f3)) := (blk_cell BK220.out 3).trans rfl
                                have hcz25_4 : wr.cell? ⟨gb220, 4, none⟩ = some (.slice A219_4 ((rd_T39 l0 (rd t213 x8_1)).f4).length c219_4) := (blk_cell BK220.out 4).trans rfl
                                have hfz25_0 := blk_frozen BK220.out 0
                                have hfz25_1 := blk_frozen BK220.out 1
                                have hfz25_2 := blk_frozen BK220.out 2
                                have hfz25_3 := blk_frozen BK220.out 3
                                have hfz25_4 := blk_frozen BK220.out 4
                                go_wp2
                                go_roundg k2
                                case measure => have := HK1.out; have := HK2.out; omega
                                case rel => exact ⟨(x5_2), (wrap64 (x10_2 + 1)), (by first | rfl | (simp; done) | (simp [*]; done)), H', ⟨by have := HK1.out; have := HK2.out; omega⟩, ⟨by (with_reducible repeat (first | apply Kd.R_alloc | apply Kd.R_drewN | apply Kd.R_drew)); exact HO_5.out⟩, ⟨by (with_reducible repeat (first | apply Kd.R_alloc | apply Kd.R_drewN | apply Kd.R_drew)); exact HO_6.out⟩, ⟨by (with_reducible repeat (first | refine blk_drewN ?_ _ | refine blk_drew ?_ | refine blk_alloc ?_ _)); exact BK220.out⟩, ⟨by repeat (first | (with_reducible first | exact HB.out | apply below_alloc | apply pw_below_drewN | apply below_drew1 | refine below_set ?_ GE220.out) | exact HB.out)⟩⟩
                              · rw [if_neg c24] at H
                                have c24b0 : (((rd_T39 l0 (rd t213 x8_1)).f0) == 9) = false := beq_eq_false_iff_ne.mpr c24
                                have c24b1 : (((rd_T39 l0 (rd t213 x8_1)).f0) != 9) = true := bne_iff_ne.mpr c24
                                by_cases c26 : 0 ≤ x8_1
                                · rw [if_pos c26] at H
                                  have c26b0 : decide (0 ≤ x8_1) = true := decide_eq_true c26
                                  clear c26
                                  by_cases c27 : x8_1 < (t213.length : Int)
                                  · rw [if_pos c27] at H
                                    have c27b0 : decide (x8_1 < (t213.length : Int)) = true := decide_eq_true c27
                                    clear c27
                                    by_cases c28 : 0 ≤ (rd t213 x8_1)
                                    · rw [if_pos c28] at H
                                      have c28b0 : decide (0 ≤ (rd t213 x8_1)) = true := decide_eq_true c28
                                      clear c28
                                      by_cases c29 : (rd t213 x8_1) < (x5_2.length : Int)
                                      · rw [if_pos c29] at H
                                        have c29b0 : decide ((rd t213 x8_1) < (x5_2.length : Int)) = true := decide_eq_true c29
                                        clear c29
                                        by_cases c30 : 0 ≤ x10_2
                                        · rw [if_pos c30] at H
                                          have c30b0 : decide (0 ≤ x10_2) = true := decide_eq_true c30
                                          clear c30
                                          by_cases c31 : 0 ≤ (rd ((rd_T39 l0 (rd t213 x8_1)).f4) x10_2)
                                          · rw [if_pos c31] at H
                                            have c31b0 : decide (0 ≤ (rd ((rd_T39 l0 (rd t213 x8_1)).f4) x10_2)) = true := decide_eq_true c31
                                            clear c31
                                            by_cases c32 : (rd ((rd_T39 l0 (rd t213 x8_1)).f4) x10_2) < (x5_2.length : Int)
                                            · rw [if_pos c32] at H
                                              have c32b0 : decide ((rd ((rd_T39 l0 (rd t213 x8_1)).f4) x10_2) < (x5_2.length : Int)) = true := decide_eq_true c32
                                              clear c32
                                              obtain ⟨ji33, hji33⟩ : ∃ j_ : Int, (mx (rd x5_2 (rd t213 x8_1)) (wrap64 ((rd x5_2 (rd ((rd_T39 l0 (rd t213 x8_1)).f4) x10_2)) + 1))) = j_ := ⟨_, rfl⟩
                                              replace H : (tailracelaw10_CheckParts.l1 k2 l0 (x5_2.set ((rd t213 x8_1) : Int).toNat (ji33)) t213 x8_1 (wrap64 (x10_2 + 1)) ((rd_T39 l0 (rd t213 x8_1)).f0) ((rd_T39 l0 (rd t213 x8_1)).f1) ((rd_T39 l0 (rd t213 x8_1)).f2) ((rd_T39 l0 (rd t213 x8_1)).f3) ((rd_T39 l0 (rd t213 x8_1)).f4)) = some r := by first | (rw [hji33] at H; exact H) | (simp only [hji33] at H ⊢; exact H)
                                              have hji33_ : (if (rd x5_2 (rd t213 x8_1)) < (wrap64 ((rd x5_2 (rd ((rd_T39 l0 (rd t213 x8_1)).f4) x10_2)) + 1)) then (wrap64 ((rd x5_2 (rd ((rd_T39 l0 (rd t213 x8_1)).f4) x10_2)) + 1)) else (rd x5_2 (rd t213 x8_1))) = ji33 := hji33
                                              obtain ⟨y228, hy228⟩ : ∃ y_ : List Int, y_ = (x5_2.set ((rd t213 x8_1) : Int).toNat (ji33)) := ⟨_, rfl⟩
                                              replace H : (tailracelaw10_CheckParts.l1 k2 l0 y228 t213 x8_1 (wrap64 (x10_2 + 1)) ((rd_T39 l0 (rd t213 x8_1)).f0) ((rd_T39 l0 (rd t213 x8_1)).f1) ((rd_T39 l0 (rd t213 x8_1)).f2) ((rd_T39 l0 (rd t213 x8_1)).f3) ((rd_T39 l0 (rd t213 x8_1)).f4)) = some r := by first | (rw [hy228]; with_reducible exact H) | (have H2_ := (Option.bind_some _ _).symm.trans H; rw [hy228]; with_reducible exact H2_) | (have H2_ := (Option.bind_some _ _).symm.trans H; with_reducible exact H2_) | with_reducible exact H | (rw [hy228]; exact H) | exact H
                                              have Ny228 := Aside0.mk hy228
                                              clear hy228
                                              have H' := Aside0.mk H
                                              clear H
                                              have hcz35_0 : wr.cell? ⟨gb220, 0, none⟩ = some (.int .u8 ((rd_T39 l0 (rd t213 x8_1)).f0)) := (blk_cell BK220.out 0).trans rfl
                                              have hcz35_1 : wr.cell? ⟨gb220, 1, none⟩ = some (.int .u8 ((rd_T39 l0 (rd t213 x8_1)).f1)) := (blk_cell BK220.out 1).trans rfl
                                              have hcz35_2 : wr.cell? ⟨gb220, 2, none⟩ = some (.int .i64 ((rd_T39 l0 (rd t213 x8_1)).f2)) := (blk_cell BK220.out 2).trans rfl
                                              have hcz35_3 : wr.cell? ⟨gb220, 3, none⟩ = some (.int .i64 ((rd_T39 l0 (rd t213 x8_1)).f3)) := (blk_cell BK220.out 3).trans rfl
                                              have hcz35_4 : wr.cell? ⟨gb220, 4, none⟩ = some (.slice A219_4 ((rd_T39 l0 (rd t213 x8_1)).f4).length c219_4) := (blk_cell BK220.out 4).trans rfl
                                              have hfz35_0 := blk_frozen BK220.out 0
                                              have hfz35_1 := blk_frozen BK220.out 1
                                              have hfz35_2 := blk_frozen BK220.out 2
                                              have hfz35_3 := blk_frozen BK220.out 3
                                              have hfz35_4 := blk_frozen BK220.out 4
                                              try go_wp2
                                              have n0_ := Aside0.mk (Kd.R_drew HO_5.out)
                                              have n1_ := Aside0.mk (Kd.R_drew HO_6.out)
                                              have n2_ := Aside0.mk (blk_drew BK220.out)
                                              have n3_ := Aside0.mk (below_drew1 HB.out)
                                              clear HO_5
                                              clear HO_6
                                              clear BK220
                                              clear HB
                                              have HO_5 := n0_
                                              have HO_6 := n1_
                                              have BK220 := n2_
                                              have HB := n3_
                                              clear n0_ n1_ n2_ n3_
                                              have p223 : 0 ≤ (x8_1 : Int) := of_decide_eq_true (by first | (with_reducible assumption) | assumption)
                                              have q223 : x8_1 < (t213.length : Int) := of_decide_eq_true (by first | (with_reducible assumption) | assumption)
                                              obtain ⟨ad223, e223, hx223_0⟩ := Kd.at_int (Kd.R_reads' HO_6.out).2.2 x8_1 p223 q223
                                              obtain rfl : ad218 = ad223 := (by injection e223)
                                              replace p223 := eq_true p223
                                              replace q223 := eq_true q223
                                              have p224 : 0 ≤ (x8_1 : Int) := of_decide_eq_true (by first | (with_reducible assumption) | assumption)
                                              have q224 : x8_1 < (t213.length : Int) := of_decide_eq_true (by first | (with_reducible assumption) | assumption)
                                              obtain ⟨ad224, e224, hx224_0⟩ := Kd.at_int (Kd.R_reads' HO_6.out).2.2 x8_1 p224 q224
                                              obtain rfl : ad218 = ad224 := (by injection e224)
                                              replace p224 := eq_true p224
                                              replace q224 := eq_true q224
                                              obtain ⟨Ao37, co37, eo37⟩ := Kd.R_slice HO_5.out
                                              (first | subst eo37 | (injection eo37 with f1_ f2_ f3_; have f4_ := f1_.symm; have f5_ := f3_.symm; clear f1_ f2_ f3_; subst f4_; subst f5_))
                                              have p225 : 0 ≤ ((rd t213 x8_1) : Int) := of_decide_eq_true (by first | (with_reducible assumption) | assumption)
                                              have q225 : (rd t213 x8_1) < (x5_2.length : Int) := of_decide_eq_true (by first | (with_reducible assumption) | assumption)
                                              obtain ⟨ad225, e225, hx225_0⟩ := Kd.at_int (Kd.R_reads' HO_5.out).2.2 (rd t213 x8_1) p225 q225
                                              cases e225
                                              replace p225 := eq_true p225
                                              replace q225 := eq_true q225
                                              have p226 : 0 ≤ (x10_2 : Int) := of_decide_eq_true (by first | (with_reducible assumption) | assumption)
                                              have q226 : x10_2 < (((rd_T39 l0 (rd t213 x8_1)).f4).length : Int) := of_decide_eq_true (by first | (with_reducible assumption) | assumption)
                                              obtain ⟨ad226, e226, hx226_0⟩ := Kd.at_int HR219_4.out x10_2 p226 q226
                                              have hw226_0 := hx226_0
                                              cases e226
                                              replace hx226_0 := (HB.out.cell (World.block_lt_of_cell? w _ hx226_0)).trans hx226_0
                                              replace p226 := eq_true p226
                                              replace q226 := eq_true q226
                                              have p227 : 0 ≤ ((rd ((rd_T39 l0 (rd t213 x8_1)).f4) x10_2) : Int) := of_decide_eq_true (by first | (with_reducible assumption) | assumption)
                                              have q227 : (rd ((rd_T39 l0 (rd t213 x8_1)).f4) x10_2) < (x5_2.length : Int) := of_decide_eq_true (by first | (with_reducible assumption) | assumption)
                                              obtain ⟨ad227, e227, hx227_0⟩ := Kd.at_int (Kd.R_reads' HO_5.out).2.2 (rd ((rd_T39 l0 (rd t213 x8_1)).f4) x10_2) p227 q227
                                              obtain rfl : ad225 = ad227 := (by injection e227)
                                              replace p227 := eq_true p227
                                              replace q227 := eq_true q227
                                              have p34 : 0 ≤ ((rd t213 x8_1) : Int) := of_decide_eq_true (by first | (with_reducible assumption) | assumption)
                                              have q34 : ((rd t213 x8_1) : Int) < ((x5_2.length : Int) : Int) := of_decide_eq_true (by first | (with_reducible assumption) | assumption)
                                              obtain ⟨go34, co34, eo34, gb34, gl34, cl34, HG34⟩ := Kd.R_form HO_5.out (by omega)
                                              (first | cases eo34 | (injection eo34 with ea_ en_ ec_; (first | subst ea_ | (injection ea_ with ea_; subst ea_)); subst ec_; clear en_))
                                              have GB34 := Aside0.mk gb34
                                              have GG34 := Aside0.mk HG34
                                              clear gb34 gl34 HG34
                                              (first | simp only [add_plain] at hx225_0 | skip)
                                              (first | simp only [add_plain] at hx227_0 | skip)
                                              obtain ⟨hx34_0, hf34_0⟩ := Kd.R_celln 0 HO_5.out ((rd t213 x8_1) : Int) p34 q34
                                              replace p34 := eq_true p34
                                              replace q34 := eq_true q34
                                              have HP38 := Kd.R_putn HO_5.out ((rd t213 x8_1) : Int) ji33
                                              rw [← Ny228.out] at HP38
                                              have HQ38 := Aside0.mk HP38
                                              clear HP38
                                              refine start_ (n := 24) (S := fun w' => w'.cell? ⟨gb220, 0, none⟩ = some (.int .u8 ((rd_T39 l0 (rd t213 x8_1)).f0)) ∧ w'.cell? ⟨gb220, 1, none⟩ = some (.int .u8 ((rd_T39 l0 (rd t213 x8_1)).f1)) ∧ w'.cell? ⟨gb220, 2, none⟩ = some (.int .i64 ((rd_T39 l0 (rd t213 x8_1)).f2)) ∧ w'.cell? ⟨gb220, 3, none⟩ = some (.int .i64 ((rd_T39 l0 (rd t213 x8_1)).f3)) ∧ w'.cell? ⟨gb220, 4, none⟩ = some (.slice (some ad226) ((rd_T39 l0 (rd t213 x8_1)).f4).length c219_4) ∧ w'.cell? (ad218.add (x8_1).toNat) = some (.int .i64 (rd t213 x8_1)) ∧ w'.cell? (ad218.add (x8_1).toNat) = some (.int .i64 (rd t213 x8_1)) ∧ w'.cell? ⟨go34, ((rd t213 x8_1)).toNat, none⟩ = some (.int .i64 (rd x5_2 (rd t213 x8_1))) ∧ w'.cell? (ad226.add (x10_2).toNat) = some (.int .i64 (rd ((rd_T39 l0 (rd t213 x8_1)).f4) x10_2)) ∧ w'.cell? ⟨go34, ((rd ((rd_T39 l0 (rd t213 x8_1)).f4) x10_2)).toNat, none⟩ = some (.int .i64 (rd x5_2 (rd ((rd_T39 l0 (rd t213 x8_1)).f4) x10_2)))) (ds := [23]) #[false, false, false, false, false, false, false, false, false, false, false, false, false, false, false, false, false, false, false, false, false, false, false, false] (by kernel_rfl) rfl rfl ⟨(blk_cell BK220.out 0).trans rfl, (blk_cell BK220.out 1).trans rfl, (blk_cell BK220.out 2).trans rfl, (blk_cell BK220.out 3).trans rfl, (blk_cell BK220.out 4).trans rfl, hx223_0, hx224_0, hx225_0, ((HB.out.cell (World.block_lt_of_cell? w _ hw226_0)).trans hw226_0), hx227_0⟩ (fun hHeld => ?_); refine with_tabW tailracelaw10_CheckParts.tab18 tailracelaw10_CheckParts.bits18 (fun HT_ HW_ => ?_)
                                              generalize wr.drew = w36 at HO_5 HO_6 BK220 HB GG34 HQ38 hf34_0 hx223_0 hx224_0 hx225_0 hx226_0 hx227_0 hx34_0 hHeld ⊢
                                              refine pure_ (i := 0) (N := some 61) (v := ?_) (a' := ?_) #[true, false, false, false, false, false, false, false, false, false, false, false, false, false, false, false, false, false, false, false, false, false, false, false] rfl rfl (any_of HT_.out (by kernel_rfl)) (fun _ _ _ h => h) (Or.inl ⟨by rfl, ?_⟩) ?_ ?_
                                              rotate_left
                                              · intro w'
                                                go_simp
                                                with_reducible rfl
                                              rotate_left
                                              · simp only [Act.put, List.setIfInBounds_toArray, List.set_cons_zero, List.set_cons_succ, i64_w, i32_w]
                                                rfl
                                              refine pure_ (i := 1) (N := some 62) (v := ?_) (a' := ?_) #[true, true, false, false, false, false, false, false, false, false, false, false, false, false, false, false, false, false, false, false, false, false, false, false] rfl rfl (any_of HT_.out (by kernel_rfl)) (fun _ _ _ h => h) (Or.inl ⟨by rfl, ?_⟩) ?_ ?_
                                              rotate_left
                                              · intro w'
                                                go_simp
                                                with_reducible rfl
                                              rotate_left
                                              · simp only [Act.put, List.setIfInBounds_toArray, List.set_cons_zero, List.set_cons_succ, i64_w, i32_w]
                                                rfl
                                              refine pure_ (i := 2) (N := some 63) (v := ?_) (a' := ?_) #[true, true, true, false, false, false, false, false, false, false, false, false, false, false, false, false, false, false, false, false, false, false, false, false] rfl rfl (any_of HT_.out (by kernel_rfl)) (fun _ _ _ h => h) (Or.inl ⟨by rfl, ?_⟩) ?_ ?_
                                              rotate_left
                                              · intro w'
                                                go_simp
                                                with_reducible rfl
                                              rotate_left
                                              · simp only [Act.put, List.setIfInBounds_toArray, List.set_cons_zero, List.set_cons_succ, i64_w, i32_w]
                                                rfl
                                              refine pure_ (i := 3) (N := some 64) (v := ?_) (a' := ?_) #[true, true, true, true, false, false, false, false, false, false, false, false, false, false, false, false, false, false, false, false, false, false, false, false] rfl rfl (any_of HT_.out (by kernel_rfl)) (fun _ _ _ h => h) (Or.inl ⟨by rfl, ?_⟩) ?_ ?_
                                              rotate_left
                                              · intro w'
                                                go_simp
                                                with_reducible rfl
                                              rotate_left
                                              · simp only [Act.put, List.setIfInBounds_toArray, List.set_cons_zero, List.set_cons_succ, i64_w, i32_w]
                                                rfl
                                              refine pure_ (i := 5) (N := some 66) (v := ?_) (a' := ?_) #[true, true, true, true, false, true, false, false, false, false, false, false, false, false, false, false, false, false, false, false, false, false, false, false] rfl rfl (any_of HT_.out (by kernel_rfl)) (fun _ _ _ h => h) (Or.inl ⟨by rfl, ?_⟩) ?_ ?_
                                              rotate_left
                                              · intro w'
                                                go_simp
                                                with_reducible rfl
                                              rotate_left
                                              · simp only [Act.put, List.setIfInBounds_toArray, List.set_cons_zero, List.set_cons_succ, i64_w, i32_w]
                                                rfl
                                              refine pure_ (i := 6) (N := some 67) (v := ?_) (a' := ?_) #[true, true, true, true, false, true, true, false, false, false, false, false, false, false, false, false, false, false, false, false, false, false, false, false] rfl rfl (any_of HT_.out (by kernel_rfl)) (fun _ _ _ h => h) (Or.inl ⟨by rfl, ?_⟩) ?_ ?_
                                              rotate_left
                                              · intro w'
                                                go_simp
                                                with_reducible rfl
                                              rotate_left
                                              · simp only [Act.put, List.setIfInBounds_toArray, List.set_cons_zero, List.set_cons_succ, i64_w, i32_w]
                                                rfl
                                              refine pure_ (i := 7) (N := some 68) (v := ?_) (a' := ?_) #[true, true, true, true, false, true, true, true, false, false, false, false, false, false, false, false, false, false, false, false, false, false, false, false] rfl rfl (any_of HT_.out (by kernel_rfl)) (fun _ _ _ h => h) (Or.inl ⟨by rfl, ?_⟩) ?_ ?_
                                              rotate_left
                                              · intro w'
                                                go_simp
                                                with_reducible rfl
                                              rotate_left
                                              · simp only [Act.put, List.setIfInBounds_toArray, List.set_cons_zero, List.set_cons_succ, i64_w, i32_w]
                                                rfl
                                              refine pure_ (i := 8) (N := some 69) (v := ?_) (a' := ?_) #[true, true, true, true, false, true, true, true, true, false, false, false, false, false, false, false, false, false, false, false, false, false, false, false] rfl rfl (any_of HT_.out (by kernel_rfl)) (fun _ _ _ h => h) (Or.inl ⟨by rfl, ?_⟩) ?_ ?_
                                              rotate_left
                                              · intro w'
                                                go_simp
                                                with_reducible rfl
                                              rotate_left
                                              · simp only [Act.put, List.setIfInBounds_toArray, List.set_cons_zero, List.set_cons_succ, i64_w, i32_w]
                                                rfl
                                              refine pure_ (i := 12) (N := some 73) (v := ?_) (a' := ?_) #[true, true, true, true, false, true, true, true, true, false, false, false, true, false, false, false, false, false, false, false, false, false, false, false] rfl rfl (any_of HT_.out (by kernel_rfl)) (fun _ _ _ h => h) (Or.inl ⟨by rfl, ?_⟩) ?_ ?_
                                              rotate_left
                                              · intro w'
                                                go_simp
                                                with_reducible rfl
                                              rotate_left
                                              · simp only [Act.put, List.setIfInBounds_toArray, List.set_cons_zero, List.set_cons_succ, i64_w, i32_w]
                                                rfl
                                              refine pure_ (i := 13) (N := some 74) (v := ?_) (a' := ?_) #[true, true, true, true, false, true, true, true, true, false, false, false, true, true, false, false, false, false, false, false, false, false, false, false] rfl rfl (any_of HT_.out (by kernel_rfl)) (fun _ _ _ h => h) (Or.inl ⟨by rfl, ?_⟩) ?_ ?_
                                              rotate_left
                                              · intro w'
                                                go_simp
                                                with_reducible rfl
                                              rotate_left
                                              · simp only [Act.put, List.setIfInBounds_toArray, List.set_cons_zero, List.set_cons_succ, i64_w, i32_w]
                                                rfl
                                              refine pure_ (i := 15) (N := some 76) (v := ?_) (a' := ?_) #[true, true, true, true, false, true, true, true, true, false, false, false, true, true, false, true, false, false, false, false, false, false, false, false] rfl rfl (any_of HT_.out (by kernel_rfl)) (fun _ _ _ h => h) (Or.inl ⟨by rfl, ?_⟩) ?_ ?_
                                              rotate_left
                                              · intro w'
                                                go_simp
                                                with_reducible rfl
                                              rotate_left
                                              · simp only [Act.put, List.setIfInBounds_toArray, List.set_cons_zero, List.set_cons_succ, i64_w, i32_w]
                                                rfl
                                              refine take_ (i := 4) (N := some 65) (v := ?_) (a' := ?_) #[true, true, true, true, true, true, true, true, true, false, false, false, true, true, false, true, false, false, false, false, false, false, false, false] rfl rfl (take_ofW HT_.out HW_.out (by kernel_rfl)) (fun _ _ _ h => h) (Or.inl ⟨by rfl, ?_⟩) hHeld ?_ ?_
                                              rotate_left
                                              · rintro w' ⟨s0, s1, s2, s3, s4, s5, s6, s7, s8, s9⟩
                                                go_simp
                                                with_reducible rfl
                                              rotate_left
                                              · simp only [Act.put, List.setIfInBounds_toArray, List.set_cons_zero, List.set_cons_succ, i64_w, i32_w]
                                                rfl
                                              refine take_ (i := 9) (N := some 70) (v := ?_) (a' := ?_) #[true, true, true, true, true, true, true, true, true, true, false, false, true, true, false, true, false, false, false, false, false, false, false, false] rfl rfl (take_ofW HT_.out HW_.out (by kernel_rfl)) (fun _ _ _ h => h) (Or.inl ⟨by rfl, ?_⟩) hHeld ?_ ?_
                                              rotate_left
                                              · rintro w' ⟨s0, s1, s2, s3, s4, s5, s6, s7, s8, s9⟩
                                                go_simp
                                                with_reducible rfl
                                              rotate_left
                                              · simp only [Act.put, List.setIfInBounds_toArray, List.set_cons_zero, List.set_cons_succ, i64_w, i32_w]
                                                rfl
                                              refine pure_ (i := 10) (N := some 71) (v := ?_) (a' := ?_) #[true, true, true, true, true, true, true, true, true, true, true, false, true, true, false, true, false, false, false, false, false, false, false, false] rfl rfl (any_of HT_.out (by kernel_rfl)) (fun _ _ _ h => h) (Or.inl ⟨by rfl, ?_⟩) ?_ ?_
                                              rotate_left
                                              · intro w'
                                                go_simp
                                                with_reducible rfl
                                              rotate_left
                                              · simp only [Act.put, List.setIfInBounds_toArray, List.set_cons_zero, List.set_cons_succ, i64_w, i32_w]
                                                rfl
                                              refine take_ (i := 11) (N := some 72) (v := ?_) (a' := ?_) #[true, true, true, true, true, true, true, true, true, true, true, true, true, true, false, true, false, false, false, false, false, false, false, false] rfl rfl (take_ofW HT_.out HW_.out (by kernel_rfl)) (fun _ _ _ h => h) (Or.inl ⟨by rfl, ?_⟩) hHeld ?_ ?_
                                              rotate_left
                                              · rintro w' ⟨s0, s1, s2, s3, s4, s5, s6, s7, s8, s9⟩
                                                go_simp
                                                with_reducible rfl
                                              rotate_left
                                              · simp only [Act.put, List.setIfInBounds_toArray, List.set_cons_zero, List.set_cons_succ, i64_w, i32_w]
                                                rfl
                                              refine take_ (i := 14) (N := some 75) (v := ?_) (a' := ?_) #[true, true, true, true, true, true, true, true, true, true, true, true, true, true, true, true, false, false, false, false, false, false, false, false] rfl rfl (take_ofW HT_.out HW_.out (by kernel_rfl)) (fun _ _ _ h => h) (Or.inl ⟨by rfl, ?_⟩) hHeld ?_ ?_
                                              rotate_left
                                              · rintro w' ⟨s0, s1, s2, s3, s4, s5, s6, s7, s8, s9⟩
                                                go_simp
                                                with_reducible rfl
                                              rotate_left
                                              · simp only [Act.put, List.setIfInBounds_toArray, List.set_cons_zero, List.set_cons_succ, i64_w, i32_w]
                                                rfl
                                              refine pure_ (i := 16) (N := some 77) (v := ?_) (a' := ?_) #[true, true, true, true, true, true, true, true, true, true, true, true, true, true, true, true, true, false, false, false, false, false, false, false] rfl rfl (any_of HT_.out (by kernel_rfl)) (fun _ _ _ h => h) (Or.inl ⟨by rfl, ?_⟩) ?_ ?_
                                              rotate_left
                                              · intro w'
                                                go_simp
                                                with_reducible rfl
                                              rotate_left
                                              · simp only [Act.put, List.setIfInBounds_toArray, List.set_cons_zero, List.set_cons_succ, i64_w, i32_w]
                                                rfl
                                              refine take_ (i := 17) (N := some 78) (v := ?_) (a' := ?_) #[true, true, true, true, true, true, true, true, true, true, true, true, true, true, true, true, true, true, false, false, false, false, false, false] rfl rfl (take_ofW HT_.out HW_.out (by kernel_rfl)) (fun _ _ _ h => h) (Or.inl ⟨by rfl, ?_⟩) hHeld ?_ ?_
                                              rotate_left
                                              · rintro w' ⟨s0, s1, s2, s3, s4, s5, s6, s7, s8, s9⟩
                                                go_simp
                                                with_reducible rfl
                                              rotate_left
                                              · simp only [Act.put, List.setIfInBounds_toArray, List.set_cons_zero, List.set_cons_succ, i64_w, i32_w]
                                                rfl
                                              refine pure_ (i := 18) (N := some 79) (v := ?_) (a' := ?_) #[true, true, true, true, true, true, true, true, true, true, true, true, true, true, true, true, true, true, true, false, false, false, false, false] rfl rfl (any_of HT_.out (by kernel_rfl)) (fun _ _ _ h => h) (Or.inl ⟨by rfl, ?_⟩) ?_ ?_
                                              rotate_left
                                              · intro w'
                                                go_simp
                                                with_reducible rfl
                                              rotate_left
                                              · simp only [Act.put, List.setIfInBounds_toArray, List.set_cons_zero, List.set_cons_succ, i64_w, i32_w]
                                                rfl
                                              refine take_ (i := 19) (N := some 80) (v := ?_) (a' := ?_) #[true, true, true, true, true, true, true, true, true, true, true, true, true, true, true, true, true, true, true, true, false, false, false, false] rfl rfl (take_ofW HT_.out HW_.out (by kernel_rfl)) (fun _ _ _ h => h) (Or.inl ⟨by rfl, ?_⟩) hHeld ?_ ?_
                                              rotate_left
                                              · rintro w' ⟨s0, s1, s2, s3, s4, s5, s6, s7, s8, s9⟩
                                                go_simp
                                                with_reducible rfl
                                              rotate_left
                                              · simp only [Act.put, List.setIfInBounds_toArray, List.set_cons_zero, List.set_cons_succ, i64_w, i32_w]
                                                rfl
                                              refine pure_ (i := 20) (N := some 81) (v := ?_) (a' := ?_) #[true, true, true, true, true, true, true, true, true, true, true, true, true, true, true, true, true, true, true, true, true, false, false, false] rfl rfl (any_of HT_.out (by kernel_rfl)) (fun _ _ _ h => h) (Or.inl ⟨by rfl, ?_⟩) ?_ ?_
                                              rotate_left
                                              · intro w'
                                                go_simp
                                                with_reducible rfl
                                              rotate_left
                                              · simp only [Act.put, List.setIfInBounds_toArray, List.set_cons_zero, List.set_cons_succ, i64_w, i32_w]
                                                rfl
                                              refine pure_ (i := 21) (N := some 82) (v := ?_) (a' := ?_) #[true, true, true, true, true, true, true, true, true, true, true, true, true, true, true, true, true, true, true, true, true, true, false, false] rfl rfl (any_of HT_.out (by kernel_rfl)) (fun _ _ _ h => h) (Or.inl ⟨by rfl, ?_⟩) ?_ ?_
                                              rotate_left
                                              · intro w'
                                                go_simp
                                                with_reducible rfl
                                              rotate_left
                                              · simp only [Act.put, List.setIfInBounds_toArray, List.set_cons_zero, List.set_cons_succ, i64_w, i32_w]
                                                rfl
                                              refine pure_ (i := 22) (N := some 83) (v := ?_) (a' := ?_) #[true, true, true, true, true, true, true, true, true, true, true, true, true, true, true, true, true, true, true, true, true, true, true, false] rfl rfl (any_of HT_.out (by kernel_rfl)) (fun _ _ _ h => h) (Or.inl ⟨by rfl, ?_⟩) ?_ ?_
                                              rotate_left
                                              · intro w'
                                                go_simp
                                                with_reducible rfl
                                              rotate_left
                                              · simp only [Act.put, List.setIfInBounds_toArray, List.set_cons_zero, List.set_cons_succ, i64_w, i32_w]
                                                rfl
                                              refine last_ (i := 23) (N := none) #[true, true, true, true, true, true, true, true, true, true, true, true, true, true, true, true, true, true, true, true, true, true, true, true] rfl rfl (one_of HT_.out (by kernel_rfl)) (by decide) (fun K hK => ?_)
                                              refine skip_ (w1 := ?_) (by rfl) rfl ?_ ?_
                                              rotate_left
                                              · go_simp
                                                rfl
                                              refine hK.out _ _ ?_
                                              clear hK K
                                              refine done_ (done_of HT_.out (by kernel_rfl)) ?_
                                              try go_wp2
                                              go_roundg k2
                                              case measure => have := HK1.out; have := HK2.out; omega
                                              case rel => exact ⟨(y228), (wrap64 (x10_2 + 1)), (by first | rfl | (simp; done) | (simp [*]; done)), H', ⟨by have := HK1.out; have := HK2.out; omega⟩, ⟨by (with_reducible repeat (first | apply Kd.R_alloc | apply Kd.R_drewN | apply Kd.R_drew)); exact HQ38.out⟩, ⟨by (with_reducible repeat (first | apply Kd.R_alloc | apply Kd.R_drewN | apply Kd.R_drew)); exact Kd.R_mono (Kd.R_far (p := ⟨go34, ((rd t213 x8_1) : Int).toNat, none⟩) (Kd.R_mono HO_6.out (fun k_ hk => (⟨hk, fun e_ => hk (by rw [e_]; rfl)⟩ : _ ∧ k_ ≠ go34))) (fun _ hk => hk.2) (.int .i64 ji33)) (fun _ hk => hk.1)⟩, ⟨by (with_reducible repeat (first | refine blk_drewN ?_ _ | refine blk_drew ?_ | refine blk_alloc ?_ _)); refine blk_far ?_ (by have h_ := Kd.R_ne HO_5.out BK220.out (by decide); intro e_; exact h_ (by rw [e_]; rfl)) _; (with_reducible repeat (first | refine blk_drewN ?_ _ | refine blk_drew ?_ | refine blk_alloc ?_ _)); exact BK220.out⟩, ⟨by repeat (first | (with_reducible first | exact HB.out | apply below_alloc | apply pw_below_drewN | apply below_drew1 | refine below_set ?_ GB34.out | refine below_set ?_ GE220.out) | exact HB.out)⟩⟩
                                            · rw [if_neg c32] at H
                                              exact absurd H (by simp)
                                          · rw [if_neg c31] at H
                                            exact absurd H (by simp)
                                        · rw [if_neg c30] at H
                                          exact absurd H (by simp)
                                      · rw [if_neg c29] at H
                                        exact absurd H (by simp)
                                    · rw [if_neg c28] at H
                                      exact absurd H (by simp)
                                  · rw [if_neg c27] at H
                                    exact absurd H (by simp)
                                · rw [if_neg c26] at H
                                  exact absurd H (by simp)
                            · rw [if_neg c23] at H
                              have c23b0 : decide (x10_2 < (((rd_T39 l0 (rd t213 x8_1)).f4).length : Int)) = false := decide_eq_false c23
                              clear c23
                              by_cases c39 : 0 ≤ x8_1
                              · rw [if_pos c39] at H
                                have c39b0 : decide (0 ≤ x8_1) = true := decide_eq_true c39
                                clear c39
                                by_cases c40 : x8_1 < (t213.length : Int)
                                · rw [if_pos c40] at H
                                  have c40b0 : decide (x8_1 < (t213.length : Int)) = true := decide_eq_true c40
                                  clear c40
                                  by_cases c41 : 0 ≤ (rd t213 x8_1)
                                  · rw [if_pos c41] at H
                                    have c41b0 : decide (0 ≤ (rd t213 x8_1)) = true := decide_eq_true c41
                                    clear c41
                                    by_cases c42 : (rd t213 x8_1) < (x5_2.length : Int)
                                    · rw [if_pos c42] at H
                                      have c42b0 : decide ((rd t213 x8_1) < (x5_2.length : Int)) = true := decide_eq_true c42
                                      clear c42
                                      by_cases c43 : (rd x5_2 (rd t213 x8_1)) > x8_1
                                      · rw [if_pos c43] at H
                                        have c43b0 : decide (x8_1 < (rd x5_2 (rd t213 x8_1))) = true := decide_eq_true c43
                                        clear c43
                                        obtain rfl := Option.some.inj H
                                        have hcz44_0 : wr.cell? ⟨gb220, 0, none⟩ = some (.int .u8 ((rd_T39 l0 (rd t213 x8_1)).f0)) := (blk_cell BK220.out 0).trans rfl
                                        have hcz44_1 : wr.cell? ⟨gb220, 1, none⟩ = some (.int .u8 ((rd_T39 l0 (rd t213 x8_1)).f1)) := (blk_cell BK220.out 1).trans rfl
                                        have hcz44_2 : wr.cell? ⟨gb220, 2, none⟩ = some (.int .i64 ((rd_T39 l0 (rd t213 x8_1)).f2)) := (blk_cell BK220.out 2).trans rfl
                                        have hcz44_3 : wr.cell? ⟨gb220, 3, none⟩ = some (.int .i64 ((rd_T39 l0 (rd t213 x8_1)).f3)) := (blk_cell BK220.out 3).trans rfl
                                        have hcz44_4 : wr.cell? ⟨gb220, 4, none⟩ = some (.slice A219_4 ((rd_T39 l0 (rd t213 x8_1)).f4).length c219_4) := (blk_cell BK220.out 4).trans rfl
                                        have hfz44_0 := blk_frozen BK220.out 0
                                        have hfz44_1 := blk_frozen BK220.out 1
                                        have hfz44_2 := blk_frozen BK220.out 2
                                        have hfz44_3 := blk_frozen BK220.out 3
                                        have hfz44_4 := blk_frozen BK220.out 4
                                        have p229 : 0 ≤ (x8_1 : Int) := of_decide_eq_true (by first | (with_reducible assumption) | assumption)
                                        have q229 : x8_1 < (t213.length : Int) := of_decide_eq_true (by first | (with_reducible assumption) | assumption)
                                        obtain ⟨ad229, e229, hx229_0⟩ := Kd.at_int (Kd.R_reads' HO_6.out).2.2 x8_1 p229 q229
                                        obtain rfl : ad218 = ad229 := (by injection e229)
                                        replace p229 := eq_true p229
                                        replace q229 := eq_true q229
                                        obtain ⟨Ao45, co45, eo45⟩ := Kd.R_slice HO_5.out
                                        subst eo45
                                        have p230 : 0 ≤ ((rd t213 x8_1) : Int) := of_decide_eq_true (by first | (with_reducible assumption) | assumption)
                                        have q230 : (rd t213 x8_1) < (x5_2.length : Int) := of_decide_eq_true (by first | (with_reducible assumption) | assumption)
                                        obtain ⟨ad230, e230, hx230_0⟩ := Kd.at_int (Kd.R_reads' HO_5.out).2.2 (rd t213 x8_1) p230 q230
                                        cases e230
                                        replace p230 := eq_true p230
                                        replace q230 := eq_true q230
                                        go_wp2
                                        go_ret
                                        exact ⟨by first | rfl | (simp [errW_none, errW_some] <;> rfl) | (simp [*, errW_none, errW_some] <;> rfl), by repeat (first | (with_reducible first | exact HB.out | apply below_alloc | apply pw_below_drewN | apply below_drew1 | refine below_set ?_ GE220.out) | exact HB.out)⟩
                                      · rw [if_neg c43] at H
                                        have c43b0 : decide (x8_1 < (rd x5_2 (rd t213 x8_1))) = false := decide_eq_false c43
                                        clear c43
                                        have H' := Aside0.mk H
                                        clear H
                                        have hcz46_0 : wr.cell? ⟨gb220, 0, none⟩ = some (.int .u8 ((rd_T39 l0 (rd t213 x8_1)).f0)) := (blk_cell BK220.out 0).trans rfl
                                        have hcz46_1 : wr.cell? ⟨gb220, 1, none⟩ = some (.int .u8 ((rd_T39 l0 (rd t213 x8_1)).f1)) := (blk_cell BK220.out 1).trans rfl
                                        have hcz46_2 : wr.cell? ⟨gb220, 2, none⟩ = some (.int .i64 ((rd_T39 l0 (rd t213 x8_1)).f2)) := (blk_cell BK220.out 2).trans rfl
                                        have hcz46_3 : wr.cell? ⟨gb220, 3, none⟩ = some (.int .i64 ((rd_T39 l0 (rd t213 x8_1)).f3)) := (blk_cell BK220.out 3).trans rfl
                                        have hcz46_4 : wr.cell? ⟨gb220, 4, none⟩ = some (.slice A219_4 ((rd_T39 l0 (rd t213 x8_1)).f4).length c219_4) := (blk_cell BK220.out 4).trans rfl
                                        have hfz46_0 := blk_frozen BK220.out 0
                                        have hfz46_1 := blk_frozen BK220.out 1
                                        have hfz46_2 := blk_frozen BK220.out 2
                                        have hfz46_3 := blk_frozen BK220.out 3
                                        have hfz46_4 := blk_frozen BK220.out 4
                                        have p229 : 0 ≤ (x8_1 : Int) := of_decide_eq_true (by first | (with_reducible assumption) | assumption)
                                        have q229 : x8_1 < (t213.length : Int) := of_decide_eq_true (by first | (with_reducible assumption) | assumption)
                                        obtain ⟨ad229, e229, hx229_0⟩ := Kd.at_int (Kd.R_reads' HO_6.out).2.2 x8_1 p229 q229
                                        obtain rfl : ad218 = ad229 := (by injection e229)
                                        replace p229 := eq_true p229
                                        replace q229 := eq_true q229
                                        obtain ⟨Ao47, co47, eo47⟩ := Kd.R_slice HO_5.out
                                        subst eo47
                                        have p230 : 0 ≤ ((rd t213 x8_1) : Int) := of_decide_eq_true (by first | (with_reducible assumption) | assumption)
                                        have q230 : (rd t213 x8_1) < (x5_2.length : Int) := of_decide_eq_true (by first | (with_reducible assumption) | assumption)
                                        obtain ⟨ad230, e230, hx230_0⟩ := Kd.at_int (Kd.R_reads' HO_5.out).2.2 (rd t213 x8_1) p230 q230
                                        cases e230
                                        replace p230 := eq_true p230
                                        replace q230 := eq_true q230
                                        go_wp2
                                        go_roundg k2
                                        case measure => have := HK1.out; have := HK2.out; omega
                                        case rel => exact ⟨(x5_2), (wrap64 (x8_1 + 1)), (by first | rfl | (simp; done) | (simp [*]; done)), H', ⟨by have := HK1.out; have := HK2.out; omega⟩, ⟨by (with_reducible repeat (first | apply Kd.R_alloc | apply Kd.R_drewN | apply Kd.R_drew)); exact HO_5.out⟩, ⟨by (with_reducible repeat (first | apply Kd.R_alloc | apply Kd.R_drewN | apply Kd.R_drew)); exact HO_6.out⟩, ⟨by repeat (first | (with_reducible first | exact HB.out | apply below_alloc | apply pw_below_drewN | apply below_drew1 | refine below_set ?_ GE220.out) | exact HB.out)⟩⟩
                                    · rw [if_neg c42] at H
                                      exact absurd H (by simp)
                                  · rw [if_neg c41] at H
                                    exact absurd H (by simp)
                                · rw [if_neg c40] at H
                                  exact absurd H (by simp)
                              · rw [if_neg c39] at H
                                exact absurd H (by simp)
                      · rw [if_neg c18] at H
                        have c18b0 : (t222 == 0) = false := beq_eq_false_iff_ne.mpr c18
                        have c18b1 : (t222 != 0) = true := bne_iff_ne.mpr c18
                        obtain rfl := Option.some.inj H
                        obtain ⟨Ao48, co48, eo48⟩ := Kd.R_slice HO_6.out
                        subst eo48
                        have p218 : 0 ≤ (x8_1 : Int) := of_decide_eq_true (by first | (with_reducible assumption) | assumption)
                        have q218 : x8_1 < (t213.length : Int) := of_decide_eq_true (by first | (with_reducible assumption) | assumption)
                        obtain ⟨ad218, e218, hx218_0⟩ := Kd.at_int (Kd.R_reads' HO_6.out).2.2 x8_1 p218 q218
                        cases e218
                        replace p218 := eq_true p218
                        replace q218 := eq_true q218
                        have p219 : 0 ≤ ((rd t213 x8_1) : Int) := of_decide_eq_true (by first | (with_reducible assumption) | assumption)
                        have q219 : (rd t213 x8_1) < (l0.length : Int) := of_decide_eq_true (by first | (with_reducible assumption) | assumption)
                        obtain ⟨ad219, A219_4, c219_4, e219, hx219_0, hx219_1, hx219_2, hx219_3, hx219_4, hl219_4, hi219_4⟩ := at_T39 HR0.out (rd t213 x8_1) p219 q219
                        cases e219
                        replace hx219_0 := (HB.out.cell (World.block_lt_of_cell? w _ hx219_0)).trans hx219_0
                        replace hx219_1 := (HB.out.cell (World.block_lt_of_cell? w _ hx219_1)).trans hx219_1
                        replace hx219_2 := (HB.out.cell (World.block_lt_of_cell? w _ hx219_2)).trans hx219_2
                        replace hx219_3 := (HB.out.cell (World.block_lt_of_cell? w _ hx219_3)).trans hx219_3
                        replace hx219_4 := (HB.out.cell (World.block_lt_of_cell? w _ hx219_4)).trans hx219_4
                        have HR219_4 := Aside0.mk hi219_4
                        have HC219_4 := Aside0.mk hl219_4
                        clear hi219_4 hl219_4
                        replace p219 := eq_true p219
                        replace q219 := eq_true q219
                        go_wp2_with (first | ((with_reducible refine gate_dst (N := 9) rfl ?_); refine box_event ?hg (N := 9) ?hd (cs := #[.int .u8 0, .int .u8 0, .int .i64 0, .int .i64 0, .slice none 0 0]) (t := 39) ?hr ?_; (case hd => rfl); (case hg => rfl); (case hr => first | (go_simp; done) | (go_simp; rfl)); intro gb220 hg w49 hbox hb; have n0_ := Aside0.mk (Kd.R_below (by (with_reducible repeat (first | apply Kd.R_alloc | apply Kd.R_drewN | apply Kd.R_drew)); exact HO_5.out) hb); have n1_ := Aside0.mk (Kd.R_below (by (with_reducible repeat (first | apply Kd.R_alloc | apply Kd.R_drewN | apply Kd.R_drew)); exact HO_6.out) hb); have n2_ := Aside0.mk (below_step (by repeat (first | (with_reducible first | exact HB.out | apply below_alloc | apply pw_below_drewN | apply below_drew1) | exact HB.out)) hb); have n3_ := Aside0.mk (hbox); have n4_ := Aside0.mk ((by rw [hg]; exact (below_size (by repeat (first | (with_reducible first | exact HB.out | apply below_alloc | apply pw_below_drewN | apply below_drew1) | exact HB.out))) : w.heap.size ≤ gb220)); have n5_ := Aside0.mk ((by rw [hg]; exact (below_size (by repeat (first | (with_reducible first | exact HB.out | apply below_alloc | apply pw_below_drewN | apply below_drew1) | exact HB.out))) : w.heap.size ≤ gb220)); clear HO_5; clear HO_6; clear HB; have HO_5 := n0_; have HO_6 := n1_; have HB := n2_; have BK220 := n3_; have GW220 := n4_; have GE220 := n5_; clear n0_ n1_ n2_ n3_ n4_ n5_; clear hb hbox hg; have hcz50_0 : w49.cell? ⟨gb220, 0, none⟩ = some (.int .u8 0) := (blk_cell BK220.out 0).trans rfl; have hcz50_1 : w49.cell? ⟨gb220, 1, none⟩ = some (.int .u8 0) := (blk_cell BK220.out 1).trans rfl; have hcz50_2 : w49.cell? ⟨gb220, 2, none⟩ = some (.int .i64 0) := (blk_cell BK220.out 2).trans rfl; have hcz50_3 : w49.cell? ⟨gb220, 3, none⟩ = some (.int .i64 0) := (blk_cell BK220.out 3).trans rfl; have hcz50_4 : w49.cell? ⟨gb220, 4, none⟩ = some (.slice none 0 0) := (blk_cell BK220.out 4).trans rfl; have hfz50_0 := blk_frozen BK220.out 0; have hfz50_1 := blk_frozen BK220.out 1; have hfz50_2 := blk_frozen BK220.out 2; have hfz50_3 := blk_frozen BK220.out 3; have hfz50_4 := blk_frozen BK220.out 4; have p221 : 0 ≤ (x8_1 : Int) := of_decide_eq_true (by first | (with_reducible assumption) | assumption); have q221 : x8_1 < (t213.length : Int) := of_decide_eq_true (by first | (with_reducible assumption) | assumption); obtain ⟨ad221, e221, hx221_0⟩ := Kd.at_int (Kd.R_reads' HO_6.out).2.2 x8_1 p221 q221; obtain rfl : ad218 = ad221 := (by injection e221); have hn221_0 : ad218.block ≠ gb220 := Kd.own_blk (Kd.R_ne HO_6.out BK220.out (by decide)); have hn221_1 : ad218.block ≠ gb220 := Kd.own_blk (Kd.R_ne HO_6.out BK220.out (by decide)); have hn221_2 : ad218.block ≠ gb220 := Kd.own_blk (Kd.R_ne HO_6.out BK220.out (by decide)); have hn221_3 : ad218.block ≠ gb220 := Kd.own_blk (Kd.R_ne HO_6.out BK220.out (by decide)); have hn221_4 : ad218.block ≠ gb220 := Kd.own_blk (Kd.R_ne HO_6.out BK220.out (by decide)); replace hx221_0 := (cell_far (p := ⟨gb220, 0, none⟩) (by first | (rw [add_block]; exact hn221_0) | (show (Addr.add _ _).block ≠ _; rw [add_block]; exact hn221_0) | exact hn221_0) (.int .u8 ((rd_T39 l0 (rd t213 x8_1)).f0))).trans hx221_0; replace hx221_0 := (cell_far (p := ⟨gb220, 1, none⟩) (by first | (rw [add_block]; exact hn221_1) | (show (Addr.add _ _).block ≠ _; rw [add_block]; exact hn221_1) | exact hn221_1) (.int .u8 ((rd_T39 l0 (rd t213 x8_1)).f1))).trans hx221_0; replace hx221_0 := (cell_far (p := ⟨gb220, 2, none⟩) (by first | (rw [add_block]; exact hn221_2) | (show (Addr.add _ _).block ≠ _; rw [add_block]; exact hn221_2) | exact hn221_2) (.int .i64 ((rd_T39 l0 (rd t213 x8_1)).f2))).trans hx221_0; replace hx221_0 := (cell_far (p := ⟨gb220, 3, none⟩) (by first | (rw [add_block]; exact hn221_3) | (show (Addr.add _ _).block ≠ _; rw [add_block]; exact hn221_3) | exact hn221_3) (.int .i64 ((rd_T39 l0 (rd t213 x8_1)).f3))).trans hx221_0; replace hx221_0 := (cell_far (p := ⟨gb220, 4, none⟩) (by first | (rw [add_block]; exact hn221_4) | (show (Addr.add _ _).block ≠ _; rw [add_block]; exact hn221_4) | exact hn221_4) (.slice A219_4 ((rd_T39 l0 (rd t213 x8_1)).f4).length c219_4)).trans hx221_0; clear hn221_0; clear hn221_1; clear hn221_2; clear hn221_3; clear hn221_4; replace p221 := eq_true p221; replace q221 := eq_true q221) | ((with_reducible refine gate_callee (f := 12) rfl ?_); refine goesL_ (some 49) rfl rfl Try.func12 (by kernel_rfl) rfl #[.slice (some ad219) l0.length c0, .int .i64 (rd t213 x8_1)] rfl (by (try simp only [List.map_toArray, List.map_cons, List.map_nil]); first | done | rfl | (simp only [List.length_drop, List.length_take]; rfl)) ?_; (with_reducible refine (check_Node.calls k1 _ _ l0 (rd t213 x8_1) t222 _ ?side1 ?side2 A17.out).mono ?_); (case side1 => exact Kd.C_below HR0.out (by repeat (first | (with_reducible first | exact HB.out | apply below_alloc | apply pw_below_drewN | apply below_drew1 | refine below_set ?_ GE220.out) | exact HB.out))); (case side2 => exact HC0.out); rintro e w51 ⟨rfl, hb⟩; refine ⟨_, rfl, ?_⟩; have n0_ := Aside0.mk (Kd.R_below (by (with_reducible repeat (first | apply Kd.R_alloc | apply Kd.R_drewN | apply Kd.R_drew)); exact (Kd.R_mono (Kd.R_far (p := ⟨gb220, 4, none⟩) (Kd.R_far (p := ⟨gb220, 3, none⟩) (Kd.R_far (p := ⟨gb220, 2, none⟩) (Kd.R_far (p := ⟨gb220, 1, none⟩) (Kd.R_far (p := ⟨gb220, 0, none⟩) (Kd.R_types HO_5.out BK220.out (by decide)) (fun _ hk => hk.2) (.int .u8 ((rd_T39 l0 (rd t213 x8_1)).f0))) (fun _ hk => hk.2) (.int .u8 ((rd_T39 l0 (rd t213 x8_1)).f1))) (fun _ hk => hk.2) (.int .i64 ((rd_T39 l0 (rd t213 x8_1)).f2))) (fun _ hk => hk.2) (.int .i64 ((rd_T39 l0 (rd t213 x8_1)).f3))) (fun _ hk => hk.2) (.slice A219_4 ((rd_T39 l0 (rd t213 x8_1)).f4).length c219_4)) (fun _ h_ => h_.1))) hb); have n1_ := Aside0.mk (Kd.R_below (by (with_reducible repeat (first | apply Kd.R_alloc | apply Kd.R_drewN | apply Kd.R_drew)); exact (Kd.R_mono (Kd.R_far (p := ⟨gb220, 4, none⟩) (Kd.R_far (p := ⟨gb220, 3, none⟩) (Kd.R_far (p := ⟨gb220, 2, none⟩) (Kd.R_far (p := ⟨gb220, 1, none⟩) (Kd.R_far (p := ⟨gb220, 0, none⟩) (Kd.R_types HO_6.out BK220.out (by decide)) (fun _ hk => hk.2) (.int .u8 ((rd_T39 l0 (rd t213 x8_1)).f0))) (fun _ hk => hk.2) (.int .u8 ((rd_T39 l0 (rd t213 x8_1)).f1))) (fun _ hk => hk.2) (.int .i64 ((rd_T39 l0 (rd t213 x8_1)).f2))) (fun _ hk => hk.2) (.int .i64 ((rd_T39 l0 (rd t213 x8_1)).f3))) (fun _ hk => hk.2) (.slice A219_4 ((rd_T39 l0 (rd t213 x8_1)).f4).length c219_4)) (fun _ h_ => h_.1))) hb); have n2_ := Aside0.mk (blk_below (g := gb220) (o := .cells #[.int .u8 ((rd_T39 l0 (rd t213 x8_1)).f0), .int .u8 ((rd_T39 l0 (rd t213 x8_1)).f1), .int .i64 ((rd_T39 l0 (rd t213 x8_1)).f2), .int .i64 ((rd_T39 l0 (rd t213 x8_1)).f3), .slice A219_4 ((rd_T39 l0 (rd t213 x8_1)).f4).length c219_4] 39 (0, 0)) (by (with_reducible repeat (first | refine blk_drewN ?_ _ | refine blk_drew ?_ | refine blk_alloc ?_ _)); refine blk_put (cs := #[.int .u8 ((rd_T39 l0 (rd t213 x8_1)).f0), .int .u8 ((rd_T39 l0 (rd t213 x8_1)).f1), .int .i64 ((rd_T39 l0 (rd t213 x8_1)).f2), .int .i64 ((rd_T39 l0 (rd t213 x8_1)).f3), .slice none 0 0]) ?_ 4 _ rfl; (with_reducible repeat (first | refine blk_drewN ?_ _ | refine blk_drew ?_ | refine blk_alloc ?_ _)); refine blk_put (cs := #[.int .u8 ((rd_T39 l0 (rd t213 x8_1)).f0), .int .u8 ((rd_T39 l0 (rd t213 x8_1)).f1), .int .i64 ((rd_T39 l0 (rd t213 x8_1)).f2), .int .i64 0, .slice none 0 0]) ?_ 3 _ rfl; (with_reducible repeat (first | refine blk_drewN ?_ _ | refine blk_drew ?_ | refine blk_alloc ?_ _)); refine blk_put (cs := #[.int .u8 ((rd_T39 l0 (rd t213 x8_1)).f0), .int .u8 ((rd_T39 l0 (rd t213 x8_1)).f1), .int .i64 0, .int .i64 0, .slice none 0 0]) ?_ 2 _ rfl; (with_reducible repeat (first | refine blk_drewN ?_ _ | refine blk_drew ?_ | refine blk_alloc ?_ _)); refine blk_put (cs := #[.int .u8 ((rd_T39 l0 (rd t213 x8_1)).f0), .int .u8 0, .int .i64 0, .int .i64 0, .slice none 0 0]) ?_ 1 _ rfl; (with_reducible repeat (first | refine blk_drewN ?_ _ | refine blk_drew ?_ | refine blk_alloc ?_ _)); refine blk_put (cs := #[.int .u8 0, .int .u8 0, .int .i64 0, .int .i64 0, .slice none 0 0]) ?_ 0 _ rfl; (with_reducible repeat (first | refine blk_drewN ?_ _ | refine blk_drew ?_ | refine blk_alloc ?_ _)); exact BK220.out) hb); have n3_ := Aside0.mk (below_step (by repeat (first | (with_reducible first | exact HB.out | apply below_alloc | apply pw_below_drewN | apply below_drew1 | refine below_set ?_ GE220.out) | exact HB.out)) hb); clear HO_5; clear HO_6; clear BK220; clear HB; have HO_5 := n0_; have HO_6 := n1_; have BK220 := n2_; have HB := n3_; clear n0_ n1_ n2_ n3_; (try clear hb); (try clear hb2); (try clear hk); (try clear hi)))
                        go_ret
                        exact ⟨by first | rfl | (simp [errW_none, errW_some] <;> rfl) | (simp [*, errW_none, errW_some] <;> rfl), by repeat (first | (with_reducible first | exact HB.out | apply below_alloc | apply pw_below_drewN | apply below_drew1 | refine below_set ?_ GE220.out) | exact HB.out)⟩
                    · rw [if_neg c16] at H
                      exact absurd H (by simp)
                  · rw [if_neg c15] at H
                    exact absurd H (by simp)
                · rw [if_neg c14] at H
                  exact absurd H (by simp)
              · rw [if_neg c13] at H
                have c13b0 : decide (x8_1 < (t213.length : Int)) = false := decide_eq_false c13
                clear c13
                replace H := Option.bind_eq_some_iff.mp H
                obtain ⟨t217, A520, H⟩ := H
                replace H : (some t217) = some r := H
                have A52 := Aside0.mk A520
                clear A520
                obtain rfl := Option.some.inj H
                obtain ⟨Ao53, co53, eo53⟩ := Kd.R_slice HO_6.out
                subst eo53
                go_wp2_with (first | ((with_reducible refine gate_callee (f := 10) rfl ?_); refine goesL_ (some 93) rfl rfl Try.func10 (by kernel_rfl) rfl #[] rfl (by (try simp only [List.map_toArray, List.map_cons, List.map_nil]); first | done | rfl | (simp only [List.length_drop, List.length_take]; rfl)) ?_; (with_reducible refine (tailracelaw10_works.calls  t217 _ A52.out).mono ?_); rintro e w54 ⟨rfl, hb⟩; refine ⟨_, rfl, ?_⟩; have n0_ := Aside0.mk (Kd.R_below (by (with_reducible repeat (first | apply Kd.R_alloc | apply Kd.R_drewN | apply Kd.R_drew)); exact HO_5.out) hb); have n1_ := Aside0.mk (Kd.R_below (by (with_reducible repeat (first | apply Kd.R_alloc | apply Kd.R_drewN | apply Kd.R_drew)); exact HO_6.out) hb); have n2_ := Aside0.mk (below_step (by repeat (first | (with_reducible first | exact HB.out | apply below_alloc | apply pw_below_drewN | apply below_drew1) | exact HB.out)) hb); clear HO_5; clear HO_6; clear HB; have HO_5 := n0_; have HO_6 := n1_; have HB := n2_; clear n0_ n1_ n2_; (try clear hb); (try clear hb2); (try clear hk); (try clear hi)))
                go_ret
                exact ⟨by first | rfl | (simp [errW_none, errW_some] <;> rfl) | (simp [*, errW_none, errW_some] <;> rfl), by repeat (first | (with_reducible first | exact HB.out | apply below_alloc | apply pw_below_drewN | apply below_drew1) | exact HB.out)⟩
        · rw [if_neg c7] at H
          exact absurd H (by simp)
      · rw [if_neg c6] at H
        exact absurd H (by simp)
    · rw [if_neg c5] at H
      have c5b0 : (t208 == 0) = false := beq_eq_false_iff_ne.mpr c5
      have c5b1 : (t208 != 0) = true := bne_iff_ne.mpr c5
      replace H := Option.bind_eq_some_iff.mp H
      obtain ⟨t209, A550, H⟩ := H
      replace H : (some t209) = some r := H
      have A55 := Aside0.mk A550
      clear A550
      obtain rfl := Option.some.inj H
      go_enter Try.func7, Try.ntmps7
      go_wp2_with (first | ((with_reducible refine gate_callee (f := 9) rfl ?_); refine goesL_ (some 12) rfl rfl Try.func9 (by kernel_rfl) rfl #[.slice A0 l0.length c0, .int .i64 30] rfl (by (try simp only [List.map_toArray, List.map_cons, List.map_nil]); first | done | rfl | (simp only [List.length_drop, List.length_take]; rfl)) ?_; (with_reducible refine (tailracekit_Ins.calls k _ _ l0 30 true _ ?side1 ?side2 A2.out).mono ?_); (case side1 => repeat (first | exact HR0.out | (with_reducible refine Kd.C_alloc ?_ _) | (with_reducible refine Kd.C_drewN ?_ _) | (with_reducible refine Kd.C_drew ?_))); (case side2 => exact HC0.out); rintro e w' ⟨rfl, ⟨nd, rfl⟩⟩; refine ⟨_, rfl, ?_⟩) | ((with_reducible refine gate_callee (f := 15) rfl ?_); refine goesL_ (some 17) rfl rfl Try.func15 (by kernel_rfl) rfl #[.slice A0 l0.length c0] rfl (by (try simp only [List.map_toArray, List.map_cons, List.map_nil]); first | done | rfl | (simp only [List.length_drop, List.length_take]; rfl)) ?_; (with_reducible refine (check_Check.calls k _ _ l0 t207 t208 _ ?side1 ?side2 A4.out).mono ?_); (case side1 => repeat (first | exact HR0.out | (with_reducible refine Kd.C_alloc ?_ _) | (with_reducible refine Kd.C_drewN ?_ _) | (with_reducible refine Kd.C_drew ?_))); (case side2 => exact HC0.out); rintro e w56 ⟨rfl, hb⟩; refine ⟨_, rfl, ?_⟩; have n0_ := Aside0.mk (below_step (by repeat (first | (with_reducible first | exact HB.out | apply below_alloc | apply pw_below_drewN | apply below_drew1) | exact HB.out)) hb); clear HB; have HB := n0_; clear n0_; (try clear hb); (try clear hb2); (try clear hk); (try clear hi)) | ((with_reducible refine gate_callee (f := 10) rfl ?_); refine goesL_ (some 22) rfl rfl Try.func10 (by kernel_rfl) rfl #[] rfl (by (try simp only [List.map_toArray, List.map_cons, List.map_nil]); first | done | rfl | (simp only [List.length_drop, List.length_take]; rfl)) ?_; (with_reducible refine (tailracelaw10_works.calls  t209 _ A55.out).mono ?_); rintro e w57 ⟨rfl, hb⟩; refine ⟨_, rfl, ?_⟩; have n0_ := Aside0.mk (below_step (by repeat (first | (with_reducible first | exact HB.out | apply below_alloc | apply pw_below_drewN | apply below_drew1) | exact HB.out)) hb); clear HB; have HB := n0_; clear n0_; (try clear hb); (try clear hb2); (try clear hk); (try clear hi)))
      go_ret
      exact ⟨by first | rfl | (simp [errW_none, errW_some] <;> rfl) | (simp [*, errW_none, errW_some] <;> rfl), by repeat (first | (with_reducible first | exact HB.out | apply below_alloc | apply pw_below_drewN | apply below_drew1) | exact HB.out)⟩
  · replace c3 := Bool.eq_false_iff.mpr c3
    subst c3
    have H1 : ((tailracelaw10_works.f).bind fun t206 => (some t206)) = some r := by rw [if_neg (show ¬ (false = true) by decide)] at H; exact H
    clear H
    have H := H1
    clear H1
    replace H := Option.bind_eq_some_iff.mp H
    obtain ⟨t206, A580, H⟩ := H
    replace H : (some t206) = some r := H
    have A58 := Aside0.mk A580
    clear A580
    obtain rfl := Option.some.inj H
    go_enter Try.func7, Try.ntmps7
    go_wp2_with (first | ((with_reducible refine gate_callee (f := 9) rfl ?_); refine goesL_ (some 12) rfl rfl Try.func9 (by kernel_rfl) rfl #[.slice A0 l0.length c0, .int .i64 30] rfl (by (try simp only [List.map_toArray, List.map_cons, List.map_nil]); first | done | rfl | (simp only [List.length_drop, List.length_take]; rfl)) ?_; (with_reducible refine (tailracekit_Ins.calls k _ _ l0 30 false _ ?side1 ?side2 A2.out).mono ?_); (case side1 => repeat (first | exact HR0.out | (with_reducible refine Kd.C_alloc ?_ _) | (with_reducible refine Kd.C_drewN ?_ _) | (with_reducible refine Kd.C_drew ?_))); (case side2 => exact HC0.out); rintro e w' ⟨rfl, ⟨nd, rfl⟩⟩; refine ⟨_, rfl, ?_⟩) | ((with_reducible refine gate_callee (f := 10) rfl ?_); refine goesL_ (some 14) rfl rfl Try.func10 (by kernel_rfl) rfl #[] rfl (by (try simp only [List.map_toArray, List.map_cons, List.map_nil]); first | done | rfl | (simp only [List.length_drop, List.length_take]; rfl)) ?_; (with_reducible refine (tailracelaw10_works.calls  t206 _ A58.out).mono ?_); rintro e w59 ⟨rfl, hb⟩; refine ⟨_, rfl, ?_⟩; have n0_ := Aside0.mk (below_step (by repeat (first | (with_reducible first | exact HB.out | apply below_alloc | apply pw_below_drewN | apply below_drew1) | exact HB.out)) hb); clear HB; have HB := n0_; clear n0_; (try clear hb); (try clear hb2); (try clear hk); (try clear hi)))
    go_ret
    exact ⟨by first | rfl | (simp [errW_none, errW_some] <;> rfl) | (simp [*, errW_none, errW_some] <;> rfl), by repeat (first | (with_reducible first | exact HB.out | apply below_alloc | apply pw_below_drewN | apply below_drew1) | exact HB.out)⟩
end Go.Proofs.Ytnjlonenckifpaa.X
namespace Go.Proofs.Ytnjlonenckifpaa.X
set_option linter.unusedVariables false
set_option linter.unusedSimpArgs false
open Go.RowKit Go.Proofs.YtnjlonenckifpaaW.PrintWords Go.Proofs.YtnjlonenckifpaaW.PrintLast Go.Proofs.YtnjlonenckifpaaW.PrintMore
theorem getD_setI (xs : List Int) (a b : Nat) (v : Int) (ha : a < xs.length) : (xs.set a v).getD b 0 = if b = a then v else xs.getD b 0 := by
  simp only [List.getD_eq_getElem?_getD, List.getElem?_set]
  by_cases e : a = b
  · subst e; simp [ha]
  · simp [e, Ne.symm e]
structure Mid (G : List S39) (th : List Bool) (i K : Nat) (deep : List Int) : Prop where
  len : deep.length = G.length
  here : 0 ≤ deep.getD K 0 ∧ deep.getD K 0 ≤ (i : Int)
  there : ∀ j, j < G.length → j ≠ K → th.getD j false = true → 0 ≤ deep.getD j 0 ∧ deep.getD j 0 < (i : Int)
  gone : ∀ j, j < G.length → j ≠ K → th.getD j false = false → deep.getD j 0 = 0
structure Deep (G : List S39) (th : List Bool) (i : Nat) (deep : List Int) : Prop where
  len : deep.length = G.length
  there : ∀ j, j < G.length → th.getD j false = true → 0 ≤ deep.getD j 0 ∧ deep.getD j 0 < (i : Int)
  gone : ∀ j, j < G.length → th.getD j false = false → deep.getD j 0 = 0
theorem parts_l1 (G : List S39) (hs : small G = true) (L : List Int) (th : List Bool) (i K : Nat) (hK : K < G.length) (hk0 : th.getD K false = false) (hi : i < L.length) (hiK : rd L (i : Int) = (K : Int)) (hsm : i < 1000) (kind a b c : Int) (l : List Int) (hl : l.length ≤ 64)
    (hx : kind = 9 ∨ ∀ x ∈ l, th.getD x.toNat false = true) (hin : ∀ x ∈ l, 0 ≤ x ∧ x < (G.length : Int)) (R : Bool) (hR : ∀ deep, Mid G th i K deep → Ev (fun k => tailracelaw10_CheckParts.l0 k G deep L ((i + 1 : Nat) : Int)) R) : ∀ (d q : Nat) (deep : List Int), q + d = l.length → Mid G th i K deep →
    Ev (fun k => tailracelaw10_CheckParts.l1 k G deep L (i : Int) (q : Int) kind a b c l) R
  | 0, q, deep, hq, hM => by
    have hlen := hM.len
    have hh := hM.here
    refine Ev.step (fun k => ?_) (hR deep hM)
    rw [tailracelaw10_CheckParts.l1, if_neg (by omega), hiK, if_pos (by omega), if_pos (by omega), if_pos (by omega), if_pos (by omega), rd_nat, if_neg (by omega), wrap_small (by omega) (by omega)]
    rfl
  | d + 1, q, deep, hq, hM => by
    have hlen := hM.len
    have hh := hM.here
    have hGl := small_len hs
    have ih := parts_l1 G hs L th i K hK hk0 hi hiK hsm kind a b c l hl hx hin R hR d (q + 1)
    have hlt : q < l.length := by omega
    have hm : l.getD q 0 ∈ l := by rw [List.getD_eq_getElem?_getD, List.getElem?_eq_getElem hlt]; exact List.getElem_mem hlt
    have h1 := hin _ hm
    by_cases h9 : kind = 9
    · refine Ev.step (fun k => ?_) (ih deep (by omega) hM)
      rw [tailracelaw10_CheckParts.l1, if_pos (by omega), if_pos h9, wrap_small (by omega) (by omega)]
      rfl
    · have h2 := (hx.resolve_left h9) _ hm
      have hne : (l.getD q 0).toNat ≠ K := fun e => by rw [e, hk0] at h2; exact absurd h2 (by simp)
      have h3 := hM.there (l.getD q 0).toNat (by omega) hne h2
      have hv : 0 ≤ mx (deep.getD K 0) (deep.getD (l.getD q 0).toNat 0 + 1) ∧ mx (deep.getD K 0) (deep.getD (l.getD q 0).toNat 0 + 1) ≤ (i : Int) := by
        unfold mx
        split <;> omega
      refine Ev.step (fun k => ?_) (ih (deep.set K (mx (deep.getD K 0) (deep.getD (l.getD q 0).toNat 0 + 1))) (by omega) ⟨by rw [List.length_set]; exact hlen, ?_, fun j hj hjK ht => ?_, fun j hj hjK ht => ?_⟩)
      · have e : rd deep (l.getD q 0) = deep.getD (l.getD q 0).toNat 0 := rfl
        rw [tailracelaw10_CheckParts.l1, if_pos (by omega), if_neg h9, if_pos (by omega), if_pos (by omega), hiK, if_pos (by omega), if_pos (by omega), if_pos (by omega), rd_nat, if_pos (by omega), if_pos (by omega), rd_nat, e, wrap_small (x := deep.getD (l.getD q 0).toNat 0 + 1) (by omega) (by omega), wrap_small (by omega) (by omega)]
        rfl
      · rw [getD_setI _ _ _ _ (by omega), if_pos rfl]
        exact hv
      · rw [getD_setI _ _ _ _ (by omega), if_neg hjK]
        exact hM.there j hj hjK ht
      · rw [getD_setI _ _ _ _ (by omega), if_neg hjK]
        exact hM.gone j hj hjK ht
theorem parts_l0 (G : List S39) (hs : small G = true) (h : Sane G) (L : List Int) (hL : L.length = G.length) : ∀ (d f : Nat) (th : List Bool) (out : List Int) (deep : List Int), Come G L f th out → th.count false = d → Deep G th out.length deep →
    Ev (fun k => tailracelaw10_CheckParts.l0 k G deep L (out.length : Int)) true
  | 0, f, th, out, deep, s, hd, hD => by
    have := s.count
    refine Ev.step (f := fun _ => (tailracelaw10_works.f).bind fun t => some t) (fun k => ?_) Ev.works
    rw [tailracelaw10_CheckParts.l0, if_neg (by omega)]
  | d + 1, f, th, out, deep, s, hd, hD => by
    have hGl := small_len hs
    have hc := s.count
    have hlen := s.len
    obtain ⟨K, hK, hk0, hx, hin, hr, f', s'⟩ := s.next h (by omega)
    have hcs := count_set (by omega) hk0
    have hl := small_in hs (K : Int)
    have hn := node_ev G (K : Int)
    rw [h.node K hK] at hn
    have h0 := hD.gone K hK hk0
    refine Ev.step (f := fun k => (check_Node.f k G (K : Int)).bind fun t => if t = 0 then tailracelaw10_CheckParts.l1 k G deep L (out.length : Int) ((0 : Nat) : Int) (rd_T39 G (K : Int)).f0 (rd_T39 G (K : Int)).f1 (rd_T39 G (K : Int)).f2 (rd_T39 G (K : Int)).f3 (rd_T39 G (K : Int)).f4 else some false) (fun k => ?_) (Ev.bind hn ?_)
    · rw [tailracelaw10_CheckParts.l0, if_pos (by omega), if_pos (by omega), hr, if_pos (by omega), if_pos (by omega)]
      rfl
    · simp only [if_true]
      refine parts_l1 G hs L th out.length K hK hk0 (by omega) hr (by omega) _ _ _ _ _ hl hx hin true (fun deep' hM => ?_) _ 0 deep (Nat.zero_add _) ⟨hD.len, by rw [h0]; omega, fun j hj _ ht => hD.there j hj ht, fun j hj _ ht => hD.gone j hj ht⟩
      have ih := parts_l0 G hs h L hL d f' _ _ deep' s' (by omega)
      rw [List.length_append, List.length_singleton] at ih
      refine ih ⟨hM.len, fun j hj ht => ?_, fun j hj ht => ?_⟩
      · by_cases e : j = K
        · subst e
          have := hM.here
          omega
        · rw [getD_set _ _ _ (by omega), if_neg e] at ht
          have := hM.there j hj e ht
          omega
      · rw [getD_set _ _ _ (by omega)] at ht
        by_cases e : j = K
        · rw [if_pos e] at ht; exact absurd ht (by simp)
        · rw [if_neg e] at ht
          exact hM.gone j hj e ht
theorem CheckParts_ev (G : List S39) : Ev (fun k => tailracelaw10_CheckParts.f k G) true := by
  obtain ⟨r, h1, h2⟩ := ins_ev G 30 (by omega)
  unfold tailracelaw10_CheckParts.f
  refine Ev.bind h1 ?_
  by_cases hr : r = true
  · have hs := (h2 hr).1
    have hGl := small_len hs
    simp only [if_pos hr]
    refine Ev.bind (check_ev G hs) ?_
    by_cases he : (checkI G).2 = 0
    · have hS := check_sane he
      have hL := Come.whole hS _ _ _ _ (Come.start G) rfl
      have ho := order_ev G hs
      unfold orderI at ho
      rw [if_pos he] at ho
      simp only [if_pos he]
      refine Ev.congr (f := fun k => (check_Order.f k G).bind fun bt213 => tailracelaw10_CheckParts.l0 k G (List.replicate G.length 0) bt213.1 0) (fun k => ?_) (Ev.bind ho ?_)
      · rw [if_pos (by omega), if_pos (by omega)]
        rfl
      · refine parts_l0 G hs hS (orderL G) hL _ _ _ [] _ (Come.start G) rfl ⟨List.length_replicate, fun j hj ht => ?_, fun j hj ht => ?_⟩
        · rw [List.getD_eq_getElem?_getD, List.getElem?_replicate, if_pos hj] at ht
          exact absurd ht (by simp)
        · rw [List.getD_eq_getElem?_getD, List.getElem?_replicate, if_pos hj]
          rfl
    · simp only [if_neg he]
      exact Ev.works
  · simp only [if_neg hr]
    exact Ev.works
end Go.Proofs.Ytnjlonenckifpaa.X
namespace Go.Proofs.Ytnjlonenckifpaa.X
set_option linter.unusedVariables false
set_option linter.unusedSimpArgs false
open Go.RowKit Go.Proofs.YtnjlonenckifpaaW.PrintWords Go.Proofs.YtnjlonenckifpaaW.PrintLast Go.Proofs.YtnjlonenckifpaaW.PrintMore
open Go.ChangeShapes Go.WideShapes
section
variable {H : Type} {enc : TypeId × Value → H} {W : World} {fuel : Nat} {x : DataW H × List MemPlace} {cs : List Value}
theorem open_ins (h : DataW.trod enc Try.prog W 0 (fun _ => true) true fuel 33 cs = some x) : ∃ (A : Option Addr) (c : Nat) (xs : List Int), cs = [.slice A xs.length c] ∧ xs.length ≤ c ∧ (Kd.int .i64).C W A xs.length xs := by
  rcases open_ints Try.underlying33 Try.underlying3 (by kernel_rfl) h with ⟨rfl, _⟩ | ⟨a, len, cap, zs, rfl, _, hl, hm, hz, _, hcell, _⟩
  · exact ⟨none, 0, [], rfl, Nat.le_refl _, rfl, by simp, fun h => absurd h (Nat.not_lt_zero _)⟩
  · simp only [if_true] at hz
    have hlen : (zs.take len).length = len := by rw [List.length_take]; omega
    refine ⟨some a, cap, zs.take len, by rw [hlen], by omega, ?_⟩
    rw [hlen]
    refine Kd.C_of_reads (d := (0 : Int)) ⟨hlen, ?_, fun _ => ⟨a, rfl, fun j hj => ?_⟩⟩
    · unfold maxLen at hm; omega
    · rw [hcell j (by omega)]
      congr 2
      simp [List.getD_eq_getElem?_getD, List.getElem?_take, hj]
theorem open_node (h : DataW.trod enc Try.prog W 0 (fun _ => true) true fuel 39 cs = some x) : ∃ y : S39, k39.K W y cs := by
  obtain ⟨xs, n, _, _, hl, hlen, hf⟩ := DataW.trod_struct Try.underlying39 h
  have hc : Try.prog.cellsOf 39 = 5 := by kernel_rfl
  have hc5 : Try.prog.cellsOf 5 = 1 := by kernel_rfl
  have hc2 : Try.prog.cellsOf 2 = 1 := by kernel_rfl
  have hc3 : Try.prog.cellsOf 3 = 1 := by kernel_rfl
  have hc33 : Try.prog.cellsOf 33 = 1 := by kernel_rfl
  rw [hc] at hl
  match cs, hl with
  | [c0, c1, c2, c3, c4], _ =>
    match xs, hlen with
    | [y0, y1, y2, y3, y4], _ =>
      have h0 : DataW.trod enc Try.prog W 0 (fun _ => true) true n 5 (([c0, c1, c2, c3, c4].drop 0).take (Try.prog.cellsOf 5)) = some y0 := hf 0 _ rfl
      rw [hc5] at h0
      replace h0 : DataW.trod enc Try.prog W 0 (fun _ => true) true n 5 [c0] = some y0 := h0
      have h1 : DataW.trod enc Try.prog W 0 (fun _ => true) true n 5 (([c0, c1, c2, c3, c4].drop 1).take (Try.prog.cellsOf 5)) = some y1 := hf 1 _ rfl
      rw [hc5] at h1
      replace h1 : DataW.trod enc Try.prog W 0 (fun _ => true) true n 5 [c1] = some y1 := h1
      have h2 : DataW.trod enc Try.prog W 0 (fun _ => true) true n 2 (([c0, c1, c2, c3, c4].drop 2).take (Try.prog.cellsOf 2)) = some y2 := hf 2 _ rfl
      rw [hc2] at h2
      replace h2 : DataW.trod enc Try.prog W 0 (fun _ => true) true n 2 [c2] = some y2 := h2
      have h3 : DataW.trod enc Try.prog W 0 (fun _ => true) true n 3 (([c0, c1, c2, c3, c4].drop 3).take (Try.prog.cellsOf 3)) = some y3 := hf 3 _ rfl
      rw [hc3] at h3
      replace h3 : DataW.trod enc Try.prog W 0 (fun _ => true) true n 3 [c3] = some y3 := h3
      have h4 : DataW.trod enc Try.prog W 0 (fun _ => true) true n 33 (([c0, c1, c2, c3, c4].drop 4).take (Try.prog.cellsOf 33)) = some y4 := hf 4 _ rfl
      rw [hc33] at h4
      replace h4 : DataW.trod enc Try.prog W 0 (fun _ => true) true n 33 [c4] = some y4 := h4
      obtain ⟨z0, e0, _, _⟩ := DataW.trod_int Try.underlying5 h0
      obtain ⟨z1, e1, _, _⟩ := DataW.trod_int Try.underlying5 h1
      obtain ⟨z2, e2, _, _⟩ := DataW.trod_int Try.underlying2 h2
      obtain ⟨z3, e3, _, _⟩ := DataW.trod_int Try.underlying3 h3
      obtain ⟨A, c, l, e4, l4, g4⟩ := open_ins h4
      simp only [List.cons.injEq, and_true] at e0 e1 e2 e3 e4
      subst e0 e1 e2 e3 e4
      exact ⟨⟨z0, z1, z2, z3, l⟩, k39_mk W ⟨z0, z1, z2, z3, l⟩ l4 g4⟩
instance : Inhabited S39 := ⟨z39⟩
theorem open_graph {t : TypeId} (ht : Try.prog.underlying t = some (.slice 39)) {a : Option Addr} {len cap : Nat} (h : DataW.trod enc Try.prog W 0 (fun _ => true) true fuel t [.slice a len cap] = some x) : ∃ G : List S39, G.length = len ∧ len ≤ cap ∧ Kd.C k39 W a G.length G := by
  rcases Go.Deep.open_slice ht h with ⟨hcs, _⟩ | ⟨ad, l, c, m, n, D, Pl, hcs, _, hl, hm, hmm, _, hx⟩
  · simp only [List.cons.injEq, and_true, Value.slice.injEq] at hcs
    obtain ⟨rfl, rfl, rfl⟩ := hcs
    exact ⟨[], rfl, Nat.le_refl _, rfl, by simp, fun h => absurd h (Nat.not_lt_zero _)⟩
  · simp only [List.cons.injEq, and_true, Value.slice.injEq] at hcs
    obtain ⟨rfl, rfl, rfl⟩ := hcs
    simp only [if_true] at hmm
    have hc : Try.prog.cellsOf 39 = 5 := by kernel_rfl
    rw [hc] at hx
    obtain ⟨g, hg⟩ := Go.Deep.choose_lt (α := S39) (p := fun i y => ∃ cs', W.cells? 0 (ad.add (i * 5)) 5 = some cs' ∧ k39.K W y cs') (n := m) fun i hi => by
      obtain ⟨cs', h1, h2⟩ := hx i hi
      obtain ⟨y, hy⟩ := open_node h2
      exact ⟨y, cs', h1, hy⟩
    refine ⟨(List.range len).map g, by simp, hl, rfl, ?_, fun _ => ⟨ad, rfl, fun j p hp => ?_⟩⟩
    · unfold maxLen at hm
      rw [List.length_map, List.length_range]
      omega
    · rw [List.getElem?_map] at hp
      by_cases hj : j < len
      · rw [List.getElem?_range hj] at hp
        obtain rfl : g j = p := by simpa using hp
        obtain ⟨cs', h1, h2⟩ := hg j (by omega)
        obtain ⟨_, h3, h4⟩ := World.cells?_some h1
        refine ⟨cs', h3, h2, fun i u hu => ?_⟩
        have hi : i < 5 := by
          rcases Nat.lt_or_ge i 5 with h | h
          · exact h
          · rw [List.getElem?_eq_none (by omega)] at hu; exact absurd hu (by simp)
        have e : k39.sz = 5 := rfl
        rw [e, ← Go.Deep.add_add, h4 i hi, hu]
      · rw [List.getElem?_eq_none (by simp; omega)] at hp
        exact absurd hp (by simp)
end
end Go.Proofs.Ytnjlonenckifpaa.X
