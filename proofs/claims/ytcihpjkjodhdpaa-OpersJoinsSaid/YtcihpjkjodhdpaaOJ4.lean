/- A part of the proof. -/
import Derived.Test.YtcihpjkjodhdpaaOJ3
import Derived.Deep.Slices
import Derived.ChangeSlices
import Derived.WideShapes
namespace Go.Proofs.Ytcihpjkjodhdpaa.X
open Go.RowKit Go.Proofs.YtcihpjkjodhdpaaW.PrintWords Go.Proofs.YtcihpjkjodhdpaaW.PrintLast Go.Proofs.YtcihpjkjodhdpaaW.PrintMore
attribute [local go_sem] max2_int min2_int max_two min_two
set_option linter.unusedVariables false
set_option linter.unusedSimpArgs false
mutual
def tailracelaw13_OpersJoins.j0 : Nat → List (S36) → List (S36) → Int → Bool → Option (Bool)
  | 0, _, _, _, _ => none
  | k + 1, x0, x1, x2, x31 => if x31 = true then ((tailracelaw13_works.f).bind fun t139 => (some t139)) else (if (wrap64 ((x0.length : Int) + 1)) = 0 then (none) else ((opers_Run2.f 6 0 0 0 ([] : List Int) x0 x1).bind fun bt141 => ((opers_Run2.f 6 0 0 0 ([] : List Int) x1 x0).bind fun bt145 => (if 0 ≤ (Int.tmod (wrap64 (x2)) (wrap64 ((x0.length : Int) + 1))) then (if (Int.tmod (wrap64 (x2)) (wrap64 ((x0.length : Int) + 1))) ≤ (x0.length : Int) then ((opers_Run2.f 6 0 0 0 ([] : List Int) (x0.take ((Int.tmod (wrap64 (x2)) (wrap64 ((x0.length : Int) + 1))) : Int).toNat) x1).bind fun bt153 => ((opers_Run2.f 6 0 0 0 ([] : List Int) (x0.drop ((Int.tmod (wrap64 (x2)) (wrap64 ((x0.length : Int) + 1))) : Int).toNat) x1).bind fun bt161 => ((opers_Run2.f 6 0 0 0 ([] : List Int) x0 ([] : List (S36))).bind fun bt165 => (if bt141.2 = 0 then ((tailraceref12_Alike.f k bt141.1 bt145.1).bind fun t169 => (if t169 = true then ((value_Add2.f bt153.1 bt161.1).bind fun t170 => ((tailraceref12_Alike.f k bt141.1 t170).bind fun t173 => (if t173 = true then (tailracelaw13_OpersJoins.j1 k x0 x1 bt141.1 (decide ((bt165.1.length : Int) > 0))) else (tailracelaw13_OpersJoins.j1 k x0 x1 bt141.1 true)))) else (tailracelaw13_OpersJoins.j1 k x0 x1 bt141.1 true))) else (tailracelaw13_OpersJoins.j1 k x0 x1 bt141.1 true))))) else (none)) else (none)))))
def tailracelaw13_OpersJoins.j1 : Nat → List (S36) → List (S36) → List (S36) → Bool → Option (Bool)
  | 0, _, _, _, _ => none
  | k + 1, x0, x1, x9, x104 => if x104 = true then (some false) else (tailracelaw13_OpersJoins.l0 k x0 x1 x9 0)
def tailracelaw13_OpersJoins.l0 : Nat → List (S36) → List (S36) → List (S36) → Int → Option (Bool)
  | 0, _, _, _, _ => none
  | k + 1, x0, x1, x9, x19 => if x19 < (x9.length : Int) then (tailracelaw13_OpersJoins.l1 k x0 x1 x9 x19 false false 0) else ((tailracelaw13_works.f).bind fun t174 => (some t174))
def tailracelaw13_OpersJoins.l1 : Nat → List (S36) → List (S36) → List (S36) → Int → Bool → Bool → Int → Option (Bool)
  | 0, _, _, _, _, _, _, _ => none
  | k + 1, x0, x1, x9, x19, x20, x21, x22 => if x22 < (x0.length : Int) then (if x20 = true then (tailracelaw13_OpersJoins.l1 k x0 x1 x9 x19 true x21 (wrap64 (x22 + 1))) else (if 0 ≤ x22 then (if 0 ≤ x19 then (if x19 < (x9.length : Int) then (tailracelaw13_OpersJoins.l1 k x0 x1 x9 x19 (((rd_T36 x0 x22).f0) == ((rd_T36 x9 x19).f0)) x21 (wrap64 (x22 + 1))) else (none)) else (none)) else (none))) else (tailracelaw13_OpersJoins.l2 k x0 x1 x9 x19 x20 x21 0)
def tailracelaw13_OpersJoins.l2 : Nat → List (S36) → List (S36) → List (S36) → Int → Bool → Bool → Int → Option (Bool)
  | 0, _, _, _, _, _, _, _ => none
  | k + 1, x0, x1, x9, x19, x20, x21, x23 => if x23 < (x1.length : Int) then (if x21 = true then (tailracelaw13_OpersJoins.l2 k x0 x1 x9 x19 x20 true (wrap64 (x23 + 1))) else (if 0 ≤ x23 then (if 0 ≤ x19 then (if x19 < (x9.length : Int) then (tailracelaw13_OpersJoins.l2 k x0 x1 x9 x19 x20 (((rd_T36 x1 x23).f0) == ((rd_T36 x9 x19).f0)) (wrap64 (x23 + 1))) else (none)) else (none)) else (none))) else (if x20 = true then (if x21 = true then (tailracelaw13_OpersJoins.l0 k x0 x1 x9 (wrap64 (x19 + 1))) else (some false)) else (some false))
end
def tailracelaw13_OpersJoins.f (k : Nat) (l0 : List (S36)) (l1 : List (S36)) (a2 : Int) : Option (Bool) := if (l0.length : Int) > 40 then (tailracelaw13_OpersJoins.j0 k l0 l1 a2 true) else (tailracelaw13_OpersJoins.j0 k l0 l1 a2 (decide ((l1.length : Int) > 40)))
def tailracelaw13_OpersJoins.T7 : Bool × List (List Nat × List Nat) := (true, [([], []), ([], []), ([], []), ([1, 2], [1, 2]), ([], []), ([3, 4], [3, 4]), ([0, 5], [0, 5]), ([6], [6]), ([7], [7]), ([7], [7]), ([8, 6, 0, 1, 2, 3, 4, 5, 6, 7, 8], [8]), ([9, 10, 0, 1, 2, 3, 4, 5, 6, 7, 8, 9, 10], [9])])
def tailracelaw13_OpersJoins.B7 : List Nat := [0, 0, 0, 6, 0, 30, 63, 127, 255, 255, 511, 2047]
theorem tailracelaw13_OpersJoins.tab7 : rtab .any (opsOf Try.f9 7) = tailracelaw13_OpersJoins.T7 := by kernel_rfl
theorem tailracelaw13_OpersJoins.bits7 : waitsOk tailracelaw13_OpersJoins.T7.2 tailracelaw13_OpersJoins.B7 = true := by kernel_rfl
def tailracelaw13_OpersJoins.T8 : Bool × List (List Nat × List Nat) := (true, [([], []), ([], []), ([], []), ([1, 2], [1, 2]), ([], []), ([3, 4], [3, 4]), ([0, 5], [0, 5]), ([6], [6]), ([7], [7]), ([7], [7]), ([8, 6, 0, 1, 2, 3, 4, 5, 6, 7, 8], [8]), ([9, 10, 0, 1, 2, 3, 4, 5, 6, 7, 8, 9, 10], [9])])
def tailracelaw13_OpersJoins.B8 : List Nat := [0, 0, 0, 6, 0, 30, 63, 127, 255, 255, 511, 2047]
theorem tailracelaw13_OpersJoins.tab8 : rtab .any (opsOf Try.f9 8) = tailracelaw13_OpersJoins.T8 := by kernel_rfl
theorem tailracelaw13_OpersJoins.bits8 : waitsOk tailracelaw13_OpersJoins.T8.2 tailracelaw13_OpersJoins.B8 = true := by kernel_rfl
def tailracelaw13_OpersJoins.T19 : Bool × List (List Nat × List Nat) := (true, [([], []), ([0], [0]), ([1], [1]), ([1], [1]), ([2, 3, 1], [1, 2, 3]), ([4, 1], [1, 4]), ([5, 1], [1, 5]), ([1], [1]), ([1], [1]), ([7, 8, 1], [1, 7, 8]), ([9, 1], [1, 9]), ([10, 1], [1, 10]), ([6, 11, 1], [1, 6, 11]), ([1, 12], [1, 12]), ([13, 1, 0, 1, 2, 3, 4, 5, 6, 7, 8, 9, 10, 11, 12, 13], [0, 13])])
def tailracelaw13_OpersJoins.B19 : List Nat := [0, 1, 3, 3, 15, 31, 63, 3, 3, 387, 899, 1923, 4095, 8191, 16383]
theorem tailracelaw13_OpersJoins.tab19 : rtab .any (opsOf Try.f9 19) = tailracelaw13_OpersJoins.T19 := by kernel_rfl
theorem tailracelaw13_OpersJoins.bits19 : waitsOk tailracelaw13_OpersJoins.T19.2 tailracelaw13_OpersJoins.B19 = true := by kernel_rfl
def tailracelaw13_OpersJoins.T23 : Bool × List (List Nat × List Nat) := (true, [([], []), ([0], [0]), ([1], [1]), ([1], [1]), ([2, 3, 1], [1, 2, 3]), ([4, 1], [1, 4]), ([5, 1], [1, 5]), ([1], [1]), ([1], [1]), ([7, 8, 1], [1, 7, 8]), ([9, 1], [1, 9]), ([10, 1], [1, 10]), ([6, 11, 1], [1, 6, 11]), ([1, 12], [1, 12]), ([13, 1, 0, 1, 2, 3, 4, 5, 6, 7, 8, 9, 10, 11, 12, 13], [0, 13])])
def tailracelaw13_OpersJoins.B23 : List Nat := [0, 1, 3, 3, 15, 31, 63, 3, 3, 387, 899, 1923, 4095, 8191, 16383]
theorem tailracelaw13_OpersJoins.tab23 : rtab .any (opsOf Try.f9 23) = tailracelaw13_OpersJoins.T23 := by kernel_rfl
theorem tailracelaw13_OpersJoins.bits23 : waitsOk tailracelaw13_OpersJoins.T23.2 tailracelaw13_OpersJoins.B23 = true := by kernel_rfl
set_option maxHeartbeats 8000000 in
set_option maxRecDepth 100000 in
theorem tailracelaw13_OpersJoins.calls (k : Nat) (A0 : Option Addr) (c0 : Nat) (l0 : List (S36)) (A1 : Option Addr) (c1 : Nat) (l1 : List (S36)) (a2 : Int) (r : Bool) (w : World) (hr0 : Kd.C k36 w A0 l0.length l0) (hc0 : l0.length ≤ c0) (hr1 : Kd.C k36 w A1 l1.length l1) (hc1 : l1.length ≤ c1) (h : tailracelaw13_OpersJoins.f k l0 l1 a2 = some r) :
    Calls Try.prog 9 #[.slice A0 l0.length c0, .slice A1 l1.length c1, .int .u8 a2] w fun e w' => e = .returned (.bool r) ∧ Below w.heap.size w w' := by
  have hu24 := Try.underlying24
  have HR0 := Aside0.mk hr0
  have HC0 := Aside0.mk hc0
  clear hr0 hc0
  have HR1 := Aside0.mk hr1
  have HC1 := Aside0.mk hc1
  clear hr1 hc1
  have HB := Aside0.mk (Below.refl w.heap.size w)
  have H : (if (l0.length : Int) > 40 then (tailracelaw13_OpersJoins.j0 k l0 l1 a2 true) else (tailracelaw13_OpersJoins.j0 k l0 l1 a2 (decide ((l1.length : Int) > 40)))) = some r := h
  clear h
  have HC4 := Aside0.mk H
  clear H
  go_enter Try.func9, Try.ntmps9
  go_upto_region 1 with (fail)
  go_cut [31] (fun v31 wc => ∃ (kq : Nat) (x31_3 : Bool), v31 = .bool x31_3 ∧ Aside0 (tailracelaw13_OpersJoins.j0 kq l0 l1 a2 x31_3 = some r) ∧ Aside0 (kq ≤ k) ∧ Aside0 (Below w.heap.size w wc))
  case first =>
    have H := HC4.out
    clear HC4
    by_cases c5 : (l0.length : Int) > 40
    · rw [if_pos c5] at H
      have c5b0 : decide (40 < (l0.length : Int)) = true := decide_eq_true c5
      have c5b1 : decide (40 < l0.length) = true := decide_eq_true (by omega)
      clear c5
      (first | rw [c5b0] | (simp only [i64_w, i32_w]; rw [c5b0]) | skip)
      have H' := Aside0.mk H
      clear H
      go_wp2
      go_meet
      case rel => exact ⟨_, (true), (by first | rfl | (simp; done) | (simp [*]; done)), H', ⟨by first | omega | exact Nat.le_refl _⟩, ⟨by repeat (first | (with_reducible first | exact HB.out | apply below_alloc | apply pw_below_drewN | apply below_drew1) | exact HB.out)⟩⟩
    · rw [if_neg c5] at H
      have c5b0 : decide (40 < (l0.length : Int)) = false := decide_eq_false c5
      have c5b1 : decide (40 < l0.length) = false := decide_eq_false (by omega)
      clear c5
      (first | rw [c5b0] | (simp only [i64_w, i32_w]; rw [c5b0]) | skip)
      have H' := Aside0.mk H
      clear H
      go_wp2
      go_meet
      case rel => exact ⟨_, (decide ((l1.length : Int) > 40)), (by first | rfl | (simp; done) | (simp [*]; done)), H', ⟨by first | omega | exact Nat.le_refl _⟩, ⟨by repeat (first | (with_reducible first | exact HB.out | apply below_alloc | apply pw_below_drewN | apply below_drew1) | exact HB.out)⟩⟩
  case rest =>
    as_aux_lemma =>
    clear HC4
    try clear c1
    try clear p2
    try clear c5
    try clear c5b0
    try clear c5b1
    obtain ⟨kq, x31_3, rfl, HA, HJ3, HB⟩ := hcut
    cases kq with
    | zero => exact absurd HA.out (by simp [tailracelaw13_OpersJoins.j0])
    | succ kj3 =>
      have H := HA.out
      clear HA
      simp only [tailracelaw13_OpersJoins.j0] at H
      by_cases c6 : x31_3 = true
      · subst c6
        have H1 : ((tailracelaw13_works.f).bind fun t139 => (some t139)) = some r := by rw [if_pos rfl] at H; exact H
        clear H
        have H := H1
        clear H1
        replace H := Option.bind_eq_some_iff.mp H
        obtain ⟨t139, A70, H⟩ := H
        replace H : (some t139) = some r := H
        have A7 := Aside0.mk A70
        clear A70
        obtain rfl := Option.some.inj H
        go_wp2_with (first | ((with_reducible refine gate_callee (f := 11) rfl ?_); refine goesL_ (some 32) rfl rfl Try.func11 (by kernel_rfl) rfl #[] rfl (by (try simp only [List.map_toArray, List.map_cons, List.map_nil]); first | done | rfl | (simp only [List.length_drop, List.length_take]; rfl)) ?_; (with_reducible refine (tailracelaw13_works.calls  t139 _ A7.out).mono ?_); rintro e w8 ⟨rfl, hb⟩; refine ⟨_, rfl, ?_⟩; have n0_ := Aside0.mk (below_step (by repeat (first | (with_reducible first | exact HB.out | apply below_alloc | apply pw_below_drewN | apply below_drew1) | exact HB.out)) hb); clear HB; have HB := n0_; clear n0_; (try clear hb); (try clear hb2); (try clear hk); (try clear hi)))
        go_ret
        exact ⟨by first | rfl | (simp [errW_none, errW_some] <;> rfl) | (simp [*, errW_none, errW_some] <;> rfl), by repeat (first | (with_reducible first | exact HB.out | apply below_alloc | apply pw_below_drewN | apply below_drew1) | exact HB.out)⟩
      · replace c6 := Bool.eq_false_iff.mpr c6
        subst c6
        have H1 : (if (wrap64 ((l0.length : Int) + 1)) = 0 then (none) else ((opers_Run2.f 6 0 0 0 ([] : List Int) l0 l1).bind fun bt141 => ((opers_Run2.f 6 0 0 0 ([] : List Int) l1 l0).bind fun bt145 => (if 0 ≤ (Int.tmod (wrap64 (a2)) (wrap64 ((l0.length : Int) + 1))) then (if (Int.tmod (wrap64 (a2)) (wrap64 ((l0.length : Int) + 1))) ≤ (l0.length : Int) then ((opers_Run2.f 6 0 0 0 ([] : List Int) (l0.take ((Int.tmod (wrap64 (a2)) (wrap64 ((l0.length : Int) + 1))) : Int).toNat) l1).bind fun bt153 => ((opers_Run2.f 6 0 0 0 ([] : List Int) (l0.drop ((Int.tmod (wrap64 (a2)) (wrap64 ((l0.length : Int) + 1))) : Int).toNat) l1).bind fun bt161 => ((opers_Run2.f 6 0 0 0 ([] : List Int) l0 ([] : List (S36))).bind fun bt165 => (if bt141.2 = 0 then ((tailraceref12_Alike.f kj3 bt141.1 bt145.1).bind fun t169 => (if t169 = true then ((value_Add2.f bt153.1 bt161.1).bind fun t170 => ((tailraceref12_Alike.f kj3 bt141.1 t170).bind fun t173 => (if t173 = true then (tailracelaw13_OpersJoins.j1 kj3 l0 l1 bt141.1 (decide ((bt165.1.length : Int) > 0))) else (tailracelaw13_OpersJoins.j1 kj3 l0 l1 bt141.1 true)))) else (tailracelaw13_OpersJoins.j1 kj3 l0 l1 bt141.1 true))) else (tailracelaw13_OpersJoins.j1 kj3 l0 l1 bt141.1 true))))) else (none)) else (none))))) = some r := by rw [if_neg (show ¬ (false = true) by decide)] at H; exact H
        clear H
        have H := H1
        clear H1
        by_cases c9 : (wrap64 ((l0.length : Int) + 1)) = 0
        · rw [if_pos c9] at H
          exact absurd H (by simp)
        · rw [if_neg c9] at H
          have c9b0 : ((wrap64 ((l0.length : Int) + 1)) == 0) = false := beq_eq_false_iff_ne.mpr c9
          have c9b1 : ((wrap64 ((l0.length : Int) + 1)) != 0) = true := bne_iff_ne.mpr c9
          replace H := Option.bind_eq_some_iff.mp H
          obtain ⟨⟨t141, t144⟩, A100, H⟩ := H
          replace H : ((opers_Run2.f 6 0 0 0 ([] : List Int) l1 l0).bind fun bt145 => (if 0 ≤ (Int.tmod (wrap64 (a2)) (wrap64 ((l0.length : Int) + 1))) then (if (Int.tmod (wrap64 (a2)) (wrap64 ((l0.length : Int) + 1))) ≤ (l0.length : Int) then ((opers_Run2.f 6 0 0 0 ([] : List Int) (l0.take ((Int.tmod (wrap64 (a2)) (wrap64 ((l0.length : Int) + 1))) : Int).toNat) l1).bind fun bt153 => ((opers_Run2.f 6 0 0 0 ([] : List Int) (l0.drop ((Int.tmod (wrap64 (a2)) (wrap64 ((l0.length : Int) + 1))) : Int).toNat) l1).bind fun bt161 => ((opers_Run2.f 6 0 0 0 ([] : List Int) l0 ([] : List (S36))).bind fun bt165 => (if t144 = 0 then ((tailraceref12_Alike.f kj3 t141 bt145.1).bind fun t169 => (if t169 = true then ((value_Add2.f bt153.1 bt161.1).bind fun t170 => ((tailraceref12_Alike.f kj3 t141 t170).bind fun t173 => (if t173 = true then (tailracelaw13_OpersJoins.j1 kj3 l0 l1 t141 (decide ((bt165.1.length : Int) > 0))) else (tailracelaw13_OpersJoins.j1 kj3 l0 l1 t141 true)))) else (tailracelaw13_OpersJoins.j1 kj3 l0 l1 t141 true))) else (tailracelaw13_OpersJoins.j1 kj3 l0 l1 t141 true))))) else (none)) else (none))) = some r := H
          have A10 := Aside0.mk A100
          clear A100
          replace H := Option.bind_eq_some_iff.mp H
          obtain ⟨⟨t145, t148⟩, A110, H⟩ := H
          replace H : (if 0 ≤ (Int.tmod (wrap64 (a2)) (wrap64 ((l0.length : Int) + 1))) then (if (Int.tmod (wrap64 (a2)) (wrap64 ((l0.length : Int) + 1))) ≤ (l0.length : Int) then ((opers_Run2.f 6 0 0 0 ([] : List Int) (l0.take ((Int.tmod (wrap64 (a2)) (wrap64 ((l0.length : Int) + 1))) : Int).toNat) l1).bind fun bt153 => ((opers_Run2.f 6 0 0 0 ([] : List Int) (l0.drop ((Int.tmod (wrap64 (a2)) (wrap64 ((l0.length : Int) + 1))) : Int).toNat) l1).bind fun bt161 => ((opers_Run2.f 6 0 0 0 ([] : List Int) l0 ([] : List (S36))).bind fun bt165 => (if t144 = 0 then ((tailraceref12_Alike.f kj3 t141 t145).bind fun t169 => (if t169 = true then ((value_Add2.f bt153.1 bt161.1).bind fun t170 => ((tailraceref12_Alike.f kj3 t141 t170).bind fun t173 => (if t173 = true then (tailracelaw13_OpersJoins.j1 kj3 l0 l1 t141 (decide ((bt165.1.length : Int) > 0))) else (tailracelaw13_OpersJoins.j1 kj3 l0 l1 t141 true)))) else (tailracelaw13_OpersJoins.j1 kj3 l0 l1 t141 true))) else (tailracelaw13_OpersJoins.j1 kj3 l0 l1 t141 true))))) else (none)) else (none)) = some r := H
          have A11 := Aside0.mk A110
          clear A110
          obtain ⟨ji12, hji12⟩ : ∃ j_ : Int, (Int.tmod (wrap64 (a2)) (wrap64 ((l0.length : Int) + 1))) = j_ := ⟨_, rfl⟩
          replace H : (if 0 ≤ (ji12) then (if (ji12) ≤ (l0.length : Int) then ((opers_Run2.f 6 0 0 0 ([] : List Int) (l0.take ((ji12) : Int).toNat) l1).bind fun bt153 => ((opers_Run2.f 6 0 0 0 ([] : List Int) (l0.drop ((ji12) : Int).toNat) l1).bind fun bt161 => ((opers_Run2.f 6 0 0 0 ([] : List Int) l0 ([] : List (S36))).bind fun bt165 => (if t144 = 0 then ((tailraceref12_Alike.f kj3 t141 t145).bind fun t169 => (if t169 = true then ((value_Add2.f bt153.1 bt161.1).bind fun t170 => ((tailraceref12_Alike.f kj3 t141 t170).bind fun t173 => (if t173 = true then (tailracelaw13_OpersJoins.j1 kj3 l0 l1 t141 (decide ((bt165.1.length : Int) > 0))) else (tailracelaw13_OpersJoins.j1 kj3 l0 l1 t141 true)))) else (tailracelaw13_OpersJoins.j1 kj3 l0 l1 t141 true))) else (tailracelaw13_OpersJoins.j1 kj3 l0 l1 t141 true))))) else (none)) else (none)) = some r := by first | (rw [hji12] at H; exact H) | (simp only [hji12] at H ⊢; exact H)
          (try rw [hji12] at A10)
          (try rw [hji12] at A11)
          by_cases c13 : 0 ≤ (ji12)
          · rw [if_pos c13] at H
            have c13b0 := eq_true c13
            have c13b1 : decide (0 ≤ (ji12)) = true := decide_eq_true c13
            clear c13
            by_cases c14 : (ji12) ≤ (l0.length : Int)
            · rw [if_pos c14] at H
              have c14b0 := eq_true c14
              have c14b1 : decide ((ji12) ≤ (l0.length : Int)) = true := decide_eq_true c14
              clear c14
              obtain ⟨y149, hy149⟩ : ∃ y_ : List (S36), y_ = (l0.take ((ji12) : Int).toNat) := ⟨_, rfl⟩
              replace H : ((opers_Run2.f 6 0 0 0 ([] : List Int) y149 l1).bind fun bt153 => ((opers_Run2.f 6 0 0 0 ([] : List Int) (l0.drop ((ji12) : Int).toNat) l1).bind fun bt161 => ((opers_Run2.f 6 0 0 0 ([] : List Int) l0 ([] : List (S36))).bind fun bt165 => (if t144 = 0 then ((tailraceref12_Alike.f kj3 t141 t145).bind fun t169 => (if t169 = true then ((value_Add2.f bt153.1 bt161.1).bind fun t170 => ((tailraceref12_Alike.f kj3 t141 t170).bind fun t173 => (if t173 = true then (tailracelaw13_OpersJoins.j1 kj3 l0 l1 t141 (decide ((bt165.1.length : Int) > 0))) else (tailracelaw13_OpersJoins.j1 kj3 l0 l1 t141 true)))) else (tailracelaw13_OpersJoins.j1 kj3 l0 l1 t141 true))) else (tailracelaw13_OpersJoins.j1 kj3 l0 l1 t141 true))))) = some r := by first | (rw [hy149]; with_reducible exact H) | (have H2_ := (Option.bind_some _ _).symm.trans H; rw [hy149]; with_reducible exact H2_) | (have H2_ := (Option.bind_some _ _).symm.trans H; with_reducible exact H2_) | with_reducible exact H | (rw [hy149]; exact H) | exact H
              have Ny149 := Aside0.mk hy149
              clear hy149
              replace H := Option.bind_eq_some_iff.mp H
              obtain ⟨⟨t153, t156⟩, A150, H⟩ := H
              replace H : ((opers_Run2.f 6 0 0 0 ([] : List Int) (l0.drop ((ji12) : Int).toNat) l1).bind fun bt161 => ((opers_Run2.f 6 0 0 0 ([] : List Int) l0 ([] : List (S36))).bind fun bt165 => (if t144 = 0 then ((tailraceref12_Alike.f kj3 t141 t145).bind fun t169 => (if t169 = true then ((value_Add2.f t153 bt161.1).bind fun t170 => ((tailraceref12_Alike.f kj3 t141 t170).bind fun t173 => (if t173 = true then (tailracelaw13_OpersJoins.j1 kj3 l0 l1 t141 (decide ((bt165.1.length : Int) > 0))) else (tailracelaw13_OpersJoins.j1 kj3 l0 l1 t141 true)))) else (tailracelaw13_OpersJoins.j1 kj3 l0 l1 t141 true))) else (tailracelaw13_OpersJoins.j1 kj3 l0 l1 t141 true)))) = some r := H
              have A15 := Aside0.mk A150
              clear A150
              have c16b0 := eq_true (of_decide_eq_true (by first | (with_reducible assumption) | assumption) : 0 ≤ (ji12))
              have c17b0 := eq_true (of_decide_eq_true (by first | (with_reducible assumption) | assumption) : (ji12) ≤ (l0.length : Int))
              obtain ⟨y157, hy157⟩ : ∃ y_ : List (S36), y_ = (l0.drop ((ji12) : Int).toNat) := ⟨_, rfl⟩
              replace H : ((opers_Run2.f 6 0 0 0 ([] : List Int) y157 l1).bind fun bt161 => ((opers_Run2.f 6 0 0 0 ([] : List Int) l0 ([] : List (S36))).bind fun bt165 => (if t144 = 0 then ((tailraceref12_Alike.f kj3 t141 t145).bind fun t169 => (if t169 = true then ((value_Add2.f t153 bt161.1).bind fun t170 => ((tailraceref12_Alike.f kj3 t141 t170).bind fun t173 => (if t173 = true then (tailracelaw13_OpersJoins.j1 kj3 l0 l1 t141 (decide ((bt165.1.length : Int) > 0))) else (tailracelaw13_OpersJoins.j1 kj3 l0 l1 t141 true)))) else (tailracelaw13_OpersJoins.j1 kj3 l0 l1 t141 true))) else (tailracelaw13_OpersJoins.j1 kj3 l0 l1 t141 true)))) = some r := by first | (rw [hy157]; with_reducible exact H) | (have H2_ := (Option.bind_some _ _).symm.trans H; rw [hy157]; with_reducible exact H2_) | (have H2_ := (Option.bind_some _ _).symm.trans H; with_reducible exact H2_) | with_reducible exact H | (rw [hy157]; exact H) | exact H
              have Ny157 := Aside0.mk hy157
              clear hy157
              replace H := Option.bind_eq_some_iff.mp H
              obtain ⟨⟨t161, t164⟩, A180, H⟩ := H
              replace H : ((opers_Run2.f 6 0 0 0 ([] : List Int) l0 ([] : List (S36))).bind fun bt165 => (if t144 = 0 then ((tailraceref12_Alike.f kj3 t141 t145).bind fun t169 => (if t169 = true then ((value_Add2.f t153 t161).bind fun t170 => ((tailraceref12_Alike.f kj3 t141 t170).bind fun t173 => (if t173 = true then (tailracelaw13_OpersJoins.j1 kj3 l0 l1 t141 (decide ((bt165.1.length : Int) > 0))) else (tailracelaw13_OpersJoins.j1 kj3 l0 l1 t141 true)))) else (tailracelaw13_OpersJoins.j1 kj3 l0 l1 t141 true))) else (tailracelaw13_OpersJoins.j1 kj3 l0 l1 t141 true))) = some r := H
              have A18 := Aside0.mk A180
              clear A180
              replace H := Option.bind_eq_some_iff.mp H
              obtain ⟨⟨t165, t168⟩, A190, H⟩ := H
              replace H : (if t144 = 0 then ((tailraceref12_Alike.f kj3 t141 t145).bind fun t169 => (if t169 = true then ((value_Add2.f t153 t161).bind fun t170 => ((tailraceref12_Alike.f kj3 t141 t170).bind fun t173 => (if t173 = true then (tailracelaw13_OpersJoins.j1 kj3 l0 l1 t141 (decide ((t165.length : Int) > 0))) else (tailracelaw13_OpersJoins.j1 kj3 l0 l1 t141 true)))) else (tailracelaw13_OpersJoins.j1 kj3 l0 l1 t141 true))) else (tailracelaw13_OpersJoins.j1 kj3 l0 l1 t141 true)) = some r := H
              have A19 := Aside0.mk A190
              clear A190
              have HC20 := Aside0.mk H
              clear H
              try go_wp2_with (first | ((with_reducible refine gate_dst (N := 7) rfl ?_); (try (refine gate_guard (by rfl) ?_; dsimp only)); refine box_event ?hg (N := 7) ?hd (cs := #[.int .u8 0, .int .u8 0, .int .i64 0, .int .i64 0, .slice none 0 0]) (t := 24) ?hr ?_; (case hd => rfl); (case hg => rfl); (case hr => first | (go_simp; done) | (go_simp; rfl)); intro gb140 hg w21 hbox hb; have n0_ := Aside0.mk (below_step (by repeat (first | (with_reducible first | exact HB.out | apply below_alloc | apply pw_below_drewN | apply below_drew1) | exact HB.out)) hb); have n1_ := Aside0.mk (hbox); have n2_ := Aside0.mk ((by rw [hg]; exact (below_size (by repeat (first | (with_reducible first | exact HB.out | apply below_alloc | apply pw_below_drewN | apply below_drew1) | exact HB.out))) : w.heap.size ≤ gb140)); have n3_ := Aside0.mk ((by rw [hg]; exact (below_size (by repeat (first | (with_reducible first | exact HB.out | apply below_alloc | apply pw_below_drewN | apply below_drew1) | exact HB.out))) : w.heap.size ≤ gb140)); clear HB; have HB := n0_; have BK140 := n1_; have GW140 := n2_; have GE140 := n3_; clear n0_ n1_ n2_ n3_; clear hb hbox hg; have hcz22_0 : w21.cell? ⟨gb140, 0, none⟩ = some (.int .u8 0) := (blk_cell BK140.out 0).trans rfl; have hcz22_1 : w21.cell? ⟨gb140, 1, none⟩ = some (.int .u8 0) := (blk_cell BK140.out 1).trans rfl; have hcz22_2 : w21.cell? ⟨gb140, 2, none⟩ = some (.int .i64 0) := (blk_cell BK140.out 2).trans rfl; have hcz22_3 : w21.cell? ⟨gb140, 3, none⟩ = some (.int .i64 0) := (blk_cell BK140.out 3).trans rfl; have hcz22_4 : w21.cell? ⟨gb140, 4, none⟩ = some (.slice none 0 0) := (blk_cell BK140.out 4).trans rfl; have hfz22_0 := blk_frozen BK140.out 0; have hfz22_1 := blk_frozen BK140.out 1; have hfz22_2 := blk_frozen BK140.out 2; have hfz22_3 := blk_frozen BK140.out 3; have hfz22_4 := blk_frozen BK140.out 4) | (go_at_call 12; (with_reducible show Calls Try.prog 12 #[.agg #[.int .u8 6, .int .u8 0, .int .i64 0, .int .i64 0, _], _] (World.alloc _ (.cells #[.slice _ (List.length l0) _, .slice _ (List.length l1) _] 28)) _); (refine (opers_Run2.calls 6 0 0 0 _ _ ([] : List Int) _ _ l0 _ _ l1 t141 t144 _ ?side1 ?side2 ?side3 ?side4 ?side5 ?side6 A10.out).mono ?_); (case side1 => exact Kd.C_nil _ _); (case side2 => exact Nat.le_refl _); (case side3 => exact Kd.C_below HR0.out (by repeat (first | (with_reducible first | exact HB.out | apply below_alloc | apply pw_below_drewN | apply below_drew1 | refine below_set ?_ GE140.out) | exact HB.out))); (case side4 => exact HC0.out); (case side5 => exact Kd.C_below HR1.out (by repeat (first | (with_reducible first | exact HB.out | apply below_alloc | apply pw_below_drewN | apply below_drew1 | refine below_set ?_ GE140.out) | exact HB.out))); (case side6 => exact HC1.out); rintro e w23 ⟨v142, rfl, ho0, hb⟩; have n0_ := Aside0.mk (Kd.R_lower ho0 (below_size (by repeat (first | (with_reducible first | exact HB.out | apply below_alloc | apply pw_below_drewN | apply below_drew1 | refine below_set ?_ GE140.out) | exact HB.out)))); have n1_ := Aside0.mk (blk_below (g := gb140) (o := .cells #[.int .u8 6, .int .u8 0, .int .i64 0, .int .i64 0, .slice none 0 0] 24 (0, 0)) (by (with_reducible repeat (first | refine blk_drewN ?_ _ | refine blk_drew ?_ | refine blk_alloc ?_ _)); refine blk_put (cs := #[.int .u8 6, .int .u8 0, .int .i64 0, .int .i64 0, .slice none 0 0]) ?_ 4 _ rfl; (with_reducible repeat (first | refine blk_drewN ?_ _ | refine blk_drew ?_ | refine blk_alloc ?_ _)); refine blk_put (cs := #[.int .u8 6, .int .u8 0, .int .i64 0, .int .i64 0, .slice none 0 0]) ?_ 3 _ rfl; (with_reducible repeat (first | refine blk_drewN ?_ _ | refine blk_drew ?_ | refine blk_alloc ?_ _)); refine blk_put (cs := #[.int .u8 6, .int .u8 0, .int .i64 0, .int .i64 0, .slice none 0 0]) ?_ 2 _ rfl; (with_reducible repeat (first | refine blk_drewN ?_ _ | refine blk_drew ?_ | refine blk_alloc ?_ _)); refine blk_put (cs := #[.int .u8 6, .int .u8 0, .int .i64 0, .int .i64 0, .slice none 0 0]) ?_ 1 _ rfl; (with_reducible repeat (first | refine blk_drewN ?_ _ | refine blk_drew ?_ | refine blk_alloc ?_ _)); refine blk_put (cs := #[.int .u8 0, .int .u8 0, .int .i64 0, .int .i64 0, .slice none 0 0]) ?_ 0 _ rfl; (with_reducible repeat (first | refine blk_drewN ?_ _ | refine blk_drew ?_ | refine blk_alloc ?_ _)); exact BK140.out) hb); have n2_ := Aside0.mk (below_step (by repeat (first | (with_reducible first | exact HB.out | apply below_alloc | apply pw_below_drewN | apply below_drew1 | refine below_set ?_ GE140.out) | exact HB.out)) hb); clear BK140; clear HB; have HO143 := n0_; have BK140 := n1_; have HB := n2_; clear n0_ n1_ n2_; (try clear hb); (try clear hb2); (try clear hk); (try clear hi); (try clear ho0); have hcz24_0 : w23.cell? ⟨gb140, 0, none⟩ = some (.int .u8 6) := (blk_cell BK140.out 0).trans rfl; have hcz24_1 : w23.cell? ⟨gb140, 1, none⟩ = some (.int .u8 0) := (blk_cell BK140.out 1).trans rfl; have hcz24_2 : w23.cell? ⟨gb140, 2, none⟩ = some (.int .i64 0) := (blk_cell BK140.out 2).trans rfl; have hcz24_3 : w23.cell? ⟨gb140, 3, none⟩ = some (.int .i64 0) := (blk_cell BK140.out 3).trans rfl; have hcz24_4 : w23.cell? ⟨gb140, 4, none⟩ = some (.slice none 0 0) := (blk_cell BK140.out 4).trans rfl; have hfz24_0 := blk_frozen BK140.out 0; have hfz24_1 := blk_frozen BK140.out 1; have hfz24_2 := blk_frozen BK140.out 2; have hfz24_3 := blk_frozen BK140.out 3; have hfz24_4 := blk_frozen BK140.out 4) | (go_at_call 12; (with_reducible show Calls Try.prog 12 #[.agg #[.int .u8 6, .int .u8 0, .int .i64 0, .int .i64 0, _], _] (World.alloc _ (.cells #[.slice _ (List.length l1) _, .slice _ (List.length l0) _] 28)) _); (refine (opers_Run2.calls 6 0 0 0 _ _ ([] : List Int) _ _ l1 _ _ l0 t145 t148 _ ?side1 ?side2 ?side3 ?side4 ?side5 ?side6 A11.out).mono ?_); (case side1 => exact Kd.C_nil _ _); (case side2 => exact Nat.le_refl _); (case side3 => repeat (first | exact (Kd.C_below HR1.out HB.out) | (with_reducible refine Kd.C_alloc ?_ _) | (with_reducible refine Kd.C_drewN ?_ _) | (with_reducible refine Kd.C_drew ?_))); (case side4 => exact HC1.out); (case side5 => repeat (first | exact (Kd.C_below HR0.out HB.out) | (with_reducible refine Kd.C_alloc ?_ _) | (with_reducible refine Kd.C_drewN ?_ _) | (with_reducible refine Kd.C_drew ?_))); (case side6 => exact HC0.out); rintro e w25 ⟨v146, rfl, ho0, hb⟩; have n0_ := Aside0.mk (Kd.R_elder' (by (with_reducible repeat (first | apply Kd.R_alloc | apply Kd.R_drewN | apply Kd.R_drew)); exact HO143.out) (Kd.R_base ho0) hb); have n1_ := Aside0.mk (Kd.R_lower (Kd.R_new' ho0 (Kd.R_lt (by (with_reducible repeat (first | apply Kd.R_alloc | apply Kd.R_drewN | apply Kd.R_drew)); exact HO143.out))) (below_size (by repeat (first | (with_reducible first | exact HB.out | apply below_alloc | apply pw_below_drewN | apply below_drew1 | refine below_set ?_ GE140.out) | exact HB.out)))); have n2_ := Aside0.mk (blk_below (g := gb140) (o := .cells #[.int .u8 6, .int .u8 0, .int .i64 0, .int .i64 0, .slice none 0 0] 24 (0, 0)) (by (with_reducible repeat (first | refine blk_drewN ?_ _ | refine blk_drew ?_ | refine blk_alloc ?_ _)); exact BK140.out) hb); have n3_ := Aside0.mk (below_step (by repeat (first | (with_reducible first | exact HB.out | apply below_alloc | apply pw_below_drewN | apply below_drew1 | refine below_set ?_ GE140.out) | exact HB.out)) hb); clear HO143; clear BK140; clear HB; have HO143 := n0_; have HO147 := n1_; have BK140 := n2_; have HB := n3_; clear n0_ n1_ n2_ n3_; (try clear hb); (try clear hb2); (try clear hk); (try clear hi); (try clear ho0)))
              have n0_ := Aside0.mk (Kd.R_drew HO143.out)
              have n1_ := Aside0.mk (Kd.R_drew HO147.out)
              have n2_ := Aside0.mk (blk_drew BK140.out)
              have n3_ := Aside0.mk (below_drew1 HB.out)
              clear HO143
              clear HO147
              clear BK140
              clear HB
              have HO143 := n0_
              have HO147 := n1_
              have BK140 := n2_
              have HB := n3_
              clear n0_ n1_ n2_ n3_
              have q27 : ((ji12) : Int) ≤ ((l0.length : Int) : Int) := of_decide_eq_true (by first | (with_reducible assumption) | assumption)
              obtain ⟨i027, hi027, _, hsz27, _⟩ := info_parts info36
              have hroom27 : l0.length ≤ c0 := HC0.out
              have hC27 : Kd.C k36 _ A0 l0.length l0 := HR0.out
              have hcut27 := cut_to (P := Try.prog) 28 36 .i64 Try.underlying28 hi027 A0 l0.length c0 (ji12) (of_decide_eq_true (by first | (with_reducible assumption) | assumption)) q27 hroom27
              have hr27 := Kd.C_take (m := ((ji12) : Int).toNat) hC27 (by omega)
              have hy27 : y149.length = ((ji12) : Int).toNat := (by rw [Ny149.out, List.length_take]; omega)
              rw [← Ny149.out] at hr27
              rw [← hy27] at hcut27
              have HR152 := Aside0.mk hr27
              have HC152 := Aside0.mk (show y149.length ≤ c0 from by omega)
              clear hr27 hC27 hroom27 hi027 hsz27
              have KY27 := Aside0.mk hy27
              clear hy27
              replace q27 := eq_true q27
              refine start_ (n := 12) (S := fun w' => w'.cell? ⟨gb140, 0, none⟩ = some (.int .u8 6) ∧ w'.cell? ⟨gb140, 1, none⟩ = some (.int .u8 0) ∧ w'.cell? ⟨gb140, 2, none⟩ = some (.int .i64 0) ∧ w'.cell? ⟨gb140, 3, none⟩ = some (.int .i64 0) ∧ w'.cell? ⟨gb140, 4, none⟩ = some (.slice none 0 0)) (ds := []) #[false, false, false, false, false, false, false, false, false, false, false, false] (by kernel_rfl) rfl rfl ⟨(blk_cell BK140.out 0).trans rfl, (blk_cell BK140.out 1).trans rfl, (blk_cell BK140.out 2).trans rfl, (blk_cell BK140.out 3).trans rfl, (blk_cell BK140.out 4).trans rfl⟩ (fun hHeld => ?_); refine with_tabW tailracelaw13_OpersJoins.tab7 tailracelaw13_OpersJoins.bits7 (fun HT_ HW_ => ?_)
              generalize w25.drew = w26 at HO143 HO147 BK140 HB HR152 hHeld ⊢
              refine pure_ (i := 1) (N := some 58) (v := ?_) (a' := ?_) #[false, true, false, false, false, false, false, false, false, false, false, false] rfl rfl (any_of HT_.out (by kernel_rfl)) (fun _ _ _ h => h) (Or.inl ⟨by rfl, ?_⟩) ?_ ?_
              rotate_left
              · intro w'
                go_simp
                with_reducible rfl
              rotate_left
              · simp only [Act.put, List.setIfInBounds_toArray, List.set_cons_zero, List.set_cons_succ, i64_w, i32_w]
                rfl
              refine pure_ (i := 2) (N := some 59) (v := ?_) (a' := ?_) #[false, true, true, false, false, false, false, false, false, false, false, false] rfl rfl (any_of HT_.out (by kernel_rfl)) (fun _ _ _ h => h) (Or.inl ⟨by rfl, ?_⟩) ?_ ?_
              rotate_left
              · intro w'
                go_simp
                with_reducible rfl
              rotate_left
              · simp only [Act.put, List.setIfInBounds_toArray, List.set_cons_zero, List.set_cons_succ, i64_w, i32_w]
                rfl
              refine pure_ (i := 3) (N := some 60) (v := ?_) (a' := ?_) #[false, true, true, true, false, false, false, false, false, false, false, false] rfl rfl (any_of HT_.out (by kernel_rfl)) (fun _ _ _ h => h) (Or.inl ⟨by rfl, ?_⟩) ?_ ?_
              rotate_left
              · intro w'
                go_simp
                with_reducible rfl
              rotate_left
              · simp only [Act.put, List.setIfInBounds_toArray, List.set_cons_zero, List.set_cons_succ, i64_w, i32_w]
                rfl
              refine pure_ (i := 4) (N := some 61) (v := ?_) (a' := ?_) #[false, true, true, true, true, false, false, false, false, false, false, false] rfl rfl (any_of HT_.out (by kernel_rfl)) (fun _ _ _ h => h) (Or.inl ⟨by rfl, ?_⟩) ?_ ?_
              rotate_left
              · intro w'
                go_simp
                with_reducible rfl
              rotate_left
              · simp only [Act.put, List.setIfInBounds_toArray, List.set_cons_zero, List.set_cons_succ, i64_w, i32_w]
                rfl
              refine take_ (i := 0) (N := some 57) (v := ?_) (a' := ?_) #[true, true, true, true, true, false, false, false, false, false, false, false] rfl rfl (take_ofW HT_.out HW_.out (by kernel_rfl)) (fun _ _ _ h => h) (Or.inl ⟨by rfl, ?_⟩) hHeld ?_ ?_
              rotate_left
              · rintro w' ⟨s0, s1, s2, s3, s4⟩
                go_simp
                with_reducible rfl
              rotate_left
              · simp only [Act.put, List.setIfInBounds_toArray, List.set_cons_zero, List.set_cons_succ, i64_w, i32_w]
                rfl
              refine one_ (i := 5) (N := some 62) #[true, true, true, true, true, true, false, false, false, false, false, false] rfl rfl (one_of HT_.out (by kernel_rfl)) (by decide) (fun K hK => ?_)
              refine lit_ (by rfl) rfl (by go_simp; exact ⟨rfl, rfl⟩) ?_
              refine hK.out _ _ ⟨(blk_cell (blk_alloc BK140.out _) 0).trans rfl, (blk_cell (blk_alloc BK140.out _) 1).trans rfl, (blk_cell (blk_alloc BK140.out _) 2).trans rfl, (blk_cell (blk_alloc BK140.out _) 3).trans rfl, (blk_cell (blk_alloc BK140.out _) 4).trans rfl⟩ (fun hHeld => ?_)
              clear hK K
              refine norm_ (a' := ?_) ?_ ?_
              rotate_left
              · show Act.put _ (some 62) _ = _
                simp only [Act.put, List.setIfInBounds_toArray, List.set_cons_zero, List.set_cons_succ, i64_w, i32_w]
                rfl
              refine one_ (i := 6) (N := some 63) #[true, true, true, true, true, true, true, false, false, false, false, false] rfl rfl (one_of HT_.out (by kernel_rfl)) (by decide) (fun K hK => ?_)
              refine goes_ Try.func12 (by kernel_rfl) rfl #[.agg #[.int .u8 6, .int .u8 0, .int .i64 0, .int .i64 0, .slice none 0 0], .slice (some ⟨w26.heap.size, 0, none⟩) 2 2] (by rfl) rfl rfl (by (try simp only [List.map_toArray, List.map_cons, List.map_nil]); first | done | rfl | (simp only [List.length_drop, List.length_take]; rfl)) ?_
              refine (opers_Run2.calls 6 0 0 0 _ _ ([] : List Int) _ _ y149 _ _ l1 t153 t156 _ ?side1 ?side2 ?side3 ?side4 ?side5 ?side6 A15.out).mono ?_
              (case side1 => exact Kd.C_nil _ _)
              (case side2 => exact Nat.le_refl _)
              (case side3 => repeat (first | exact (Kd.C_below HR152.out HB.out) | (with_reducible refine Kd.C_alloc ?_ _) | (with_reducible refine Kd.C_drewN ?_ _) | (with_reducible refine Kd.C_drew ?_)))
              (case side4 => exact HC152.out)
              (case side5 => repeat (first | exact (Kd.C_below HR1.out HB.out) | (with_reducible refine Kd.C_alloc ?_ _) | (with_reducible refine Kd.C_drewN ?_ _) | (with_reducible refine Kd.C_drew ?_)))
              (case side6 => exact HC1.out)
              rintro e w28 ⟨v154, rfl, ho0, hb⟩
              refine ⟨_, rfl, ?_⟩
              have n0_ := Aside0.mk (Kd.R_elder' (by (with_reducible repeat (first | apply Kd.R_alloc | apply Kd.R_drewN | apply Kd.R_drew)); exact HO143.out) (Kd.R_base ho0) hb)
              have n1_ := Aside0.mk (Kd.R_elder' (by (with_reducible repeat (first | apply Kd.R_alloc | apply Kd.R_drewN | apply Kd.R_drew)); exact HO147.out) (Kd.R_base ho0) hb)
              have n2_ := Aside0.mk (Kd.R_lower (Kd.R_new' (Kd.R_new' ho0 (Kd.R_lt (by (with_reducible repeat (first | apply Kd.R_alloc | apply Kd.R_drewN | apply Kd.R_drew)); exact HO143.out))) (Kd.R_lt (by (with_reducible repeat (first | apply Kd.R_alloc | apply Kd.R_drewN | apply Kd.R_drew)); exact HO147.out))) (below_size (by repeat (first | (with_reducible first | exact HB.out | apply below_alloc | apply pw_below_drewN | apply below_drew1 | refine below_set ?_ GE140.out) | exact HB.out))))
              have n3_ := Aside0.mk (blk_below (g := gb140) (o := .cells #[.int .u8 6, .int .u8 0, .int .i64 0, .int .i64 0, .slice none 0 0] 24 (0, 0)) (by (with_reducible repeat (first | refine blk_drewN ?_ _ | refine blk_drew ?_ | refine blk_alloc ?_ _)); exact BK140.out) hb)
              have n4_ := Aside0.mk (below_step (by repeat (first | (with_reducible first | exact HB.out | apply below_alloc | apply pw_below_drewN | apply below_drew1 | refine below_set ?_ GE140.out) | exact HB.out)) hb)
              clear HO143
              clear HO147
              clear BK140
              clear HB
              have HO143 := n0_
              have HO147 := n1_
              have HO155 := n2_
              have BK140 := n3_
              have HB := n4_
              clear n0_ n1_ n2_ n3_ n4_
              (try clear hb)
              (try clear hb2)
              (try clear hk)
              (try clear hi)
              (try clear ho0)
              refine hK.out _ _ ⟨(blk_cell BK140.out 0).trans rfl, (blk_cell BK140.out 1).trans rfl, (blk_cell BK140.out 2).trans rfl, (blk_cell BK140.out 3).trans rfl, (blk_cell BK140.out 4).trans rfl⟩ (fun hHeld => ?_)
              clear hK K
              refine norm_ (a' := ?_) ?_ ?_
              rotate_left
              · show Act.put _ (some 63) _ = _
                simp only [Act.put, List.setIfInBounds_toArray, List.set_cons_zero, List.set_cons_succ, i64_w, i32_w]
                rfl
              refine pure_ (i := 7) (N := some 56) (v := ?_) (a' := ?_) #[true, true, true, true, true, true, true, true, false, false, false, false] rfl rfl (any_of HT_.out (by kernel_rfl)) (fun _ _ _ h => h) (Or.inl ⟨by rfl, ?_⟩) ?_ ?_
              rotate_left
              · intro w'
                go_simp
                with_reducible rfl
              rotate_left
              · simp only [Act.put, List.setIfInBounds_toArray, List.set_cons_zero, List.set_cons_succ, i64_w, i32_w]
                rfl
              refine pure_ (i := 8) (N := some 64) (v := ?_) (a' := ?_) #[true, true, true, true, true, true, true, true, true, false, false, false] rfl rfl (any_of HT_.out (by kernel_rfl)) (fun _ _ _ h => h) (Or.inl ⟨by rfl, ?_⟩) ?_ ?_
              rotate_left
              · intro w'
                go_simp
                with_reducible rfl
              rotate_left
              · simp only [Act.put, List.setIfInBounds_toArray, List.set_cons_zero, List.set_cons_succ, i64_w, i32_w]
                rfl
              refine pure_ (i := 9) (N := some 65) (v := ?_) (a' := ?_) #[true, true, true, true, true, true, true, true, true, true, false, false] rfl rfl (any_of HT_.out (by kernel_rfl)) (fun _ _ _ h => h) (Or.inl ⟨by rfl, ?_⟩) ?_ ?_
              rotate_left
              · intro w'
                go_simp
                with_reducible rfl
              rotate_left
              · simp only [Act.put, List.setIfInBounds_toArray, List.set_cons_zero, List.set_cons_succ, i64_w, i32_w]
                rfl
              refine pure_ (i := 10) (N := some 13) (v := ?_) (a' := ?_) #[true, true, true, true, true, true, true, true, true, true, true, false] rfl rfl (any_of HT_.out (by kernel_rfl)) (fun _ _ _ h => h) (Or.inl ⟨by rfl, ?_⟩) ?_ ?_
              rotate_left
              · intro w'
                go_simp
                with_reducible rfl
              rotate_left
              · simp only [Act.put, List.setIfInBounds_toArray, List.set_cons_zero, List.set_cons_succ, i64_w, i32_w]
                rfl
              refine pure_ (i := 11) (N := some 14) (v := ?_) (a' := ?_) #[true, true, true, true, true, true, true, true, true, true, true, true] rfl rfl (any_of HT_.out (by kernel_rfl)) (fun _ _ _ h => h) (Or.inl ⟨by rfl, ?_⟩) ?_ ?_
              rotate_left
              · intro w'
                go_simp
                with_reducible rfl
              rotate_left
              · simp only [Act.put, List.setIfInBounds_toArray, List.set_cons_zero, List.set_cons_succ, i64_w, i32_w]
                rfl
              refine done_ (done_of HT_.out (by kernel_rfl)) ?_
              try go_wp2
              have n0_ := Aside0.mk (Kd.R_drew HO143.out)
              have n1_ := Aside0.mk (Kd.R_drew HO147.out)
              have n2_ := Aside0.mk (Kd.R_drew HO155.out)
              have n3_ := Aside0.mk (blk_drew BK140.out)
              have n4_ := Aside0.mk (below_drew1 HB.out)
              clear HO143
              clear HO147
              clear HO155
              clear BK140
              clear HB
              have HO143 := n0_
              have HO147 := n1_
              have HO155 := n2_
              have BK140 := n3_
              have HB := n4_
              clear n0_ n1_ n2_ n3_ n4_
              have q30 : ((ji12) : Int) ≤ ((l0.length : Int) : Int) := of_decide_eq_true (by first | (with_reducible assumption) | assumption)
              obtain ⟨i030, hi030, _, hsz30, _⟩ := info_parts info36
              have hroom30 : l0.length ≤ c0 := HC0.out
              have hC30 : Kd.C k36 _ A0 l0.length l0 := HR0.out
              have q030 : (0 : Int) ≤ ((ji12) : Int) := of_decide_eq_true (by first | (with_reducible assumption) | assumption)
              have hcut30 := cut_from (P := Try.prog) 28 36 .i64 Try.underlying28 hi030 2 hsz30 A0 l0.length c0 (ji12) q030 q30
              have hr30 := Kd.C_drop (m := ((ji12) : Int).toNat) (c := c0) hC30 (by omega) hroom30
              obtain ⟨A30, hA30⟩ : ∃ Az_, Az_ = (if c0 = ((ji12) : Int).toNat then A0 else (A0 : Option Addr).map (·.add (((ji12) : Int).toNat * 2))) := ⟨_, rfl⟩
              obtain ⟨c30, hc30⟩ : ∃ c1, c1 = c0 - ((ji12) : Int).toNat := ⟨_, rfl⟩
              have hy30 : y157.length = l0.length - ((ji12) : Int).toNat := (by rw [Ny157.out, List.length_drop] <;> omega)
              rw [show (l0).drop ((ji12) : Int).toNat = y157 from Ny157.out.symm] at hr30
              replace hr30 : Kd.C k36 _ A30 y157.length y157 := (by rw [hA30]; exact hr30)
              rw [← hy30, ← hA30, ← hc30] at hcut30
              have HR160 := Aside0.mk hr30
              have HC160 := Aside0.mk (show y157.length ≤ c30 from by rw [hy30, hc30]; exact Nat.sub_le_sub_right hroom30 _)
              clear hr30 hC30 hroom30 hi030 hsz30 hc30
              have KY30 := Aside0.mk hy30
              have KA30 := Aside0.mk hA30
              clear hy30 hA30
              replace q30 := eq_true q30
              refine start_ (n := 12) (S := fun w' => w'.cell? ⟨gb140, 0, none⟩ = some (.int .u8 6) ∧ w'.cell? ⟨gb140, 1, none⟩ = some (.int .u8 0) ∧ w'.cell? ⟨gb140, 2, none⟩ = some (.int .i64 0) ∧ w'.cell? ⟨gb140, 3, none⟩ = some (.int .i64 0) ∧ w'.cell? ⟨gb140, 4, none⟩ = some (.slice none 0 0)) (ds := []) #[false, false, false, false, false, false, false, false, false, false, false, false] (by kernel_rfl) rfl rfl ⟨(blk_cell BK140.out 0).trans rfl, (blk_cell BK140.out 1).trans rfl, (blk_cell BK140.out 2).trans rfl, (blk_cell BK140.out 3).trans rfl, (blk_cell BK140.out 4).trans rfl⟩ (fun hHeld => ?_); refine with_tabW tailracelaw13_OpersJoins.tab8 tailracelaw13_OpersJoins.bits8 (fun HT_ HW_ => ?_)
              generalize w28.drew = w29 at HO143 HO147 HO155 BK140 HB HR160 hHeld ⊢
              refine pure_ (i := 1) (N := some 68) (v := ?_) (a' := ?_) #[false, true, false, false, false, false, false, false, false, false, false, false] rfl rfl (any_of HT_.out (by kernel_rfl)) (fun _ _ _ h => h) (Or.inl ⟨by rfl, ?_⟩) ?_ ?_
              rotate_left
              · intro w'
                go_simp
                with_reducible rfl
              rotate_left
              · simp only [Act.put, List.setIfInBounds_toArray, List.set_cons_zero, List.set_cons_succ, i64_w, i32_w]
                rfl
              refine pure_ (i := 2) (N := some 69) (v := ?_) (a' := ?_) #[false, true, true, false, false, false, false, false, false, false, false, false] rfl rfl (any_of HT_.out (by kernel_rfl)) (fun _ _ _ h => h) (Or.inl ⟨by rfl, ?_⟩) ?_ ?_
              rotate_left
              · intro w'
                go_simp
                with_reducible rfl
              rotate_left
              · simp only [Act.put, List.setIfInBounds_toArray, List.set_cons_zero, List.set_cons_succ, i64_w, i32_w]
                rfl
              refine pure_ (i := 3) (N := some 70) (v := ?_) (a' := ?_) #[false, true, true, true, false, false, false, false, false, false, false, false] rfl rfl (any_of HT_.out (by kernel_rfl)) (fun _ _ _ h => h) (Or.inl ⟨by rfl, ?_⟩) ?_ ?_
              rotate_left
              · intro w'
                go_simp
                with_reducible rfl
              rotate_left
              · simp only [Act.put, List.setIfInBounds_toArray, List.set_cons_zero, List.set_cons_succ, i64_w, i32_w]
                rfl
              refine pure_ (i := 4) (N := some 71) (v := ?_) (a' := ?_) #[false, true, true, true, true, false, false, false, false, false, false, false] rfl rfl (any_of HT_.out (by kernel_rfl)) (fun _ _ _ h => h) (Or.inl ⟨by rfl, ?_⟩) ?_ ?_
              rotate_left
              · intro w'
                go_simp
                with_reducible rfl
              rotate_left
              · simp only [Act.put, List.setIfInBounds_toArray, List.set_cons_zero, List.set_cons_succ, i64_w, i32_w]
                rfl
              refine take_ (i := 0) (N := some 67) (v := ?_) (a' := ?_) #[true, true, true, true, true, false, false, false, false, false, false, false] rfl rfl (take_ofW HT_.out HW_.out (by kernel_rfl)) (fun _ _ _ h => h) (Or.inl ⟨by rfl, ?_⟩) hHeld ?_ ?_
              rotate_left
              · rintro w' ⟨s0, s1, s2, s3, s4⟩
                go_simp
                with_reducible rfl
              rotate_left
              · simp only [Act.put, List.setIfInBounds_toArray, List.set_cons_zero, List.set_cons_succ, i64_w, i32_w]
                rfl
              refine one_ (i := 5) (N := some 72) #[true, true, true, true, true, true, false, false, false, false, false, false] rfl rfl (one_of HT_.out (by kernel_rfl)) (by decide) (fun K hK => ?_)
              refine lit_ (by rfl) rfl (by go_simp; exact ⟨rfl, rfl⟩) ?_
              refine hK.out _ _ ⟨(blk_cell (blk_alloc BK140.out _) 0).trans rfl, (blk_cell (blk_alloc BK140.out _) 1).trans rfl, (blk_cell (blk_alloc BK140.out _) 2).trans rfl, (blk_cell (blk_alloc BK140.out _) 3).trans rfl, (blk_cell (blk_alloc BK140.out _) 4).trans rfl⟩ (fun hHeld => ?_)
              clear hK K
              refine norm_ (a' := ?_) ?_ ?_
              rotate_left
              · show Act.put _ (some 72) _ = _
                simp only [Act.put, List.setIfInBounds_toArray, List.set_cons_zero, List.set_cons_succ, i64_w, i32_w]
                rfl
              refine one_ (i := 6) (N := some 73) #[true, true, true, true, true, true, true, false, false, false, false, false] rfl rfl (one_of HT_.out (by kernel_rfl)) (by decide) (fun K hK => ?_)
              refine goes_ Try.func12 (by kernel_rfl) rfl #[.agg #[.int .u8 6, .int .u8 0, .int .i64 0, .int .i64 0, .slice none 0 0], .slice (some ⟨w29.heap.size, 0, none⟩) 2 2] (by rfl) rfl rfl (by (try simp only [List.map_toArray, List.map_cons, List.map_nil]); first | done | rfl | (simp only [List.length_drop, List.length_take]; rfl)) ?_
              refine (opers_Run2.calls 6 0 0 0 _ _ ([] : List Int) _ _ y157 _ _ l1 t161 t164 _ ?side1 ?side2 ?side3 ?side4 ?side5 ?side6 A18.out).mono ?_
              (case side1 => exact Kd.C_nil _ _)
              (case side2 => exact Nat.le_refl _)
              (case side3 => repeat (first | exact (Kd.C_below HR160.out HB.out) | (with_reducible refine Kd.C_alloc ?_ _) | (with_reducible refine Kd.C_drewN ?_ _) | (with_reducible refine Kd.C_drew ?_)))
              (case side4 => exact HC160.out)
              (case side5 => repeat (first | exact (Kd.C_below HR1.out HB.out) | (with_reducible refine Kd.C_alloc ?_ _) | (with_reducible refine Kd.C_drewN ?_ _) | (with_reducible refine Kd.C_drew ?_)))
              (case side6 => exact HC1.out)
              rintro e w31 ⟨v162, rfl, ho0, hb⟩
              refine ⟨_, rfl, ?_⟩
              have n0_ := Aside0.mk (Kd.R_elder' (by (with_reducible repeat (first | apply Kd.R_alloc | apply Kd.R_drewN | apply Kd.R_drew)); exact HO143.out) (Kd.R_base ho0) hb)
              have n1_ := Aside0.mk (Kd.R_elder' (by (with_reducible repeat (first | apply Kd.R_alloc | apply Kd.R_drewN | apply Kd.R_drew)); exact HO147.out) (Kd.R_base ho0) hb)
              have n2_ := Aside0.mk (Kd.R_elder' (by (with_reducible repeat (first | apply Kd.R_alloc | apply Kd.R_drewN | apply Kd.R_drew)); exact HO155.out) (Kd.R_base ho0) hb)
              have n3_ := Aside0.mk (Kd.R_lower (Kd.R_new' (Kd.R_new' (Kd.R_new' ho0 (Kd.R_lt (by (with_reducible repeat (first | apply Kd.R_alloc | apply Kd.R_drewN | apply Kd.R_drew)); exact HO143.out))) (Kd.R_lt (by (with_reducible repeat (first | apply Kd.R_alloc | apply Kd.R_drewN | apply Kd.R_drew)); exact HO147.out))) (Kd.R_lt (by (with_reducible repeat (first | apply Kd.R_alloc | apply Kd.R_drewN | apply Kd.R_drew)); exact HO155.out))) (below_size (by repeat (first | (with_reducible first | exact HB.out | apply below_alloc | apply pw_below_drewN | apply below_drew1 | refine below_set ?_ GE140.out) | exact HB.out))))
              have n4_ := Aside0.mk (blk_below (g := gb140) (o := .cells #[.int .u8 6, .int .u8 0, .int .i64 0, .int .i64 0, .slice none 0 0] 24 (0, 0)) (by (with_reducible repeat (first | refine blk_drewN ?_ _ | refine blk_drew ?_ | refine blk_alloc ?_ _)); exact BK140.out) hb)
              have n5_ := Aside0.mk (below_step (by repeat (first | (with_reducible first | exact HB.out | apply below_alloc | apply pw_below_drewN | apply below_drew1 | refine below_set ?_ GE140.out) | exact HB.out)) hb)
              clear HO143
              clear HO147
              clear HO155
              clear BK140
              clear HB
              have HO143 := n0_
              have HO147 := n1_
              have HO155 := n2_
              have HO163 := n3_
              have BK140 := n4_
              have HB := n5_
              clear n0_ n1_ n2_ n3_ n4_ n5_
              (try clear hb)
              (try clear hb2)
              (try clear hk)
              (try clear hi)
              (try clear ho0)
              refine hK.out _ _ ⟨(blk_cell BK140.out 0).trans rfl, (blk_cell BK140.out 1).trans rfl, (blk_cell BK140.out 2).trans rfl, (blk_cell BK140.out 3).trans rfl, (blk_cell BK140.out 4).trans rfl⟩ (fun hHeld => ?_)
              clear hK K
              refine norm_ (a' := ?_) ?_ ?_
              rotate_left
              · show Act.put _ (some 73) _ = _
                simp only [Act.put, List.setIfInBounds_toArray, List.set_cons_zero, List.set_cons_succ, i64_w, i32_w]
                rfl
              refine pure_ (i := 7) (N := some 66) (v := ?_) (a' := ?_) #[true, true, true, true, true, true, true, true, false, false, false, false] rfl rfl (any_of HT_.out (by kernel_rfl)) (fun _ _ _ h => h) (Or.inl ⟨by rfl, ?_⟩) ?_ ?_
              rotate_left
              · intro w'
                go_simp
                with_reducible rfl
              rotate_left
              · simp only [Act.put, List.setIfInBounds_toArray, List.set_cons_zero, List.set_cons_succ, i64_w, i32_w]
                rfl
              refine pure_ (i := 8) (N := some 74) (v := ?_) (a' := ?_) #[true, true, true, true, true, true, true, true, true, false, false, false] rfl rfl (any_of HT_.out (by kernel_rfl)) (fun _ _ _ h => h) (Or.inl ⟨by rfl, ?_⟩) ?_ ?_
              rotate_left
              · intro w'
                go_simp
                with_reducible rfl
              rotate_left
              · simp only [Act.put, List.setIfInBounds_toArray, List.set_cons_zero, List.set_cons_succ, i64_w, i32_w]
                rfl
              refine pure_ (i := 9) (N := some 75) (v := ?_) (a' := ?_) #[true, true, true, true, true, true, true, true, true, true, false, false] rfl rfl (any_of HT_.out (by kernel_rfl)) (fun _ _ _ h => h) (Or.inl ⟨by rfl, ?_⟩) ?_ ?_
              rotate_left
              · intro w'
                go_simp
                with_reducible rfl
              rotate_left
              · simp only [Act.put, List.setIfInBounds_toArray, List.set_cons_zero, List.set_cons_succ, i64_w, i32_w]
                rfl
              refine pure_ (i := 10) (N := some 15) (v := ?_) (a' := ?_) #[true, true, true, true, true, true, true, true, true, true, true, false] rfl rfl (any_of HT_.out (by kernel_rfl)) (fun _ _ _ h => h) (Or.inl ⟨by rfl, ?_⟩) ?_ ?_
              rotate_left
              · intro w'
                go_simp
                with_reducible rfl
              rotate_left
              · simp only [Act.put, List.setIfInBounds_toArray, List.set_cons_zero, List.set_cons_succ, i64_w, i32_w]
                rfl
              refine pure_ (i := 11) (N := some 16) (v := ?_) (a' := ?_) #[true, true, true, true, true, true, true, true, true, true, true, true] rfl rfl (any_of HT_.out (by kernel_rfl)) (fun _ _ _ h => h) (Or.inl ⟨by rfl, ?_⟩) ?_ ?_
              rotate_left
              · intro w'
                go_simp
                with_reducible rfl
              rotate_left
              · simp only [Act.put, List.setIfInBounds_toArray, List.set_cons_zero, List.set_cons_succ, i64_w, i32_w]
                rfl
              refine done_ (done_of HT_.out (by kernel_rfl)) ?_
              have hcz32_0 : w31.cell? ⟨gb140, 0, none⟩ = some (.int .u8 6) := (blk_cell BK140.out 0).trans rfl
              have hcz32_1 : w31.cell? ⟨gb140, 1, none⟩ = some (.int .u8 0) := (blk_cell BK140.out 1).trans rfl
              have hcz32_2 : w31.cell? ⟨gb140, 2, none⟩ = some (.int .i64 0) := (blk_cell BK140.out 2).trans rfl
              have hcz32_3 : w31.cell? ⟨gb140, 3, none⟩ = some (.int .i64 0) := (blk_cell BK140.out 3).trans rfl
              have hcz32_4 : w31.cell? ⟨gb140, 4, none⟩ = some (.slice none 0 0) := (blk_cell BK140.out 4).trans rfl
              have hfz32_0 := blk_frozen BK140.out 0
              have hfz32_1 := blk_frozen BK140.out 1
              have hfz32_2 := blk_frozen BK140.out 2
              have hfz32_3 := blk_frozen BK140.out 3
              have hfz32_4 := blk_frozen BK140.out 4
              go_upto_region 10 with (first | (go_at_call 12; (with_reducible show Calls Try.prog 12 #[.agg #[.int .u8 6, .int .u8 0, .int .i64 0, .int .i64 0, _], _] (World.alloc _ (.cells #[.slice _ (List.length l0) _, .slice _ _ _] 28)) _); (refine (opers_Run2.calls 6 0 0 0 _ _ ([] : List Int) _ _ l0 _ _ ([] : List (S36)) t165 t168 _ ?side1 ?side2 ?side3 ?side4 ?side5 ?side6 A19.out).mono ?_); (case side1 => exact Kd.C_nil _ _); (case side2 => exact Nat.le_refl _); (case side3 => repeat (first | exact (Kd.C_below HR0.out HB.out) | (with_reducible refine Kd.C_alloc ?_ _) | (with_reducible refine Kd.C_drewN ?_ _) | (with_reducible refine Kd.C_drew ?_))); (case side4 => exact HC0.out); (case side5 => exact Kd.C_nil _ _); (case side6 => exact Nat.le_refl _); rintro e w33 ⟨v166, rfl, ho0, hb⟩; have n0_ := Aside0.mk (Kd.R_elder' (by (with_reducible repeat (first | apply Kd.R_alloc | apply Kd.R_drewN | apply Kd.R_drew)); exact HO143.out) (Kd.R_base ho0) hb); have n1_ := Aside0.mk (Kd.R_elder' (by (with_reducible repeat (first | apply Kd.R_alloc | apply Kd.R_drewN | apply Kd.R_drew)); exact HO147.out) (Kd.R_base ho0) hb); have n2_ := Aside0.mk (Kd.R_elder' (by (with_reducible repeat (first | apply Kd.R_alloc | apply Kd.R_drewN | apply Kd.R_drew)); exact HO155.out) (Kd.R_base ho0) hb); have n3_ := Aside0.mk (Kd.R_elder' (by (with_reducible repeat (first | apply Kd.R_alloc | apply Kd.R_drewN | apply Kd.R_drew)); exact HO163.out) (Kd.R_base ho0) hb); have n4_ := Aside0.mk (Kd.R_lower (Kd.R_new' (Kd.R_new' (Kd.R_new' (Kd.R_new' ho0 (Kd.R_lt (by (with_reducible repeat (first | apply Kd.R_alloc | apply Kd.R_drewN | apply Kd.R_drew)); exact HO143.out))) (Kd.R_lt (by (with_reducible repeat (first | apply Kd.R_alloc | apply Kd.R_drewN | apply Kd.R_drew)); exact HO147.out))) (Kd.R_lt (by (with_reducible repeat (first | apply Kd.R_alloc | apply Kd.R_drewN | apply Kd.R_drew)); exact HO155.out))) (Kd.R_lt (by (with_reducible repeat (first | apply Kd.R_alloc | apply Kd.R_drewN | apply Kd.R_drew)); exact HO163.out))) (below_size (by repeat (first | (with_reducible first | exact HB.out | apply below_alloc | apply pw_below_drewN | apply below_drew1 | refine below_set ?_ GE140.out) | exact HB.out)))); have n5_ := Aside0.mk (blk_below (g := gb140) (o := .cells #[.int .u8 6, .int .u8 0, .int .i64 0, .int .i64 0, .slice none 0 0] 24 (0, 0)) (by (with_reducible repeat (first | refine blk_drewN ?_ _ | refine blk_drew ?_ | refine blk_alloc ?_ _)); exact BK140.out) hb); have n6_ := Aside0.mk (below_step (by repeat (first | (with_reducible first | exact HB.out | apply below_alloc | apply pw_below_drewN | apply below_drew1 | refine below_set ?_ GE140.out) | exact HB.out)) hb); clear HO143; clear HO147; clear HO155; clear HO163; clear BK140; clear HB; have HO143 := n0_; have HO147 := n1_; have HO155 := n2_; have HO163 := n3_; have HO167 := n4_; have BK140 := n5_; have HB := n6_; clear n0_ n1_ n2_ n3_ n4_ n5_ n6_; (try clear hb); (try clear hb2); (try clear hk); (try clear hi); (try clear ho0)))
              (try simp only [Act.put, List.setIfInBounds_toArray, List.set_cons_zero, List.set_cons_succ])
              go_cut [104] (fun v104 wc => ∃ (kq : Nat) (x104_19 : Bool), v104 = .bool x104_19 ∧ Aside0 (tailracelaw13_OpersJoins.j1 kq l0 l1 t141 x104_19 = some r) ∧ Aside0 (kq ≤ kj3) ∧ Aside0 (Kd.R k36 36 wc w.heap.size (fun _ => True) v142 t141) ∧ Aside0 (wc.heap[gb140]? = some (.cells #[.int .u8 6, .int .u8 0, .int .i64 0, .int .i64 0, (.slice none 0 0)] 24 (0, 0))) ∧ Aside0 (Below w.heap.size w wc))
              case first =>
                as_aux_lemma =>
                have H := HC20.out
                clear HC20
                by_cases c34 : t144 = 0
                · as_aux_lemma =>
                  rw [if_pos c34] at H
                  have c34b0 : (t144 == 0) = true := beq_iff_eq.mpr c34
                  have c34b1 : (t144 != 0) = false := bne_eq_false_iff_eq.mpr c34
                  clear c34
                  (first | rw [c34b0] | (simp only [i64_w, i32_w]; rw [c34b0]) | skip)
                  replace H := Option.bind_eq_some_iff.mp H
                  obtain ⟨t169, A350, H⟩ := H
                  replace H : (if t169 = true then ((value_Add2.f t153 t161).bind fun t170 => ((tailraceref12_Alike.f kj3 t141 t170).bind fun t173 => (if t173 = true then (tailracelaw13_OpersJoins.j1 kj3 l0 l1 t141 (decide ((t165.length : Int) > 0))) else (tailracelaw13_OpersJoins.j1 kj3 l0 l1 t141 true)))) else (tailracelaw13_OpersJoins.j1 kj3 l0 l1 t141 true)) = some r := H
                  have A35 := Aside0.mk A350
                  clear A350
                  by_cases c36 : t169 = true
                  · subst c36
                    have H1 : ((value_Add2.f t153 t161).bind fun t170 => ((tailraceref12_Alike.f kj3 t141 t170).bind fun t173 => (if t173 = true then (tailracelaw13_OpersJoins.j1 kj3 l0 l1 t141 (decide ((t165.length : Int) > 0))) else (tailracelaw13_OpersJoins.j1 kj3 l0 l1 t141 true)))) = some r := by rw [if_pos rfl] at H; exact H
                    clear H
                    have H := H1
                    clear H1
                    replace H := Option.bind_eq_some_iff.mp H
                    obtain ⟨t170, A370, H⟩ := H
                    replace H : ((tailraceref12_Alike.f kj3 t141 t170).bind fun t173 => (if t173 = true then (tailracelaw13_OpersJoins.j1 kj3 l0 l1 t141 (decide ((t165.length : Int) > 0))) else (tailracelaw13_OpersJoins.j1 kj3 l0 l1 t141 true))) = some r := H
                    have A37 := Aside0.mk A370
                    clear A370
                    replace H := Option.bind_eq_some_iff.mp H
                    obtain ⟨t173, A380, H⟩ := H
                    replace H : (if t173 = true then (tailracelaw13_OpersJoins.j1 kj3 l0 l1 t141 (decide ((t165.length : Int) > 0))) else (tailracelaw13_OpersJoins.j1 kj3 l0 l1 t141 true)) = some r := H
                    have A38 := Aside0.mk A380
                    clear A380
                    by_cases c39 : t173 = true
                    · subst c39
                      have H1 : (tailracelaw13_OpersJoins.j1 kj3 l0 l1 t141 (decide ((t165.length : Int) > 0))) = some r := by rw [if_pos rfl] at H; exact H
                      clear H
                      have H := H1
                      clear H1
                      have H' := Aside0.mk H
                      clear H
                      obtain ⟨Ao40, co40, eo40⟩ := Kd.R_slice HO143.out
                      subst eo40
                      obtain ⟨Ao41, co41, eo41⟩ := Kd.R_slice HO147.out
                      subst eo41
                      go_wp2_with (first | (go_at_call 14; (with_reducible refine (tailraceref12_Alike.calls kj3 _ _ t141 _ _ t145 true _ ?side1 ?side2 ?side3 ?side4 A35.out).mono ?_); (case side1 => repeat (first | exact (Kd.R_reads' HO143.out).2.2 | (with_reducible refine Kd.C_alloc ?_ _) | (with_reducible refine Kd.C_drewN ?_ _) | (with_reducible refine Kd.C_drew ?_))); (case side2 => exact (Kd.R_reads' HO143.out).2.1); (case side3 => repeat (first | exact (Kd.R_reads' HO147.out).2.2 | (with_reducible refine Kd.C_alloc ?_ _) | (with_reducible refine Kd.C_drewN ?_ _) | (with_reducible refine Kd.C_drew ?_))); (case side4 => exact (Kd.R_reads' HO147.out).2.1); rintro e w' ⟨rfl, ⟨nd, rfl⟩⟩; obtain ⟨Ao42, co42, eo42⟩ := Kd.R_slice HO155.out; subst eo42; obtain ⟨Ao43, co43, eo43⟩ := Kd.R_slice HO163.out; subst eo43) | (go_at_call 21; (with_reducible show Calls Try.prog 21 _ (World.alloc _ (.cells #[.slice _ (List.length t153) _, .slice _ (List.length t161) _] 28)) _); (refine (value_Add2.calls _ _ t153 _ _ t161 t170 _ ?side1 ?side2 ?side3 ?side4 A37.out).mono ?_); (case side1 => repeat (first | exact (Kd.R_reads' HO155.out).2.2 | (with_reducible refine Kd.C_alloc ?_ _) | (with_reducible refine Kd.C_drewN ?_ _) | (with_reducible refine Kd.C_drew ?_))); (case side2 => exact (Kd.R_reads' HO155.out).2.1); (case side3 => repeat (first | exact (Kd.R_reads' HO163.out).2.2 | (with_reducible refine Kd.C_alloc ?_ _) | (with_reducible refine Kd.C_drewN ?_ _) | (with_reducible refine Kd.C_drew ?_))); (case side4 => exact (Kd.R_reads' HO163.out).2.1); rintro e w44 ⟨v171, rfl, ho0, hb⟩; have n0_ := Aside0.mk (Kd.R_elder' (by (with_reducible repeat (first | apply Kd.R_alloc | apply Kd.R_drewN | apply Kd.R_drew)); exact HO143.out) (Kd.R_base ho0) hb); have n1_ := Aside0.mk (Kd.R_elder' (by (with_reducible repeat (first | apply Kd.R_alloc | apply Kd.R_drewN | apply Kd.R_drew)); exact HO147.out) (Kd.R_base ho0) hb); have n2_ := Aside0.mk (Kd.R_elder' (by (with_reducible repeat (first | apply Kd.R_alloc | apply Kd.R_drewN | apply Kd.R_drew)); exact HO155.out) (Kd.R_base ho0) hb); have n3_ := Aside0.mk (Kd.R_elder' (by (with_reducible repeat (first | apply Kd.R_alloc | apply Kd.R_drewN | apply Kd.R_drew)); exact HO163.out) (Kd.R_base ho0) hb); have n4_ := Aside0.mk (Kd.R_elder' (by (with_reducible repeat (first | apply Kd.R_alloc | apply Kd.R_drewN | apply Kd.R_drew)); exact HO167.out) (Kd.R_base ho0) hb); have n5_ := Aside0.mk (Kd.R_lower (Kd.R_new' (Kd.R_new' (Kd.R_new' (Kd.R_new' (Kd.R_new' ho0 (Kd.R_lt (by (with_reducible repeat (first | apply Kd.R_alloc | apply Kd.R_drewN | apply Kd.R_drew)); exact HO143.out))) (Kd.R_lt (by (with_reducible repeat (first | apply Kd.R_alloc | apply Kd.R_drewN | apply Kd.R_drew)); exact HO147.out))) (Kd.R_lt (by (with_reducible repeat (first | apply Kd.R_alloc | apply Kd.R_drewN | apply Kd.R_drew)); exact HO155.out))) (Kd.R_lt (by (with_reducible repeat (first | apply Kd.R_alloc | apply Kd.R_drewN | apply Kd.R_drew)); exact HO163.out))) (Kd.R_lt (by (with_reducible repeat (first | apply Kd.R_alloc | apply Kd.R_drewN | apply Kd.R_drew)); exact HO167.out))) (below_size (by repeat (first | (with_reducible first | exact HB.out | apply below_alloc | apply pw_below_drewN | apply below_drew1 | refine below_set ?_ GE140.out) | exact HB.out)))); have n6_ := Aside0.mk (blk_below (g := gb140) (o := .cells #[.int .u8 6, .int .u8 0, .int .i64 0, .int .i64 0, .slice none 0 0] 24 (0, 0)) (by (with_reducible repeat (first | refine blk_drewN ?_ _ | refine blk_drew ?_ | refine blk_alloc ?_ _)); exact BK140.out) hb); have n7_ := Aside0.mk (below_step (by repeat (first | (with_reducible first | exact HB.out | apply below_alloc | apply pw_below_drewN | apply below_drew1 | refine below_set ?_ GE140.out) | exact HB.out)) hb); clear HO143; clear HO147; clear HO155; clear HO163; clear HO167; clear BK140; clear HB; have HO143 := n0_; have HO147 := n1_; have HO155 := n2_; have HO163 := n3_; have HO167 := n4_; have HO172 := n5_; have BK140 := n6_; have HB := n7_; clear n0_ n1_ n2_ n3_ n4_ n5_ n6_ n7_; (try clear hb); (try clear hb2); (try clear hk); (try clear hi); (try clear ho0); obtain ⟨Ao45, co45, eo45⟩ := Kd.R_slice HO172.out; subst eo45) | (go_at_call 14; (with_reducible refine (tailraceref12_Alike.calls kj3 _ _ t141 _ _ t170 true _ ?side1 ?side2 ?side3 ?side4 A38.out).mono ?_); (case side1 => repeat (first | exact (Kd.R_reads' HO143.out).2.2 | (with_reducible refine Kd.C_alloc ?_ _) | (with_reducible refine Kd.C_drewN ?_ _) | (with_reducible refine Kd.C_drew ?_))); (case side2 => exact (Kd.R_reads' HO143.out).2.1); (case side3 => repeat (first | exact (Kd.R_reads' HO172.out).2.2 | (with_reducible refine Kd.C_alloc ?_ _) | (with_reducible refine Kd.C_drewN ?_ _) | (with_reducible refine Kd.C_drew ?_))); (case side4 => exact (Kd.R_reads' HO172.out).2.1); rintro e w' ⟨rfl, ⟨nd, rfl⟩⟩; obtain ⟨Ao46, co46, eo46⟩ := Kd.R_slice HO167.out; subst eo46))
                      go_meet
                      case rel => exact ⟨_, (decide ((t165.length : Int) > 0)), (by first | rfl | (simp; done) | (simp [*]; done)), H', ⟨by have := HJ3.out; first | omega | exact Nat.le_refl _⟩, ⟨by (with_reducible repeat (first | apply Kd.R_alloc | apply Kd.R_drewN | apply Kd.R_drew)); exact Kd.R_mono HO143.out (fun _ hk => trivial)⟩, ⟨by (with_reducible repeat (first | refine blk_drewN ?_ _ | refine blk_drew ?_ | refine blk_alloc ?_ _)); exact BK140.out⟩, ⟨by repeat (first | (with_reducible first | exact HB.out | apply below_alloc | apply pw_below_drewN | apply below_drew1 | refine below_set ?_ GE140.out) | exact HB.out)⟩⟩
                    · replace c39 := Bool.eq_false_iff.mpr c39
                      subst c39
                      have H1 : (tailracelaw13_OpersJoins.j1 kj3 l0 l1 t141 true) = some r := by rw [if_neg (show ¬ (false = true) by decide)] at H; exact H
                      clear H
                      have H := H1
                      clear H1
                      have H' := Aside0.mk H
                      clear H
                      obtain ⟨Ao47, co47, eo47⟩ := Kd.R_slice HO143.out
                      subst eo47
                      obtain ⟨Ao48, co48, eo48⟩ := Kd.R_slice HO147.out
                      subst eo48
                      go_wp2_with (first | (go_at_call 14; (with_reducible refine (tailraceref12_Alike.calls kj3 _ _ t141 _ _ t145 true _ ?side1 ?side2 ?side3 ?side4 A35.out).mono ?_); (case side1 => repeat (first | exact (Kd.R_reads' HO143.out).2.2 | (with_reducible refine Kd.C_alloc ?_ _) | (with_reducible refine Kd.C_drewN ?_ _) | (with_reducible refine Kd.C_drew ?_))); (case side2 => exact (Kd.R_reads' HO143.out).2.1); (case side3 => repeat (first | exact (Kd.R_reads' HO147.out).2.2 | (with_reducible refine Kd.C_alloc ?_ _) | (with_reducible refine Kd.C_drewN ?_ _) | (with_reducible refine Kd.C_drew ?_))); (case side4 => exact (Kd.R_reads' HO147.out).2.1); rintro e w' ⟨rfl, ⟨nd, rfl⟩⟩; obtain ⟨Ao49, co49, eo49⟩ := Kd.R_slice HO155.out; subst eo49; obtain ⟨Ao50, co50, eo50⟩ := Kd.R_slice HO163.out; subst eo50) | (go_at_call 21; (with_reducible show Calls Try.prog 21 _ (World.alloc _ (.cells #[.slice _ (List.length t153) _, .slice _ (List.length t161) _] 28)) _); (refine (value_Add2.calls _ _ t153 _ _ t161 t170 _ ?side1 ?side2 ?side3 ?side4 A37.out).mono ?_); (case side1 => repeat (first | exact (Kd.R_reads' HO155.out).2.2 | (with_reducible refine Kd.C_alloc ?_ _) | (with_reducible refine Kd.C_drewN ?_ _) | (with_reducible refine Kd.C_drew ?_))); (case side2 => exact (Kd.R_reads' HO155.out).2.1); (case side3 => repeat (first | exact (Kd.R_reads' HO163.out).2.2 | (with_reducible refine Kd.C_alloc ?_ _) | (with_reducible refine Kd.C_drewN ?_ _) | (with_reducible refine Kd.C_drew ?_))); (case side4 => exact (Kd.R_reads' HO163.out).2.1); rintro e w51 ⟨v171, rfl, ho0, hb⟩; have n0_ := Aside0.mk (Kd.R_elder' (by (with_reducible repeat (first | apply Kd.R_alloc | apply Kd.R_drewN | apply Kd.R_drew)); exact HO143.out) (Kd.R_base ho0) hb); have n1_ := Aside0.mk (Kd.R_elder' (by (with_reducible repeat (first | apply Kd.R_alloc | apply Kd.R_drewN | apply Kd.R_drew)); exact HO147.out) (Kd.R_base ho0) hb); have n2_ := Aside0.mk (Kd.R_elder' (by (with_reducible repeat (first | apply Kd.R_alloc | apply Kd.R_drewN | apply Kd.R_drew)); exact HO155.out) (Kd.R_base ho0) hb); have n3_ := Aside0.mk (Kd.R_elder' (by (with_reducible repeat (first | apply Kd.R_alloc | apply Kd.R_drewN | apply Kd.R_drew)); exact HO163.out) (Kd.R_base ho0) hb); have n4_ := Aside0.mk (Kd.R_elder' (by (with_reducible repeat (first | apply Kd.R_alloc | apply Kd.R_drewN | apply Kd.R_drew)); exact HO167.out) (Kd.R_base ho0) hb); have n5_ := Aside0.mk (Kd.R_lower (Kd.R_new' (Kd.R_new' (Kd.R_new' (Kd.R_new' (Kd.R_new' ho0 (Kd.R_lt (by (with_reducible repeat (first | apply Kd.R_alloc | apply Kd.R_drewN | apply Kd.R_drew)); exact HO143.out))) (Kd.R_lt (by (with_reducible repeat (first | apply Kd.R_alloc | apply Kd.R_drewN | apply Kd.R_drew)); exact HO147.out))) (Kd.R_lt (by (with_reducible repeat (first | apply Kd.R_alloc | apply Kd.R_drewN | apply Kd.R_drew)); exact HO155.out))) (Kd.R_lt (by (with_reducible repeat (first | apply Kd.R_alloc | apply Kd.R_drewN | apply Kd.R_drew)); exact HO163.out))) (Kd.R_lt (by (with_reducible repeat (first | apply Kd.R_alloc | apply Kd.R_drewN | apply Kd.R_drew)); exact HO167.out))) (below_size (by repeat (first | (with_reducible first | exact HB.out | apply below_alloc | apply pw_below_drewN | apply below_drew1 | refine below_set ?_ GE140.out) | exact HB.out)))); have n6_ := Aside0.mk (blk_below (g := gb140) (o := .cells #[.int .u8 6, .int .u8 0, .int .i64 0, .int .i64 0, .slice none 0 0] 24 (0, 0)) (by (with_reducible repeat (first | refine blk_drewN ?_ _ | refine blk_drew ?_ | refine blk_alloc ?_ _)); exact BK140.out) hb); have n7_ := Aside0.mk (below_step (by repeat (first | (with_reducible first | exact HB.out | apply below_alloc | apply pw_below_drewN | apply below_drew1 | refine below_set ?_ GE140.out) | exact HB.out)) hb); clear HO143; clear HO147; clear HO155; clear HO163; clear HO167; clear BK140; clear HB; have HO143 := n0_; have HO147 := n1_; have HO155 := n2_; have HO163 := n3_; have HO167 := n4_; have HO172 := n5_; have BK140 := n6_; have HB := n7_; clear n0_ n1_ n2_ n3_ n4_ n5_ n6_ n7_; (try clear hb); (try clear hb2); (try clear hk); (try clear hi); (try clear ho0); obtain ⟨Ao52, co52, eo52⟩ := Kd.R_slice HO172.out; subst eo52) | (go_at_call 14; (with_reducible refine (tailraceref12_Alike.calls kj3 _ _ t141 _ _ t170 false _ ?side1 ?side2 ?side3 ?side4 A38.out).mono ?_); (case side1 => repeat (first | exact (Kd.R_reads' HO143.out).2.2 | (with_reducible refine Kd.C_alloc ?_ _) | (with_reducible refine Kd.C_drewN ?_ _) | (with_reducible refine Kd.C_drew ?_))); (case side2 => exact (Kd.R_reads' HO143.out).2.1); (case side3 => repeat (first | exact (Kd.R_reads' HO172.out).2.2 | (with_reducible refine Kd.C_alloc ?_ _) | (with_reducible refine Kd.C_drewN ?_ _) | (with_reducible refine Kd.C_drew ?_))); (case side4 => exact (Kd.R_reads' HO172.out).2.1); rintro e w' ⟨rfl, ⟨nd, rfl⟩⟩))
                      go_meet
                      case rel => exact ⟨_, (true), (by first | rfl | (simp; done) | (simp [*]; done)), H', ⟨by have := HJ3.out; first | omega | exact Nat.le_refl _⟩, ⟨by (with_reducible repeat (first | apply Kd.R_alloc | apply Kd.R_drewN | apply Kd.R_drew)); exact Kd.R_mono HO143.out (fun _ hk => trivial)⟩, ⟨by (with_reducible repeat (first | refine blk_drewN ?_ _ | refine blk_drew ?_ | refine blk_alloc ?_ _)); exact BK140.out⟩, ⟨by repeat (first | (with_reducible first | exact HB.out | apply below_alloc | apply pw_below_drewN | apply below_drew1 | refine below_set ?_ GE140.out) | exact HB.out)⟩⟩
                  · replace c36 := Bool.eq_false_iff.mpr c36
                    subst c36
                    have H1 : (tailracelaw13_OpersJoins.j1 kj3 l0 l1 t141 true) = some r := by rw [if_neg (show ¬ (false = true) by decide)] at H; exact H
                    clear H
                    have H := H1
                    clear H1
                    have H' := Aside0.mk H
                    clear H
                    obtain ⟨Ao53, co53, eo53⟩ := Kd.R_slice HO143.out
                    subst eo53
                    obtain ⟨Ao54, co54, eo54⟩ := Kd.R_slice HO147.out
                    subst eo54
                    go_wp2_with (first | (go_at_call 14; (with_reducible refine (tailraceref12_Alike.calls kj3 _ _ t141 _ _ t145 false _ ?side1 ?side2 ?side3 ?side4 A35.out).mono ?_); (case side1 => repeat (first | exact (Kd.R_reads' HO143.out).2.2 | (with_reducible refine Kd.C_alloc ?_ _) | (with_reducible refine Kd.C_drewN ?_ _) | (with_reducible refine Kd.C_drew ?_))); (case side2 => exact (Kd.R_reads' HO143.out).2.1); (case side3 => repeat (first | exact (Kd.R_reads' HO147.out).2.2 | (with_reducible refine Kd.C_alloc ?_ _) | (with_reducible refine Kd.C_drewN ?_ _) | (with_reducible refine Kd.C_drew ?_))); (case side4 => exact (Kd.R_reads' HO147.out).2.1); rintro e w' ⟨rfl, ⟨nd, rfl⟩⟩))
                    go_meet
                    case rel => exact ⟨_, (true), (by first | rfl | (simp; done) | (simp [*]; done)), H', ⟨by have := HJ3.out; first | omega | exact Nat.le_refl _⟩, ⟨by (with_reducible repeat (first | apply Kd.R_alloc | apply Kd.R_drewN | apply Kd.R_drew)); exact Kd.R_mono HO143.out (fun _ hk => trivial)⟩, ⟨by (with_reducible repeat (first | refine blk_drewN ?_ _ | refine blk_drew ?_ | refine blk_alloc ?_ _)); exact BK140.out⟩, ⟨by repeat (first | (with_reducible first | exact HB.out | apply below_alloc | apply pw_below_drewN | apply below_drew1 | refine below_set ?_ GE140.out) | exact HB.out)⟩⟩
                · rw [if_neg c34] at H
                  have c34b0 : (t144 == 0) = false := beq_eq_false_iff_ne.mpr c34
                  have c34b1 : (t144 != 0) = true := bne_iff_ne.mpr c34
                  (first | rw [c34b0] | (simp only [i64_w, i32_w]; rw [c34b0]) | skip)
                  have H' := Aside0.mk H
                  clear H
                  go_wp2
                  go_meet
                  case rel => exact ⟨_, (true), (by first | rfl | (simp; done) | (simp [*]; done)), H', ⟨by have := HJ3.out; first | omega | exact Nat.le_refl _⟩, ⟨by (with_reducible repeat (first | apply Kd.R_alloc | apply Kd.R_drewN | apply Kd.R_drew)); exact Kd.R_mono HO143.out (fun _ hk => trivial)⟩, ⟨by (with_reducible repeat (first | refine blk_drewN ?_ _ | refine blk_drew ?_ | refine blk_alloc ?_ _)); exact BK140.out⟩, ⟨by repeat (first | (with_reducible first | exact HB.out | apply below_alloc | apply pw_below_drewN | apply below_drew1 | refine below_set ?_ GE140.out) | exact HB.out)⟩⟩
              case rest =>
                as_aux_lemma =>
                clear HC20
                try clear c1
                try clear p2
                try clear q2
                try clear c3
                try clear q3
                try clear c5
                try clear c5b0
                try clear c5b1
                try clear c6
                try clear p6
                try clear c9
                try clear c9b0
                try clear c9b1
                try clear c11
                try clear c12
                try clear c13
                try clear c13b0
                try clear c13b1
                try clear c14
                try clear c14b0
                try clear c14b1
                try clear c16
                try clear c16b0
                try clear c17
                try clear c17b0
                try clear q27
                try clear c30
                try clear q30
                try clear c34
                try clear c34b0
                try clear c34b1
                try clear c36
                try clear c39
                try clear hcz22_0
                try clear hcz22_1
                try clear hcz22_2
                try clear hcz22_3
                try clear hcz22_4
                try clear hcz24_0
                try clear hcz24_1
                try clear hcz24_2
                try clear hcz24_3
                try clear hcz24_4
                try clear hcz32_0
                try clear hcz32_1
                try clear hcz32_2
                try clear hcz32_3
                try clear hcz32_4
                try clear hfz22_0
                try clear hfz22_1
                try clear hfz22_2
                try clear hfz22_3
                try clear hfz22_4
                try clear hfz24_0
                try clear hfz24_1
                try clear hfz24_2
                try clear hfz24_3
                try clear hfz24_4
                try clear hfz32_0
                try clear hfz32_1
                try clear hfz32_2
                try clear hfz32_3
                try clear hfz32_4
                try clear p2
                try clear q030
                try clear q27
                try clear q30
                obtain ⟨kq, x104_19, rfl, HA, HJ19, HO_9, BK140, HB⟩ := hcut
                cases kq with
                | zero => exact absurd HA.out (by simp [tailracelaw13_OpersJoins.j1])
                | succ kj19 =>
                  have H := HA.out
                  clear HA
                  simp only [tailracelaw13_OpersJoins.j1] at H
                  by_cases c55 : x104_19 = true
                  · subst c55
                    have H1 : (some false) = some r := by rw [if_pos rfl] at H; exact H
                    clear H
                    have H := H1
                    clear H1
                    obtain rfl := Option.some.inj H
                    go_wp2
                    go_ret
                    exact ⟨by first | rfl | (simp [errW_none, errW_some] <;> rfl) | (simp only [← hji12]; first | rfl | (simp [errW_none, errW_some] <;> rfl)) | (simp [*, errW_none, errW_some] <;> rfl), by repeat (first | (with_reducible first | exact HB.out | apply below_alloc | apply pw_below_drewN | apply below_drew1 | refine below_set ?_ GE140.out) | exact HB.out)⟩
                  · replace c55 := Bool.eq_false_iff.mpr c55
                    subst c55
                    have H1 : (tailracelaw13_OpersJoins.l0 kj19 l0 l1 t141 0) = some r := by rw [if_neg (show ¬ (false = true) by decide)] at H; exact H
                    clear H
                    have H := H1
                    clear H1
                    have H' := Aside0.mk H
                    clear H
                    go_wp2
                    go_loopg [19] kj19 (fun kq v19 w' => ∃ (x19_3 : Int), v19 = .int .i64 x19_3 ∧ Aside0 (tailracelaw13_OpersJoins.l0 kq l0 l1 t141 x19_3 = some r) ∧ Aside0 (kq ≤ kj19) ∧ Aside0 (Kd.R k36 36 w' w.heap.size (fun _ => True) v142 t141) ∧ Aside0 (w'.heap[gb140]? = some (.cells #[.int .u8 6, .int .u8 0, .int .i64 0, .int .i64 0, (.slice none 0 0)] 24 (0, 0))) ∧ Aside0 (Below w.heap.size w w'))
                    case atStart => exact ⟨(0), (by first | rfl | (simp; done) | (simp [*]; done)), H', ⟨Nat.le_refl _⟩, ⟨by (with_reducible repeat (first | apply Kd.R_alloc | apply Kd.R_drewN | apply Kd.R_drew)); exact HO_9.out⟩, ⟨by (with_reducible repeat (first | refine blk_drewN ?_ _ | refine blk_drew ?_ | refine blk_alloc ?_ _)); exact BK140.out⟩, ⟨by repeat (first | (with_reducible first | exact HB.out | apply below_alloc | apply pw_below_drewN | apply below_drew1 | refine below_set ?_ GE140.out) | exact HB.out)⟩⟩
                    case round =>
                      as_aux_lemma =>
                      clear H'
                      try clear c1
                      try clear p2
                      try clear q2
                      try clear c3
                      try clear q3
                      try clear c5
                      try clear c5b0
                      try clear c5b1
                      try clear c6
                      try clear p6
                      try clear c9
                      try clear c9b0
                      try clear c9b1
                      try clear c11
                      try clear c12
                      try clear c13
                      try clear c13b0
                      try clear c13b1
                      try clear c14
                      try clear c14b0
                      try clear c14b1
                      try clear c16
                      try clear c16b0
                      try clear c17
                      try clear c17b0
                      try clear q27
                      try clear c30
                      try clear q30
                      try clear c34
                      try clear c34b0
                      try clear c34b1
                      try clear c36
                      try clear c39
                      try clear c55
                      try clear hcz22_0
                      try clear hcz22_1
                      try clear hcz22_2
                      try clear hcz22_3
                      try clear hcz22_4
                      try clear hcz24_0
                      try clear hcz24_1
                      try clear hcz24_2
                      try clear hcz24_3
                      try clear hcz24_4
                      try clear hcz32_0
                      try clear hcz32_1
                      try clear hcz32_2
                      try clear hcz32_3
                      try clear hcz32_4
                      try clear hfz22_0
                      try clear hfz22_1
                      try clear hfz22_2
                      try clear hfz22_3
                      try clear hfz22_4
                      try clear hfz24_0
                      try clear hfz24_1
                      try clear hfz24_2
                      try clear hfz24_3
                      try clear hfz24_4
                      try clear hfz32_0
                      try clear hfz32_1
                      try clear hfz32_2
                      try clear hfz32_3
                      try clear hfz32_4
                      try clear p2
                      try clear p6
                      try clear q030
                      try clear q2
                      try clear q27
                      try clear q3
                      try clear q30
                      obtain ⟨x19_3, rfl, HA, HK3, HO_9, BK140, HB⟩ := hrel
                      cases gk with
                      | zero => exact absurd HA.out (by simp [tailracelaw13_OpersJoins.l0])
                      | succ k3 =>
                        have H := HA.out
                        clear HA
                        simp only [tailracelaw13_OpersJoins.l0] at H
                        by_cases c56 : x19_3 < (t141.length : Int)
                        · rw [if_pos c56] at H
                          have c56b0 : decide (x19_3 < (t141.length : Int)) = true := decide_eq_true c56
                          clear c56
                          have H' := Aside0.mk H
                          clear H
                          obtain ⟨Ao57, co57, eo57⟩ := Kd.R_slice HO_9.out
                          subst eo57
                          go_wp2
                          go_loopg [20, 22] k3 (fun kq v20 v22 w' => ∃ (x20_4 : Bool) (x22_4 : Int), v20 = .bool x20_4 ∧ v22 = .int .i64 x22_4 ∧ Aside0 (tailracelaw13_OpersJoins.l1 kq l0 l1 t141 x19_3 x20_4 false x22_4 = some r) ∧ Aside0 (kq ≤ k3) ∧ Aside0 (Kd.R k36 36 w' w.heap.size (fun _ => True) (.slice Ao57 t141.length co57) t141) ∧ Aside0 (w'.heap[gb140]? = some (.cells #[.int .u8 6, .int .u8 0, .int .i64 0, .int .i64 0, (.slice none 0 0)] 24 (0, 0))) ∧ Aside0 (Below w.heap.size w w'))
                          case atStart => exact ⟨(false), (0), (by first | rfl | (simp; done) | (simp [*]; done)), (by first | rfl | (simp; done) | (simp [*]; done)), H', ⟨Nat.le_refl _⟩, ⟨by (with_reducible repeat (first | apply Kd.R_alloc | apply Kd.R_drewN | apply Kd.R_drew)); exact HO_9.out⟩, ⟨by (with_reducible repeat (first | refine blk_drewN ?_ _ | refine blk_drew ?_ | refine blk_alloc ?_ _)); exact BK140.out⟩, ⟨by repeat (first | (with_reducible first | exact HB.out | apply below_alloc | apply pw_below_drewN | apply below_drew1 | refine below_set ?_ GE140.out) | exact HB.out)⟩⟩
                          case round =>
                            as_aux_lemma =>
                            clear H'
                            try clear c1
                            try clear p2
                            try clear q2
                            try clear c3
                            try clear q3
                            try clear c5
                            try clear c5b0
                            try clear c5b1
                            try clear c6
                            try clear p6
                            try clear c9
                            try clear c9b0
                            try clear c9b1
                            try clear c11
                            try clear c12
                            try clear c13
                            try clear c13b0
                            try clear c13b1
                            try clear c14
                            try clear c14b0
                            try clear c14b1
                            try clear c16
                            try clear c16b0
                            try clear c17
                            try clear c17b0
                            try clear q27
                            try clear c30
                            try clear q30
                            try clear c34
                            try clear c34b0
                            try clear c34b1
                            try clear c36
                            try clear c39
                            try clear c55
                            try clear c56
                            try clear c56b0
                            try clear hcz22_0
                            try clear hcz22_1
                            try clear hcz22_2
                            try clear hcz22_3
                            try clear hcz22_4
                            try clear hcz24_0
                            try clear hcz24_1
                            try clear hcz24_2
                            try clear hcz24_3
                            try clear hcz24_4
                            try clear hcz32_0
                            try clear hcz32_1
                            try clear hcz32_2
                            try clear hcz32_3
                            try clear hcz32_4
                            try clear hfz22_0
                            try clear hfz22_1
                            try clear hfz22_2
                            try clear hfz22_3
                            try clear hfz22_4
                            try clear hfz24_0
                            try clear hfz24_1
                            try clear hfz24_2
                            try clear hfz24_3
                            try clear hfz24_4
                            try clear hfz32_0
                            try clear hfz32_1
                            try clear hfz32_2
                            try clear hfz32_3
                            try clear hfz32_4
                            try clear p2
                            try clear p6
                            try clear q030
                            try clear q2
                            try clear q27
                            try clear q3
                            try clear q30
                            obtain ⟨x20_4, x22_4, rfl, rfl, HA, HK4, HO_9, BK140, HB⟩ := hrel
                            cases gk with
                            | zero => exact absurd HA.out (by simp [tailracelaw13_OpersJoins.l1])
                            | succ k4 =>
                              have H := HA.out
                              clear HA
                              simp only [tailracelaw13_OpersJoins.l1] at H
                              by_cases c58 : x22_4 < (l0.length : Int)
                              · rw [if_pos c58] at H
                                have c58b0 : decide (x22_4 < (l0.length : Int)) = true := decide_eq_true c58
                                clear c58
                                by_cases c59 : x20_4 = true
                                · subst c59
                                  have H1 : (tailracelaw13_OpersJoins.l1 k4 l0 l1 t141 x19_3 true false (wrap64 (x22_4 + 1))) = some r := by rw [if_pos rfl] at H; exact H
                                  clear H
                                  have H := H1
                                  clear H1
                                  have H' := Aside0.mk H
                                  clear H
                                  try go_wp2
                                  have n0_ := Aside0.mk (Kd.R_drew HO_9.out)
                                  have n1_ := Aside0.mk (blk_drew BK140.out)
                                  have n2_ := Aside0.mk (below_drew1 HB.out)
                                  clear HO_9
                                  clear BK140
                                  clear HB
                                  have HO_9 := n0_
                                  have BK140 := n1_
                                  have HB := n2_
                                  clear n0_ n1_ n2_
                                  refine start_ (n := 15) (S := fun w' => True) (ds := []) #[false, false, false, false, false, false, false, false, false, false, false, false, false, false, false] (by kernel_rfl) rfl rfl trivial (fun hHeld => ?_); refine with_tabW tailracelaw13_OpersJoins.tab19 tailracelaw13_OpersJoins.bits19 (fun HT_ HW_ => ?_)
                                  generalize wr.drew = w60 at HO_9 BK140 HB hHeld ⊢
                                  refine pure_ (i := 0) (N := some 117) (v := ?_) (a' := ?_) #[true, false, false, false, false, false, false, false, false, false, false, false, false, false, false] rfl rfl (any_of HT_.out (by kernel_rfl)) (fun _ _ _ h => h) (Or.inl ⟨by rfl, ?_⟩) ?_ ?_
                                  rotate_left
                                  · intro w'
                                    go_simp
                                    with_reducible rfl
                                  rotate_left
                                  · simp only [Act.put, List.setIfInBounds_toArray, List.set_cons_zero, List.set_cons_succ, i64_w, i32_w]
                                    rfl
                                  refine pure_ (i := 1) (N := some 118) (v := ?_) (a' := ?_) #[true, true, false, false, false, false, false, false, false, false, false, false, false, false, false] rfl rfl (any_of HT_.out (by kernel_rfl)) (fun _ _ _ h => h) (Or.inl ⟨by rfl, ?_⟩) ?_ ?_
                                  rotate_left
                                  · intro w'
                                    go_simp
                                    with_reducible rfl
                                  rotate_left
                                  · simp only [Act.put, List.setIfInBounds_toArray, List.set_cons_zero, List.set_cons_succ, i64_w, i32_w]
                                    rfl
                                  refine pure_ (i := 2) (N := some 119) (v := undef) (a' := ?_) #[true, true, true, false, false, false, false, false, false, false, false, false, false, false, false] rfl rfl (any_of HT_.out (by kernel_rfl)) (fun _ _ _ h => h) (Or.inr ⟨by rfl, rfl⟩) ?_ ?_
                                  rotate_left
                                  · simp only [Act.put, List.setIfInBounds_toArray, List.set_cons_zero, List.set_cons_succ, i64_w, i32_w]
                                    rfl
                                  refine pure_ (i := 3) (N := some 120) (v := undef) (a' := ?_) #[true, true, true, true, false, false, false, false, false, false, false, false, false, false, false] rfl rfl (any_of HT_.out (by kernel_rfl)) (fun _ _ _ h => h) (Or.inr ⟨by rfl, rfl⟩) ?_ ?_
                                  rotate_left
                                  · simp only [Act.put, List.setIfInBounds_toArray, List.set_cons_zero, List.set_cons_succ, i64_w, i32_w]
                                    rfl
                                  refine pure_ (i := 4) (N := some 121) (v := undef) (a' := ?_) #[true, true, true, true, true, false, false, false, false, false, false, false, false, false, false] rfl rfl (any_of HT_.out (by kernel_rfl)) (fun _ _ _ h => h) (Or.inr ⟨by rfl, rfl⟩) ?_ ?_
                                  rotate_left
                                  · simp only [Act.put, List.setIfInBounds_toArray, List.set_cons_zero, List.set_cons_succ, i64_w, i32_w]
                                    rfl
                                  refine pure_ (i := 5) (N := some 122) (v := undef) (a' := ?_) #[true, true, true, true, true, true, false, false, false, false, false, false, false, false, false] rfl rfl (any_of HT_.out (by kernel_rfl)) (fun _ _ _ h => h) (Or.inr ⟨by rfl, rfl⟩) ?_ ?_
                                  rotate_left
                                  · simp only [Act.put, List.setIfInBounds_toArray, List.set_cons_zero, List.set_cons_succ, i64_w, i32_w]
                                    rfl
                                  refine pure_ (i := 6) (N := some 123) (v := undef) (a' := ?_) #[true, true, true, true, true, true, true, false, false, false, false, false, false, false, false] rfl rfl (any_of HT_.out (by kernel_rfl)) (fun _ _ _ h => h) (Or.inr ⟨by rfl, rfl⟩) ?_ ?_
                                  rotate_left
                                  · simp only [Act.put, List.setIfInBounds_toArray, List.set_cons_zero, List.set_cons_succ, i64_w, i32_w]
                                    rfl
                                  refine pure_ (i := 7) (N := some 124) (v := undef) (a' := ?_) #[true, true, true, true, true, true, true, true, false, false, false, false, false, false, false] rfl rfl (any_of HT_.out (by kernel_rfl)) (fun _ _ _ h => h) (Or.inr ⟨by rfl, rfl⟩) ?_ ?_
                                  rotate_left
                                  · simp only [Act.put, List.setIfInBounds_toArray, List.set_cons_zero, List.set_cons_succ, i64_w, i32_w]
                                    rfl
                                  refine pure_ (i := 8) (N := some 125) (v := undef) (a' := ?_) #[true, true, true, true, true, true, true, true, true, false, false, false, false, false, false] rfl rfl (any_of HT_.out (by kernel_rfl)) (fun _ _ _ h => h) (Or.inr ⟨by rfl, rfl⟩) ?_ ?_
                                  rotate_left
                                  · simp only [Act.put, List.setIfInBounds_toArray, List.set_cons_zero, List.set_cons_succ, i64_w, i32_w]
                                    rfl
                                  refine pure_ (i := 9) (N := some 126) (v := undef) (a' := ?_) #[true, true, true, true, true, true, true, true, true, true, false, false, false, false, false] rfl rfl (any_of HT_.out (by kernel_rfl)) (fun _ _ _ h => h) (Or.inr ⟨by rfl, rfl⟩) ?_ ?_
                                  rotate_left
                                  · simp only [Act.put, List.setIfInBounds_toArray, List.set_cons_zero, List.set_cons_succ, i64_w, i32_w]
                                    rfl
                                  refine pure_ (i := 10) (N := some 127) (v := undef) (a' := ?_) #[true, true, true, true, true, true, true, true, true, true, true, false, false, false, false] rfl rfl (any_of HT_.out (by kernel_rfl)) (fun _ _ _ h => h) (Or.inr ⟨by rfl, rfl⟩) ?_ ?_
                                  rotate_left
                                  · simp only [Act.put, List.setIfInBounds_toArray, List.set_cons_zero, List.set_cons_succ, i64_w, i32_w]
                                    rfl
                                  refine pure_ (i := 11) (N := some 128) (v := undef) (a' := ?_) #[true, true, true, true, true, true, true, true, true, true, true, true, false, false, false] rfl rfl (any_of HT_.out (by kernel_rfl)) (fun _ _ _ h => h) (Or.inr ⟨by rfl, rfl⟩) ?_ ?_
                                  rotate_left
                                  · simp only [Act.put, List.setIfInBounds_toArray, List.set_cons_zero, List.set_cons_succ, i64_w, i32_w]
                                    rfl
                                  refine pure_ (i := 12) (N := some 129) (v := undef) (a' := ?_) #[true, true, true, true, true, true, true, true, true, true, true, true, true, false, false] rfl rfl (any_of HT_.out (by kernel_rfl)) (fun _ _ _ h => h) (Or.inr ⟨by rfl, rfl⟩) ?_ ?_
                                  rotate_left
                                  · simp only [Act.put, List.setIfInBounds_toArray, List.set_cons_zero, List.set_cons_succ, i64_w, i32_w]
                                    rfl
                                  refine pure_ (i := 13) (N := some 130) (v := ?_) (a' := ?_) #[true, true, true, true, true, true, true, true, true, true, true, true, true, true, false] rfl rfl (any_of HT_.out (by kernel_rfl)) (fun _ _ _ h => h) (Or.inl ⟨by rfl, ?_⟩) ?_ ?_
                                  rotate_left
                                  · intro w'
                                    go_simp
                                    with_reducible rfl
                                  rotate_left
                                  · simp only [Act.put, List.setIfInBounds_toArray, List.set_cons_zero, List.set_cons_succ, i64_w, i32_w]
                                    rfl
                                  refine pure_ (i := 14) (N := some 20) (v := ?_) (a' := ?_) #[true, true, true, true, true, true, true, true, true, true, true, true, true, true, true] rfl rfl (any_of HT_.out (by kernel_rfl)) (fun _ _ _ h => h) (Or.inl ⟨by rfl, ?_⟩) ?_ ?_
                                  rotate_left
                                  · intro w'
                                    go_simp
                                    with_reducible rfl
                                  rotate_left
                                  · simp only [Act.put, List.setIfInBounds_toArray, List.set_cons_zero, List.set_cons_succ, i64_w, i32_w]
                                    rfl
                                  refine done_ (done_of HT_.out (by kernel_rfl)) ?_
                                  try go_wp2
                                  go_roundg k4
                                  case measure => have := HJ3.out; have := HJ19.out; have := HK3.out; have := HK4.out; omega
                                  case rel => exact ⟨(true), (wrap64 (x22_4 + 1)), (by first | rfl | (simp; done) | (simp [*]; done)), (by first | rfl | (simp; done) | (simp [*]; done)), H', ⟨by have := HJ3.out; have := HJ19.out; have := HK3.out; have := HK4.out; omega⟩, ⟨by (with_reducible repeat (first | apply Kd.R_alloc | apply Kd.R_drewN | apply Kd.R_drew)); exact HO_9.out⟩, ⟨by (with_reducible repeat (first | refine blk_drewN ?_ _ | refine blk_drew ?_ | refine blk_alloc ?_ _)); exact BK140.out⟩, ⟨by repeat (first | (with_reducible first | exact HB.out | apply below_alloc | apply pw_below_drewN | apply below_drew1 | refine below_set ?_ GE140.out) | exact HB.out)⟩⟩
                                · replace c59 := Bool.eq_false_iff.mpr c59
                                  subst c59
                                  have H1 : (if 0 ≤ x22_4 then (if 0 ≤ x19_3 then (if x19_3 < (t141.length : Int) then (tailracelaw13_OpersJoins.l1 k4 l0 l1 t141 x19_3 (((rd_T36 l0 x22_4).f0) == ((rd_T36 t141 x19_3).f0)) false (wrap64 (x22_4 + 1))) else (none)) else (none)) else (none)) = some r := by rw [if_neg (show ¬ (false = true) by decide)] at H; exact H
                                  clear H
                                  have H := H1
                                  clear H1
                                  by_cases c61 : 0 ≤ x22_4
                                  · rw [if_pos c61] at H
                                    have c61b0 : decide (0 ≤ x22_4) = true := decide_eq_true c61
                                    clear c61
                                    by_cases c62 : 0 ≤ x19_3
                                    · rw [if_pos c62] at H
                                      have c62b0 : decide (0 ≤ x19_3) = true := decide_eq_true c62
                                      clear c62
                                      by_cases c63 : x19_3 < (t141.length : Int)
                                      · as_aux_lemma =>
                                        rw [if_pos c63] at H
                                        have c63b0 : decide (x19_3 < (t141.length : Int)) = true := decide_eq_true c63
                                        clear c63
                                        have H' := Aside0.mk H
                                        clear H
                                        try go_wp2
                                        have n0_ := Aside0.mk (Kd.R_drew HO_9.out)
                                        have n1_ := Aside0.mk (blk_drew BK140.out)
                                        have n2_ := Aside0.mk (below_drew1 HB.out)
                                        clear HO_9
                                        clear BK140
                                        clear HB
                                        have HO_9 := n0_
                                        have BK140 := n1_
                                        have HB := n2_
                                        clear n0_ n1_ n2_
                                        have p175 : 0 ≤ (x22_4 : Int) := of_decide_eq_true (by first | (with_reducible assumption) | assumption)
                                        have q175 : x22_4 < (l0.length : Int) := of_decide_eq_true (by first | (with_reducible assumption) | assumption)
                                        obtain ⟨ad175, e175, hx175_0, hx175_1⟩ := at_T36 HR0.out x22_4 p175 q175
                                        have hw175_1 := hx175_1
                                        have hw175_0 := hx175_0
                                        cases e175
                                        replace hx175_0 := (HB.out.cell (World.block_lt_of_cell? w _ hx175_0)).trans hx175_0
                                        replace hx175_1 := (HB.out.cell (World.block_lt_of_cell? w _ hx175_1)).trans hx175_1
                                        replace p175 := eq_true p175
                                        replace q175 := eq_true q175
                                        have p176 : 0 ≤ (x19_3 : Int) := of_decide_eq_true (by first | (with_reducible assumption) | assumption)
                                        have q176 : x19_3 < (t141.length : Int) := of_decide_eq_true (by first | (with_reducible assumption) | assumption)
                                        obtain ⟨ad176, e176, hx176_0, hx176_1⟩ := at_T36 (Kd.R_reads' HO_9.out).2.2 x19_3 p176 q176
                                        cases e176
                                        replace p176 := eq_true p176
                                        replace q176 := eq_true q176
                                        refine start_ (n := 15) (S := fun w' => w'.cell? (ad175.add ((x22_4).toNat * 2)) = some (.int .i64 ((rd_T36 l0 x22_4).f0)) ∧ w'.cell? ⟨(ad175.add ((x22_4).toNat * 2)).block, (ad175.add ((x22_4).toNat * 2)).off + 1, none⟩ = some (.int .i64 ((rd_T36 l0 x22_4).f1)) ∧ w'.cell? (ad176.add ((x19_3).toNat * 2)) = some (.int .i64 ((rd_T36 t141 x19_3).f0)) ∧ w'.cell? ⟨(ad176.add ((x19_3).toNat * 2)).block, (ad176.add ((x19_3).toNat * 2)).off + 1, none⟩ = some (.int .i64 ((rd_T36 t141 x19_3).f1))) (ds := []) #[false, false, false, false, false, false, false, false, false, false, false, false, false, false, false] (by kernel_rfl) rfl rfl ⟨((HB.out.cell (World.block_lt_of_cell? w _ hw175_0)).trans hw175_0), ((HB.out.cell (World.block_lt_of_cell? w _ hw175_1)).trans hw175_1), hx176_0, hx176_1⟩ (fun hHeld => ?_); refine with_tabW tailracelaw13_OpersJoins.tab19 tailracelaw13_OpersJoins.bits19 (fun HT_ HW_ => ?_)
                                        generalize wr.drew = w64 at HO_9 BK140 HB hx175_0 hx175_1 hx176_0 hx176_1 hHeld ⊢
                                        refine pure_ (i := 0) (N := some 117) (v := ?_) (a' := ?_) #[true, false, false, false, false, false, false, false, false, false, false, false, false, false, false] rfl rfl (any_of HT_.out (by kernel_rfl)) (fun _ _ _ h => h) (Or.inl ⟨by rfl, ?_⟩) ?_ ?_
                                        rotate_left
                                        · intro w'
                                          go_simp
                                          with_reducible rfl
                                        rotate_left
                                        · simp only [Act.put, List.setIfInBounds_toArray, List.set_cons_zero, List.set_cons_succ, i64_w, i32_w]
                                          rfl
                                        refine pure_ (i := 1) (N := some 118) (v := ?_) (a' := ?_) #[true, true, false, false, false, false, false, false, false, false, false, false, false, false, false] rfl rfl (any_of HT_.out (by kernel_rfl)) (fun _ _ _ h => h) (Or.inl ⟨by rfl, ?_⟩) ?_ ?_
                                        rotate_left
                                        · intro w'
                                          go_simp
                                          with_reducible rfl
                                        rotate_left
                                        · simp only [Act.put, List.setIfInBounds_toArray, List.set_cons_zero, List.set_cons_succ, i64_w, i32_w]
                                          rfl
                                        refine pure_ (i := 2) (N := some 119) (v := ?_) (a' := ?_) #[true, true, true, false, false, false, false, false, false, false, false, false, false, false, false] rfl rfl (any_of HT_.out (by kernel_rfl)) (fun _ _ _ h => h) (Or.inl ⟨by rfl, ?_⟩) ?_ ?_
                                        rotate_left
                                        · intro w'
                                          go_simp
                                          with_reducible rfl
                                        rotate_left
                                        · simp only [Act.put, List.setIfInBounds_toArray, List.set_cons_zero, List.set_cons_succ, i64_w, i32_w]
                                          rfl
                                        refine pure_ (i := 3) (N := some 120) (v := ?_) (a' := ?_) #[true, true, true, true, false, false, false, false, false, false, false, false, false, false, false] rfl rfl (any_of HT_.out (by kernel_rfl)) (fun _ _ _ h => h) (Or.inl ⟨by rfl, ?_⟩) ?_ ?_
                                        rotate_left
                                        · intro w'
                                          go_simp
                                          with_reducible rfl
                                        rotate_left
                                        · simp only [Act.put, List.setIfInBounds_toArray, List.set_cons_zero, List.set_cons_succ, i64_w, i32_w]
                                          rfl
                                        refine pure_ (i := 4) (N := some 121) (v := ?_) (a' := ?_) #[true, true, true, true, true, false, false, false, false, false, false, false, false, false, false] rfl rfl (any_of HT_.out (by kernel_rfl)) (fun _ _ _ h => h) (Or.inl ⟨by rfl, ?_⟩) ?_ ?_
                                        rotate_left
                                        · intro w'
                                          go_simp
                                          with_reducible rfl
                                        rotate_left
                                        · simp only [Act.put, List.setIfInBounds_toArray, List.set_cons_zero, List.set_cons_succ, i64_w, i32_w]
                                          rfl
                                        refine pure_ (i := 5) (N := some 122) (v := ?_) (a' := ?_) #[true, true, true, true, true, true, false, false, false, false, false, false, false, false, false] rfl rfl (any_of HT_.out (by kernel_rfl)) (fun _ _ _ h => h) (Or.inl ⟨by rfl, ?_⟩) ?_ ?_
                                        rotate_left
                                        · intro w'
                                          go_simp
                                          with_reducible rfl
                                        rotate_left
                                        · simp only [Act.put, List.setIfInBounds_toArray, List.set_cons_zero, List.set_cons_succ, i64_w, i32_w]
                                          rfl
                                        refine pure_ (i := 7) (N := some 124) (v := ?_) (a' := ?_) #[true, true, true, true, true, true, false, true, false, false, false, false, false, false, false] rfl rfl (any_of HT_.out (by kernel_rfl)) (fun _ _ _ h => h) (Or.inl ⟨by rfl, ?_⟩) ?_ ?_
                                        rotate_left
                                        · intro w'
                                          go_simp
                                          with_reducible rfl
                                        rotate_left
                                        · simp only [Act.put, List.setIfInBounds_toArray, List.set_cons_zero, List.set_cons_succ, i64_w, i32_w]
                                          rfl
                                        refine pure_ (i := 8) (N := some 125) (v := ?_) (a' := ?_) #[true, true, true, true, true, true, false, true, true, false, false, false, false, false, false] rfl rfl (any_of HT_.out (by kernel_rfl)) (fun _ _ _ h => h) (Or.inl ⟨by rfl, ?_⟩) ?_ ?_
                                        rotate_left
                                        · intro w'
                                          go_simp
                                          with_reducible rfl
                                        rotate_left
                                        · simp only [Act.put, List.setIfInBounds_toArray, List.set_cons_zero, List.set_cons_succ, i64_w, i32_w]
                                          rfl
                                        refine pure_ (i := 9) (N := some 126) (v := ?_) (a' := ?_) #[true, true, true, true, true, true, false, true, true, true, false, false, false, false, false] rfl rfl (any_of HT_.out (by kernel_rfl)) (fun _ _ _ h => h) (Or.inl ⟨by rfl, ?_⟩) ?_ ?_
                                        rotate_left
                                        · intro w'
                                          go_simp
                                          with_reducible rfl
                                        rotate_left
                                        · simp only [Act.put, List.setIfInBounds_toArray, List.set_cons_zero, List.set_cons_succ, i64_w, i32_w]
                                          rfl
                                        refine pure_ (i := 10) (N := some 127) (v := ?_) (a' := ?_) #[true, true, true, true, true, true, false, true, true, true, true, false, false, false, false] rfl rfl (any_of HT_.out (by kernel_rfl)) (fun _ _ _ h => h) (Or.inl ⟨by rfl, ?_⟩) ?_ ?_
                                        rotate_left
                                        · intro w'
                                          go_simp
                                          with_reducible rfl
                                        rotate_left
                                        · simp only [Act.put, List.setIfInBounds_toArray, List.set_cons_zero, List.set_cons_succ, i64_w, i32_w]
                                          rfl
                                        refine take_ (i := 6) (N := some 123) (v := ?_) (a' := ?_) #[true, true, true, true, true, true, true, true, true, true, true, false, false, false, false] rfl rfl (take_ofW HT_.out HW_.out (by kernel_rfl)) (fun _ _ _ h => h) (Or.inl ⟨by rfl, ?_⟩) hHeld ?_ ?_
                                        rotate_left
                                        · rintro w' ⟨s0, s1, s2, s3⟩
                                          go_simp
                                          with_reducible rfl
                                        rotate_left
                                        · simp only [Act.put, List.setIfInBounds_toArray, List.set_cons_zero, List.set_cons_succ, i64_w, i32_w]
                                          rfl
                                        refine take_ (i := 11) (N := some 128) (v := ?_) (a' := ?_) #[true, true, true, true, true, true, true, true, true, true, true, true, false, false, false] rfl rfl (take_ofW HT_.out HW_.out (by kernel_rfl)) (fun _ _ _ h => h) (Or.inl ⟨by rfl, ?_⟩) hHeld ?_ ?_
                                        rotate_left
                                        · rintro w' ⟨s0, s1, s2, s3⟩
                                          go_simp
                                          with_reducible rfl
                                        rotate_left
                                        · simp only [Act.put, List.setIfInBounds_toArray, List.set_cons_zero, List.set_cons_succ, i64_w, i32_w]
                                          rfl
                                        refine pure_ (i := 12) (N := some 129) (v := ?_) (a' := ?_) #[true, true, true, true, true, true, true, true, true, true, true, true, true, false, false] rfl rfl (any_of HT_.out (by kernel_rfl)) (fun _ _ _ h => h) (Or.inl ⟨by rfl, ?_⟩) ?_ ?_
                                        rotate_left
                                        · intro w'
                                          go_simp
                                          with_reducible rfl
                                        rotate_left
                                        · simp only [Act.put, List.setIfInBounds_toArray, List.set_cons_zero, List.set_cons_succ, i64_w, i32_w]
                                          rfl
                                        refine pure_ (i := 13) (N := some 130) (v := ?_) (a' := ?_) #[true, true, true, true, true, true, true, true, true, true, true, true, true, true, false] rfl rfl (any_of HT_.out (by kernel_rfl)) (fun _ _ _ h => h) (Or.inl ⟨by rfl, ?_⟩) ?_ ?_
                                        rotate_left
                                        · intro w'
                                          go_simp
                                          with_reducible rfl
                                        rotate_left
                                        · simp only [Act.put, List.setIfInBounds_toArray, List.set_cons_zero, List.set_cons_succ, i64_w, i32_w]
                                          rfl
                                        refine pure_ (i := 14) (N := some 20) (v := ?_) (a' := ?_) #[true, true, true, true, true, true, true, true, true, true, true, true, true, true, true] rfl rfl (any_of HT_.out (by kernel_rfl)) (fun _ _ _ h => h) (Or.inl ⟨by rfl, ?_⟩) ?_ ?_
                                        rotate_left
                                        · intro w'
                                          go_simp
                                          with_reducible rfl
                                        rotate_left
                                        · simp only [Act.put, List.setIfInBounds_toArray, List.set_cons_zero, List.set_cons_succ, i64_w, i32_w]
                                          rfl
                                        refine done_ (done_of HT_.out (by kernel_rfl)) ?_
                                        try go_wp2
                                        go_roundg k4
                                        case measure => have := HJ3.out; have := HJ19.out; have := HK3.out; have := HK4.out; omega
                                        case rel => exact ⟨((((rd_T36 l0 x22_4).f0) == ((rd_T36 t141 x19_3).f0))), (wrap64 (x22_4 + 1)), (by first | rfl | (simp; done) | (simp [*]; done)), (by first | rfl | (simp; done) | (simp [*]; done)), H', ⟨by have := HJ3.out; have := HJ19.out; have := HK3.out; have := HK4.out; omega⟩, ⟨by (with_reducible repeat (first | apply Kd.R_alloc | apply Kd.R_drewN | apply Kd.R_drew)); exact HO_9.out⟩, ⟨by (with_reducible repeat (first | refine blk_drewN ?_ _ | refine blk_drew ?_ | refine blk_alloc ?_ _)); exact BK140.out⟩, ⟨by repeat (first | (with_reducible first | exact HB.out | apply below_alloc | apply pw_below_drewN | apply below_drew1 | refine below_set ?_ GE140.out) | exact HB.out)⟩⟩
                                      · rw [if_neg c63] at H
                                        exact absurd H (by simp)
                                    · rw [if_neg c62] at H
                                      exact absurd H (by simp)
                                  · rw [if_neg c61] at H
                                    exact absurd H (by simp)
                              · rw [if_neg c58] at H
                                have c58b0 : decide (x22_4 < (l0.length : Int)) = false := decide_eq_false c58
                                clear c58
                                have H' := Aside0.mk H
                                clear H
                                go_wp2
                                go_loopg [21, 23] k4 (fun kq v21 v23 w' => ∃ (x21_5 : Bool) (x23_5 : Int), v21 = .bool x21_5 ∧ v23 = .int .i64 x23_5 ∧ Aside0 (tailracelaw13_OpersJoins.l2 kq l0 l1 t141 x19_3 x20_4 x21_5 x23_5 = some r) ∧ Aside0 (kq ≤ k4) ∧ Aside0 (Kd.R k36 36 w' w.heap.size (fun _ => True) (.slice Ao57 t141.length co57) t141) ∧ Aside0 (w'.heap[gb140]? = some (.cells #[.int .u8 6, .int .u8 0, .int .i64 0, .int .i64 0, (.slice none 0 0)] 24 (0, 0))) ∧ Aside0 (Below w.heap.size w w'))
                                case atStart => exact ⟨(false), (0), (by first | rfl | (simp; done) | (simp [*]; done)), (by first | rfl | (simp; done) | (simp [*]; done)), H', ⟨Nat.le_refl _⟩, ⟨by (with_reducible repeat (first | apply Kd.R_alloc | apply Kd.R_drewN | apply Kd.R_drew)); exact HO_9.out⟩, ⟨by (with_reducible repeat (first | refine blk_drewN ?_ _ | refine blk_drew ?_ | refine blk_alloc ?_ _)); exact BK140.out⟩, ⟨by repeat (first | (with_reducible first | exact HB.out | apply below_alloc | apply pw_below_drewN | apply below_drew1 | refine below_set ?_ GE140.out) | exact HB.out)⟩⟩
                                case round =>
                                  as_aux_lemma =>
                                  clear H'
                                  try clear c1
                                  try clear p1
                                  try clear q1
                                  try clear hx1
                                  try clear p2
                                  try clear q2
                                  try clear c3
                                  try clear q3
                                  try clear c5
                                  try clear c5b0
                                  try clear c5b1
                                  try clear c6
                                  try clear p6
                                  try clear c9
                                  try clear c9b0
                                  try clear c9b1
                                  try clear c11
                                  try clear c12
                                  try clear c13
                                  try clear c13b0
                                  try clear c13b1
                                  try clear c14
                                  try clear c14b0
                                  try clear c14b1
                                  try clear c16
                                  try clear c16b0
                                  try clear c17
                                  try clear c17b0
                                  try clear p17
                                  try clear q17
                                  try clear hx17
                                  try clear q27
                                  try clear c30
                                  try clear q30
                                  try clear c34
                                  try clear c34b0
                                  try clear c34b1
                                  try clear c36
                                  try clear c39
                                  try clear c55
                                  try clear c56
                                  try clear c56b0
                                  try clear c58
                                  try clear c58b0
                                  try clear c59
                                  try clear c61
                                  try clear c61b0
                                  try clear c62
                                  try clear c62b0
                                  try clear c63
                                  try clear c63b0
                                  try clear p64
                                  try clear hcz22_0
                                  try clear hcz22_1
                                  try clear hcz22_2
                                  try clear hcz22_3
                                  try clear hcz22_4
                                  try clear hcz24_0
                                  try clear hcz24_1
                                  try clear hcz24_2
                                  try clear hcz24_3
                                  try clear hcz24_4
                                  try clear hcz32_0
                                  try clear hcz32_1
                                  try clear hcz32_2
                                  try clear hcz32_3
                                  try clear hcz32_4
                                  try clear hfz22_0
                                  try clear hfz22_1
                                  try clear hfz22_2
                                  try clear hfz22_3
                                  try clear hfz22_4
                                  try clear hfz24_0
                                  try clear hfz24_1
                                  try clear hfz24_2
                                  try clear hfz24_3
                                  try clear hfz24_4
                                  try clear hfz32_0
                                  try clear hfz32_1
                                  try clear hfz32_2
                                  try clear hfz32_3
                                  try clear hfz32_4
                                  try clear hx175_0
                                  try clear hx175_1
                                  try clear hx176_0
                                  try clear hx176_1
                                  try clear p175
                                  try clear p176
                                  try clear p2
                                  try clear p6
                                  try clear q030
                                  try clear q175
                                  try clear q176
                                  try clear q2
                                  try clear q27
                                  try clear q3
                                  try clear q30
                                  obtain ⟨x21_5, x23_5, rfl, rfl, HA, HK5, HO_9, BK140, HB⟩ := hrel
                                  cases gk with
                                  | zero => exact absurd HA.out (by simp [tailracelaw13_OpersJoins.l2])
                                  | succ k5 =>
                                    have H := HA.out
                                    clear HA
                                    simp only [tailracelaw13_OpersJoins.l2] at H
                                    by_cases c65 : x23_5 < (l1.length : Int)
                                    · rw [if_pos c65] at H
                                      have c65b0 : decide (x23_5 < (l1.length : Int)) = true := decide_eq_true c65
                                      clear c65
                                      by_cases c66 : x21_5 = true
                                      · subst c66
                                        have H1 : (tailracelaw13_OpersJoins.l2 k5 l0 l1 t141 x19_3 x20_4 true (wrap64 (x23_5 + 1))) = some r := by rw [if_pos rfl] at H; exact H
                                        clear H
                                        have H := H1
                                        clear H1
                                        have H' := Aside0.mk H
                                        clear H
                                        try go_wp2
                                        have n0_ := Aside0.mk (Kd.R_drew HO_9.out)
                                        have n1_ := Aside0.mk (blk_drew BK140.out)
                                        have n2_ := Aside0.mk (below_drew1 HB.out)
                                        clear HO_9
                                        clear BK140
                                        clear HB
                                        have HO_9 := n0_
                                        have BK140 := n1_
                                        have HB := n2_
                                        clear n0_ n1_ n2_
                                        refine start_ (n := 15) (S := fun w' => True) (ds := []) #[false, false, false, false, false, false, false, false, false, false, false, false, false, false, false] (by kernel_rfl) rfl rfl trivial (fun hHeld => ?_); refine with_tabW tailracelaw13_OpersJoins.tab23 tailracelaw13_OpersJoins.bits23 (fun HT_ HW_ => ?_)
                                        generalize wr.drew = w67 at HO_9 BK140 HB hHeld ⊢
                                        refine pure_ (i := 0) (N := some 137) (v := ?_) (a' := ?_) #[true, false, false, false, false, false, false, false, false, false, false, false, false, false, false] rfl rfl (any_of HT_.out (by kernel_rfl)) (fun _ _ _ h => h) (Or.inl ⟨by rfl, ?_⟩) ?_ ?_
                                        rotate_left
                                        · intro w'
                                          go_simp
                                          with_reducible rfl
                                        rotate_left
                                        · simp only [Act.put, List.setIfInBounds_toArray, List.set_cons_zero, List.set_cons_succ, i64_w, i32_w]
                                          rfl
                                        refine pure_ (i := 1) (N := some 138) (v := ?_) (a' := ?_) #[true, true, false, false, false, false, false, false, false, false, false, false, false, false, false] rfl rfl (any_of HT_.out (by kernel_rfl)) (fun _ _ _ h => h) (Or.inl ⟨by rfl, ?_⟩) ?_ ?_
                                        rotate_left
                                        · intro w'
                                          go_simp
                                          with_reducible rfl
                                        rotate_left
                                        · simp only [Act.put, List.setIfInBounds_toArray, List.set_cons_zero, List.set_cons_succ, i64_w, i32_w]
                                          rfl
                                        refine pure_ (i := 2) (N := some 139) (v := undef) (a' := ?_) #[true, true, true, false, false, false, false, false, false, false, false, false, false, false, false] rfl rfl (any_of HT_.out (by kernel_rfl)) (fun _ _ _ h => h) (Or.inr ⟨by rfl, rfl⟩) ?_ ?_
                                        rotate_left
                                        · simp only [Act.put, List.setIfInBounds_toArray, List.set_cons_zero, List.set_cons_succ, i64_w, i32_w]
                                          rfl
                                        refine pure_ (i := 3) (N := some 140) (v := undef) (a' := ?_) #[true, true, true, true, false, false, false, false, false, false, false, false, false, false, false] rfl rfl (any_of HT_.out (by kernel_rfl)) (fun _ _ _ h => h) (Or.inr ⟨by rfl, rfl⟩) ?_ ?_
                                        rotate_left
                                        · simp only [Act.put, List.setIfInBounds_toArray, List.set_cons_zero, List.set_cons_succ, i64_w, i32_w]
                                          rfl
                                        refine pure_ (i := 4) (N := some 141) (v := undef) (a' := ?_) #[true, true, true, true, true, false, false, false, false, false, false, false, false, false, false] rfl rfl (any_of HT_.out (by kernel_rfl)) (fun _ _ _ h => h) (Or.inr ⟨by rfl, rfl⟩) ?_ ?_
                                        rotate_left
                                        · simp only [Act.put, List.setIfInBounds_toArray, List.set_cons_zero, List.set_cons_succ, i64_w, i32_w]
                                          rfl
                                        refine pure_ (i := 5) (N := some 142) (v := undef) (a' := ?_) #[true, true, true, true, true, true, false, false, false, false, false, false, false, false, false] rfl rfl (any_of HT_.out (by kernel_rfl)) (fun _ _ _ h => h) (Or.inr ⟨by rfl, rfl⟩) ?_ ?_
                                        rotate_left
                                        · simp only [Act.put, List.setIfInBounds_toArray, List.set_cons_zero, List.set_cons_succ, i64_w, i32_w]
                                          rfl
                                        refine pure_ (i := 6) (N := some 143) (v := undef) (a' := ?_) #[true, true, true, true, true, true, true, false, false, false, false, false, false, false, false] rfl rfl (any_of HT_.out (by kernel_rfl)) (fun _ _ _ h => h) (Or.inr ⟨by rfl, rfl⟩) ?_ ?_
                                        rotate_left
                                        · simp only [Act.put, List.setIfInBounds_toArray, List.set_cons_zero, List.set_cons_succ, i64_w, i32_w]
                                          rfl
                                        refine pure_ (i := 7) (N := some 144) (v := undef) (a' := ?_) #[true, true, true, true, true, true, true, true, false, false, false, false, false, false, false] rfl rfl (any_of HT_.out (by kernel_rfl)) (fun _ _ _ h => h) (Or.inr ⟨by rfl, rfl⟩) ?_ ?_
                                        rotate_left
                                        · simp only [Act.put, List.setIfInBounds_toArray, List.set_cons_zero, List.set_cons_succ, i64_w, i32_w]
                                          rfl
                                        refine pure_ (i := 8) (N := some 145) (v := undef) (a' := ?_) #[true, true, true, true, true, true, true, true, true, false, false, false, false, false, false] rfl rfl (any_of HT_.out (by kernel_rfl)) (fun _ _ _ h => h) (Or.inr ⟨by rfl, rfl⟩) ?_ ?_
                                        rotate_left
                                        · simp only [Act.put, List.setIfInBounds_toArray, List.set_cons_zero, List.set_cons_succ, i64_w, i32_w]
                                          rfl
                                        refine pure_ (i := 9) (N := some 146) (v := undef) (a' := ?_) #[true, true, true, true, true, true, true, true, true, true, false, false, false, false, false] rfl rfl (any_of HT_.out (by kernel_rfl)) (fun _ _ _ h => h) (Or.inr ⟨by rfl, rfl⟩) ?_ ?_
                                        rotate_left
                                        · simp only [Act.put, List.setIfInBounds_toArray, List.set_cons_zero, List.set_cons_succ, i64_w, i32_w]
                                          rfl
                                        refine pure_ (i := 10) (N := some 147) (v := undef) (a' := ?_) #[true, true, true, true, true, true, true, true, true, true, true, false, false, false, false] rfl rfl (any_of HT_.out (by kernel_rfl)) (fun _ _ _ h => h) (Or.inr ⟨by rfl, rfl⟩) ?_ ?_
                                        rotate_left
                                        · simp only [Act.put, List.setIfInBounds_toArray, List.set_cons_zero, List.set_cons_succ, i64_w, i32_w]
                                          rfl
                                        refine pure_ (i := 11) (N := some 148) (v := undef) (a' := ?_) #[true, true, true, true, true, true, true, true, true, true, true, true, false, false, false] rfl rfl (any_of HT_.out (by kernel_rfl)) (fun _ _ _ h => h) (Or.inr ⟨by rfl, rfl⟩) ?_ ?_
                                        rotate_left
                                        · simp only [Act.put, List.setIfInBounds_toArray, List.set_cons_zero, List.set_cons_succ, i64_w, i32_w]
                                          rfl
                                        refine pure_ (i := 12) (N := some 149) (v := undef) (a' := ?_) #[true, true, true, true, true, true, true, true, true, true, true, true, true, false, false] rfl rfl (any_of HT_.out (by kernel_rfl)) (fun _ _ _ h => h) (Or.inr ⟨by rfl, rfl⟩) ?_ ?_
                                        rotate_left
                                        · simp only [Act.put, List.setIfInBounds_toArray, List.set_cons_zero, List.set_cons_succ, i64_w, i32_w]
                                          rfl
                                        refine pure_ (i := 13) (N := some 150) (v := ?_) (a' := ?_) #[true, true, true, true, true, true, true, true, true, true, true, true, true, true, false] rfl rfl (any_of HT_.out (by kernel_rfl)) (fun _ _ _ h => h) (Or.inl ⟨by rfl, ?_⟩) ?_ ?_
                                        rotate_left
                                        · intro w'
                                          go_simp
                                          with_reducible rfl
                                        rotate_left
                                        · simp only [Act.put, List.setIfInBounds_toArray, List.set_cons_zero, List.set_cons_succ, i64_w, i32_w]
                                          rfl
                                        refine pure_ (i := 14) (N := some 21) (v := ?_) (a' := ?_) #[true, true, true, true, true, true, true, true, true, true, true, true, true, true, true] rfl rfl (any_of HT_.out (by kernel_rfl)) (fun _ _ _ h => h) (Or.inl ⟨by rfl, ?_⟩) ?_ ?_
                                        rotate_left
                                        · intro w'
                                          go_simp
                                          with_reducible rfl
                                        rotate_left
                                        · simp only [Act.put, List.setIfInBounds_toArray, List.set_cons_zero, List.set_cons_succ, i64_w, i32_w]
                                          rfl
                                        refine done_ (done_of HT_.out (by kernel_rfl)) ?_
                                        try go_wp2
                                        go_roundg k5
                                        case measure => have := HJ3.out; have := HJ19.out; have := HK3.out; have := HK4.out; have := HK5.out; omega
                                        case rel => exact ⟨(true), (wrap64 (x23_5 + 1)), (by first | rfl | (simp; done) | (simp [*]; done)), (by first | rfl | (simp; done) | (simp [*]; done)), H', ⟨by have := HJ3.out; have := HJ19.out; have := HK3.out; have := HK4.out; have := HK5.out; omega⟩, ⟨by (with_reducible repeat (first | apply Kd.R_alloc | apply Kd.R_drewN | apply Kd.R_drew)); exact HO_9.out⟩, ⟨by (with_reducible repeat (first | refine blk_drewN ?_ _ | refine blk_drew ?_ | refine blk_alloc ?_ _)); exact BK140.out⟩, ⟨by repeat (first | (with_reducible first | exact HB.out | apply below_alloc | apply pw_below_drewN | apply below_drew1 | refine below_set ?_ GE140.out) | exact HB.out)⟩⟩
                                      · replace c66 := Bool.eq_false_iff.mpr c66
                                        subst c66
                                        have H1 : (if 0 ≤ x23_5 then (if 0 ≤ x19_3 then (if x19_3 < (t141.length : Int) then (tailracelaw13_OpersJoins.l2 k5 l0 l1 t141 x19_3 x20_4 (((rd_T36 l1 x23_5).f0) == ((rd_T36 t141 x19_3).f0)) (wrap64 (x23_5 + 1))) else (none)) else (none)) else (none)) = some r := by rw [if_neg (show ¬ (false = true) by decide)] at H; exact H
                                        clear H
                                        have H := H1
                                        clear H1
                                        by_cases c68 : 0 ≤ x23_5
                                        · rw [if_pos c68] at H
                                          have c68b0 : decide (0 ≤ x23_5) = true := decide_eq_true c68
                                          clear c68
                                          by_cases c69 : 0 ≤ x19_3
                                          · rw [if_pos c69] at H
                                            have c69b0 : decide (0 ≤ x19_3) = true := decide_eq_true c69
                                            clear c69
                                            by_cases c70 : x19_3 < (t141.length : Int)
                                            · as_aux_lemma =>
                                              rw [if_pos c70] at H
                                              have c70b0 : decide (x19_3 < (t141.length : Int)) = true := decide_eq_true c70
                                              clear c70
                                              have H' := Aside0.mk H
                                              clear H
                                              try go_wp2
                                              have n0_ := Aside0.mk (Kd.R_drew HO_9.out)
                                              have n1_ := Aside0.mk (blk_drew BK140.out)
                                              have n2_ := Aside0.mk (below_drew1 HB.out)
                                              clear HO_9
                                              clear BK140
                                              clear HB
                                              have HO_9 := n0_
                                              have BK140 := n1_
                                              have HB := n2_
                                              clear n0_ n1_ n2_
                                              have p177 : 0 ≤ (x23_5 : Int) := of_decide_eq_true (by first | (with_reducible assumption) | assumption)
                                              have q177 : x23_5 < (l1.length : Int) := of_decide_eq_true (by first | (with_reducible assumption) | assumption)
                                              obtain ⟨ad177, e177, hx177_0, hx177_1⟩ := at_T36 HR1.out x23_5 p177 q177
                                              have hw177_1 := hx177_1
                                              have hw177_0 := hx177_0
                                              cases e177
                                              replace hx177_0 := (HB.out.cell (World.block_lt_of_cell? w _ hx177_0)).trans hx177_0
                                              replace hx177_1 := (HB.out.cell (World.block_lt_of_cell? w _ hx177_1)).trans hx177_1
                                              replace p177 := eq_true p177
                                              replace q177 := eq_true q177
                                              have p178 : 0 ≤ (x19_3 : Int) := of_decide_eq_true (by first | (with_reducible assumption) | assumption)
                                              have q178 : x19_3 < (t141.length : Int) := of_decide_eq_true (by first | (with_reducible assumption) | assumption)
                                              obtain ⟨ad178, e178, hx178_0, hx178_1⟩ := at_T36 (Kd.R_reads' HO_9.out).2.2 x19_3 p178 q178
                                              cases e178
                                              replace p178 := eq_true p178
                                              replace q178 := eq_true q178
                                              refine start_ (n := 15) (S := fun w' => w'.cell? (ad177.add ((x23_5).toNat * 2)) = some (.int .i64 ((rd_T36 l1 x23_5).f0)) ∧ w'.cell? ⟨(ad177.add ((x23_5).toNat * 2)).block, (ad177.add ((x23_5).toNat * 2)).off + 1, none⟩ = some (.int .i64 ((rd_T36 l1 x23_5).f1)) ∧ w'.cell? (ad178.add ((x19_3).toNat * 2)) = some (.int .i64 ((rd_T36 t141 x19_3).f0)) ∧ w'.cell? ⟨(ad178.add ((x19_3).toNat * 2)).block, (ad178.add ((x19_3).toNat * 2)).off + 1, none⟩ = some (.int .i64 ((rd_T36 t141 x19_3).f1))) (ds := []) #[false, false, false, false, false, false, false, false, false, false, false, false, false, false, false] (by kernel_rfl) rfl rfl ⟨((HB.out.cell (World.block_lt_of_cell? w _ hw177_0)).trans hw177_0), ((HB.out.cell (World.block_lt_of_cell? w _ hw177_1)).trans hw177_1), hx178_0, hx178_1⟩ (fun hHeld => ?_); refine with_tabW tailracelaw13_OpersJoins.tab23 tailracelaw13_OpersJoins.bits23 (fun HT_ HW_ => ?_)
                                              generalize wr.drew = w71 at HO_9 BK140 HB hx177_0 hx177_1 hx178_0 hx178_1 hHeld ⊢
                                              refine pure_ (i := 0) (N := some 137) (v := ?_) (a' := ?_) #[true, false, false, false, false, false, false, false, false, false, false, false, false, false, false] rfl rfl (any_of HT_.out (by kernel_rfl)) (fun _ _ _ h => h) (Or.inl ⟨by rfl, ?_⟩) ?_ ?_
                                              rotate_left
                                              · intro w'
                                                go_simp
                                                with_reducible rfl
                                              rotate_left
                                              · simp only [Act.put, List.setIfInBounds_toArray, List.set_cons_zero, List.set_cons_succ, i64_w, i32_w]
                                                rfl
                                              refine pure_ (i := 1) (N := some 138) (v := ?_) (a' := ?_) #[true, true, false, false, false, false, false, false, false, false, false, false, false, false, false] rfl rfl (any_of HT_.out (by kernel_rfl)) (fun _ _ _ h => h) (Or.inl ⟨by rfl, ?_⟩) ?_ ?_
                                              rotate_left
                                              · intro w'
                                                go_simp
                                                with_reducible rfl
                                              rotate_left
                                              · simp only [Act.put, List.setIfInBounds_toArray, List.set_cons_zero, List.set_cons_succ, i64_w, i32_w]
                                                rfl
                                              refine pure_ (i := 2) (N := some 139) (v := ?_) (a' := ?_) #[true, true, true, false, false, false, false, false, false, false, false, false, false, false, false] rfl rfl (any_of HT_.out (by kernel_rfl)) (fun _ _ _ h => h) (Or.inl ⟨by rfl, ?_⟩) ?_ ?_
                                              rotate_left
                                              · intro w'
                                                go_simp
                                                with_reducible rfl
                                              rotate_left
                                              · simp only [Act.put, List.setIfInBounds_toArray, List.set_cons_zero, List.set_cons_succ, i64_w, i32_w]
                                                rfl
                                              refine pure_ (i := 3) (N := some 140) (v := ?_) (a' := ?_) #[true, true, true, true, false, false, false, false, false, false, false, false, false, false, false] rfl rfl (any_of HT_.out (by kernel_rfl)) (fun _ _ _ h => h) (Or.inl ⟨by rfl, ?_⟩) ?_ ?_
                                              rotate_left
                                              · intro w'
                                                go_simp
                                                with_reducible rfl
                                              rotate_left
                                              · simp only [Act.put, List.setIfInBounds_toArray, List.set_cons_zero, List.set_cons_succ, i64_w, i32_w]
                                                rfl
                                              refine pure_ (i := 4) (N := some 141) (v := ?_) (a' := ?_) #[true, true, true, true, true, false, false, false, false, false, false, false, false, false, false] rfl rfl (any_of HT_.out (by kernel_rfl)) (fun _ _ _ h => h) (Or.inl ⟨by rfl, ?_⟩) ?_ ?_
                                              rotate_left
                                              · intro w'
                                                go_simp
                                                with_reducible rfl
                                              rotate_left
                                              · simp only [Act.put, List.setIfInBounds_toArray, List.set_cons_zero, List.set_cons_succ, i64_w, i32_w]
                                                rfl
                                              refine pure_ (i := 5) (N := some 142) (v := ?_) (a' := ?_) #[true, true, true, true, true, true, false, false, false, false, false, false, false, false, false] rfl rfl (any_of HT_.out (by kernel_rfl)) (fun _ _ _ h => h) (Or.inl ⟨by rfl, ?_⟩) ?_ ?_
                                              rotate_left
                                              · intro w'
                                                go_simp
                                                with_reducible rfl
                                              rotate_left
                                              · simp only [Act.put, List.setIfInBounds_toArray, List.set_cons_zero, List.set_cons_succ, i64_w, i32_w]
                                                rfl
                                              refine pure_ (i := 7) (N := some 144) (v := ?_) (a' := ?_) #[true, true, true, true, true, true, false, true, false, false, false, false, false, false, false] rfl rfl (any_of HT_.out (by kernel_rfl)) (fun _ _ _ h => h) (Or.inl ⟨by rfl, ?_⟩) ?_ ?_
                                              rotate_left
                                              · intro w'
                                                go_simp
                                                with_reducible rfl
                                              rotate_left
                                              · simp only [Act.put, List.setIfInBounds_toArray, List.set_cons_zero, List.set_cons_succ, i64_w, i32_w]
                                                rfl
                                              refine pure_ (i := 8) (N := some 145) (v := ?_) (a' := ?_) #[true, true, true, true, true, true, false, true, true, false, false, false, false, false, false] rfl rfl (any_of HT_.out (by kernel_rfl)) (fun _ _ _ h => h) (Or.inl ⟨by rfl, ?_⟩) ?_ ?_
                                              rotate_left
                                              · intro w'
                                                go_simp
                                                with_reducible rfl
                                              rotate_left
                                              · simp only [Act.put, List.setIfInBounds_toArray, List.set_cons_zero, List.set_cons_succ, i64_w, i32_w]
                                                rfl
                                              refine pure_ (i := 9) (N := some 146) (v := ?_) (a' := ?_) #[true, true, true, true, true, true, false, true, true, true, false, false, false, false, false] rfl rfl (any_of HT_.out (by kernel_rfl)) (fun _ _ _ h => h) (Or.inl ⟨by rfl, ?_⟩) ?_ ?_
                                              rotate_left
                                              · intro w'
                                                go_simp
                                                with_reducible rfl
                                              rotate_left
                                              · simp only [Act.put, List.setIfInBounds_toArray, List.set_cons_zero, List.set_cons_succ, i64_w, i32_w]
                                                rfl
                                              refine pure_ (i := 10) (N := some 147) (v := ?_) (a' := ?_) #[true, true, true, true, true, true, false, true, true, true, true, false, false, false, false] rfl rfl (any_of HT_.out (by kernel_rfl)) (fun _ _ _ h => h) (Or.inl ⟨by rfl, ?_⟩) ?_ ?_
                                              rotate_left
                                              · intro w'
                                                go_simp
                                                with_reducible rfl
                                              rotate_left
                                              · simp only [Act.put, List.setIfInBounds_toArray, List.set_cons_zero, List.set_cons_succ, i64_w, i32_w]
                                                rfl
                                              refine take_ (i := 6) (N := some 143) (v := ?_) (a' := ?_) #[true, true, true, true, true, true, true, true, true, true, true, false, false, false, false] rfl rfl (take_ofW HT_.out HW_.out (by kernel_rfl)) (fun _ _ _ h => h) (Or.inl ⟨by rfl, ?_⟩) hHeld ?_ ?_
                                              rotate_left
                                              · rintro w' ⟨s0, s1, s2, s3⟩
                                                go_simp
                                                with_reducible rfl
                                              rotate_left
                                              · simp only [Act.put, List.setIfInBounds_toArray, List.set_cons_zero, List.set_cons_succ, i64_w, i32_w]
                                                rfl
                                              refine take_ (i := 11) (N := some 148) (v := ?_) (a' := ?_) #[true, true, true, true, true, true, true, true, true, true, true, true, false, false, false] rfl rfl (take_ofW HT_.out HW_.out (by kernel_rfl)) (fun _ _ _ h => h) (Or.inl ⟨by rfl, ?_⟩) hHeld ?_ ?_
                                              rotate_left
                                              · rintro w' ⟨s0, s1, s2, s3⟩
                                                go_simp
                                                with_reducible rfl
                                              rotate_left
                                              · simp only [Act.put, List.setIfInBounds_toArray, List.set_cons_zero, List.set_cons_succ, i64_w, i32_w]
                                                rfl
                                              refine pure_ (i := 12) (N := some 149) (v := ?_) (a' := ?_) #[true, true, true, true, true, true, true, true, true, true, true, true, true, false, false] rfl rfl (any_of HT_.out (by kernel_rfl)) (fun _ _ _ h => h) (Or.inl ⟨by rfl, ?_⟩) ?_ ?_
                                              rotate_left
                                              · intro w'
                                                go_simp
                                                with_reducible rfl
                                              rotate_left
                                              · simp only [Act.put, List.setIfInBounds_toArray, List.set_cons_zero, List.set_cons_succ, i64_w, i32_w]
                                                rfl
                                              refine pure_ (i := 13) (N := some 150) (v := ?_) (a' := ?_) #[true, true, true, true, true, true, true, true, true, true, true, true, true, true, false] rfl rfl (any_of HT_.out (by kernel_rfl)) (fun _ _ _ h => h) (Or.inl ⟨by rfl, ?_⟩) ?_ ?_
                                              rotate_left
                                              · intro w'
                                                go_simp
                                                with_reducible rfl
                                              rotate_left
                                              · simp only [Act.put, List.setIfInBounds_toArray, List.set_cons_zero, List.set_cons_succ, i64_w, i32_w]
                                                rfl
                                              refine pure_ (i := 14) (N := some 21) (v := ?_) (a' := ?_) #[true, true, true, true, true, true, true, true, true, true, true, true, true, true, true] rfl rfl (any_of HT_.out (by kernel_rfl)) (fun _ _ _ h => h) (Or.inl ⟨by rfl, ?_⟩) ?_ ?_
                                              rotate_left
                                              · intro w'
                                                go_simp
                                                with_reducible rfl
                                              rotate_left
                                              · simp only [Act.put, List.setIfInBounds_toArray, List.set_cons_zero, List.set_cons_succ, i64_w, i32_w]
                                                rfl
                                              refine done_ (done_of HT_.out (by kernel_rfl)) ?_
                                              try go_wp2
                                              go_roundg k5
                                              case measure => have := HJ3.out; have := HJ19.out; have := HK3.out; have := HK4.out; have := HK5.out; omega
                                              case rel => exact ⟨((((rd_T36 l1 x23_5).f0) == ((rd_T36 t141 x19_3).f0))), (wrap64 (x23_5 + 1)), (by first | rfl | (simp; done) | (simp [*]; done)), (by first | rfl | (simp; done) | (simp [*]; done)), H', ⟨by have := HJ3.out; have := HJ19.out; have := HK3.out; have := HK4.out; have := HK5.out; omega⟩, ⟨by (with_reducible repeat (first | apply Kd.R_alloc | apply Kd.R_drewN | apply Kd.R_drew)); exact HO_9.out⟩, ⟨by (with_reducible repeat (first | refine blk_drewN ?_ _ | refine blk_drew ?_ | refine blk_alloc ?_ _)); exact BK140.out⟩, ⟨by repeat (first | (with_reducible first | exact HB.out | apply below_alloc | apply pw_below_drewN | apply below_drew1 | refine below_set ?_ GE140.out) | exact HB.out)⟩⟩
                                            · rw [if_neg c70] at H
                                              exact absurd H (by simp)
                                          · rw [if_neg c69] at H
                                            exact absurd H (by simp)
                                        · rw [if_neg c68] at H
                                          exact absurd H (by simp)
                                    · as_aux_lemma =>
                                      rw [if_neg c65] at H
                                      have c65b0 : decide (x23_5 < (l1.length : Int)) = false := decide_eq_false c65
                                      clear c65
                                      by_cases c72 : x20_4 = true
                                      · subst c72
                                        have H1 : (if x21_5 = true then (tailracelaw13_OpersJoins.l0 k5 l0 l1 t141 (wrap64 (x19_3 + 1))) else (some false)) = some r := by rw [if_pos rfl] at H; exact H
                                        clear H
                                        have H := H1
                                        clear H1
                                        by_cases c73 : x21_5 = true
                                        · subst c73
                                          have H1 : (tailracelaw13_OpersJoins.l0 k5 l0 l1 t141 (wrap64 (x19_3 + 1))) = some r := by rw [if_pos rfl] at H; exact H
                                          clear H
                                          have H := H1
                                          clear H1
                                          have H' := Aside0.mk H
                                          clear H
                                          go_wp2
                                          go_roundg k5
                                          case measure => have := HJ3.out; have := HJ19.out; have := HK3.out; have := HK4.out; have := HK5.out; omega
                                          case rel => exact ⟨(wrap64 (x19_3 + 1)), (by first | rfl | (simp; done) | (simp [*]; done)), H', ⟨by have := HJ3.out; have := HJ19.out; have := HK3.out; have := HK4.out; have := HK5.out; omega⟩, ⟨by (with_reducible repeat (first | apply Kd.R_alloc | apply Kd.R_drewN | apply Kd.R_drew)); exact HO_9.out⟩, ⟨by (with_reducible repeat (first | refine blk_drewN ?_ _ | refine blk_drew ?_ | refine blk_alloc ?_ _)); exact BK140.out⟩, ⟨by repeat (first | (with_reducible first | exact HB.out | apply below_alloc | apply pw_below_drewN | apply below_drew1 | refine below_set ?_ GE140.out) | exact HB.out)⟩⟩
                                        · replace c73 := Bool.eq_false_iff.mpr c73
                                          subst c73
                                          have H1 : (some false) = some r := by rw [if_neg (show ¬ (false = true) by decide)] at H; exact H
                                          clear H
                                          have H := H1
                                          clear H1
                                          obtain rfl := Option.some.inj H
                                          go_wp2
                                          go_ret
                                          exact ⟨by first | rfl | (simp [errW_none, errW_some] <;> rfl) | (simp only [← hji12]; first | rfl | (simp [errW_none, errW_some] <;> rfl)) | (simp [*, errW_none, errW_some] <;> rfl), by repeat (first | (with_reducible first | exact HB.out | apply below_alloc | apply pw_below_drewN | apply below_drew1 | refine below_set ?_ GE140.out) | exact HB.out)⟩
                                      · replace c72 := Bool.eq_false_iff.mpr c72
                                        subst c72
                                        have H1 : (some false) = some r := by rw [if_neg (show ¬ (false = true) by decide)] at H; exact H
                                        clear H
                                        have H := H1
                                        clear H1
                                        obtain rfl := Option.some.inj H
                                        go_wp2
                                        go_ret
                                        exact ⟨by first | rfl | (simp [errW_none, errW_some] <;> rfl) | (simp only [← hji12]; first | rfl | (simp [errW_none, errW_some] <;> rfl)) | (simp [*, errW_none, errW_some] <;> rfl), by repeat (first | (with_reducible first | exact HB.out | apply below_alloc | apply pw_below_drewN | apply below_drew1 | refine below_set ?_ GE140.out) | exact HB.out)⟩
                        · rw [if_neg c56] at H
                          have c56b0 : decide (x19_3 < (t141.length : Int)) = false := decide_eq_false c56
                          clear c56
                          replace H := Option.bind_eq_some_iff.mp H
                          obtain ⟨t174, A740, H⟩ := H
                          replace H : (some t174) = some r := H
                          have A74 := Aside0.mk A740
                          clear A740
                          obtain rfl := Option.some.inj H
                          obtain ⟨Ao75, co75, eo75⟩ := Kd.R_slice HO_9.out
                          subst eo75
                          go_wp2_with (first | ((with_reducible refine gate_callee (f := 11) rfl ?_); refine goesL_ (some 157) rfl rfl Try.func11 (by kernel_rfl) rfl #[] rfl (by (try simp only [List.map_toArray, List.map_cons, List.map_nil]); first | done | rfl | (simp only [List.length_drop, List.length_take]; rfl)) ?_; (with_reducible refine (tailracelaw13_works.calls  t174 _ A74.out).mono ?_); rintro e w76 ⟨rfl, hb⟩; refine ⟨_, rfl, ?_⟩; have n0_ := Aside0.mk (Kd.R_below (by (with_reducible repeat (first | apply Kd.R_alloc | apply Kd.R_drewN | apply Kd.R_drew)); exact HO_9.out) hb); have n1_ := Aside0.mk (blk_below (g := gb140) (o := .cells #[.int .u8 6, .int .u8 0, .int .i64 0, .int .i64 0, .slice none 0 0] 24 (0, 0)) (by (with_reducible repeat (first | refine blk_drewN ?_ _ | refine blk_drew ?_ | refine blk_alloc ?_ _)); exact BK140.out) hb); have n2_ := Aside0.mk (below_step (by repeat (first | (with_reducible first | exact HB.out | apply below_alloc | apply pw_below_drewN | apply below_drew1 | refine below_set ?_ GE140.out) | exact HB.out)) hb); clear HO_9; clear BK140; clear HB; have HO_9 := n0_; have BK140 := n1_; have HB := n2_; clear n0_ n1_ n2_; (try clear hb); (try clear hb2); (try clear hk); (try clear hi)))
                          go_ret
                          exact ⟨by first | rfl | (simp [errW_none, errW_some] <;> rfl) | (simp only [← hji12]; first | rfl | (simp [errW_none, errW_some] <;> rfl)) | (simp [*, errW_none, errW_some] <;> rfl), by repeat (first | (with_reducible first | exact HB.out | apply below_alloc | apply pw_below_drewN | apply below_drew1 | refine below_set ?_ GE140.out) | exact HB.out)⟩
            · rw [if_neg c14] at H
              exact absurd H (by simp)
          · rw [if_neg c13] at H
            exact absurd H (by simp)
end Go.Proofs.Ytcihpjkjodhdpaa.X
namespace Go.Proofs.Ytcihpjkjodhdpaa.X
set_option linter.unusedVariables false
set_option linter.unusedSimpArgs false
open Go.RowKit Go.Proofs.YtcihpjkjodhdpaaW.PrintWords Go.Proofs.YtcihpjkjodhdpaaW.PrintLast Go.Proofs.YtcihpjkjodhdpaaW.PrintMore
theorem rdAt (l : List S36) (i : Nat) (h : i < l.length) : rd_T36 l (i : Int) = l[i] := by
  unfold rd_T36
  rw [Int.toNat_natCast, List.getD_eq_getElem?_getD, List.getElem?_eq_getElem h, Option.getD_some]
section
variable (a b x : List S36) (i : Nat) (r : Bool)
theorem join_l2 (hb : b.length ≤ 1000) (hx : x.length ≤ 10000) (hi : i < x.length) (h : Ev (fun k => tailracelaw13_OpersJoins.l0 k a b x ((i + 1 : Nat) : Int)) r) :
    ∀ (d j : Nat) (x21 : Bool), j + d = b.length → (x21 = true ∨ (rd_T36 x (i : Int)).f0 ∈ (b.drop j).map S36.f0) → Ev (fun k => tailracelaw13_OpersJoins.l2 k a b x (i : Int) true x21 (j : Int)) r
  | 0, j, x21, hj, hk => by
    have : x21 = true := by
      rcases hk with hk | hk
      · exact hk
      · rw [List.drop_of_length_le (by omega)] at hk; simp at hk
    subst this
    refine Ev.step (fun k => ?_) h
    rw [tailracelaw13_OpersJoins.l2, if_neg (by omega), if_pos rfl, if_pos rfl, wrap_small (by omega) (by omega)]
    rfl
  | d + 1, j, x21, hj, hk => by
    have hlt : j < b.length := by omega
    by_cases e : x21 = true
    · subst e
      refine Ev.step (fun k => ?_) (join_l2 hb hx hi h d (j + 1) true (by omega) (.inl rfl))
      rw [tailracelaw13_OpersJoins.l2, if_pos (by omega), if_pos rfl, wrap_small (by omega) (by omega)]
      rfl
    · refine Ev.step (fun k => ?_) (join_l2 hb hx hi h d (j + 1) ((rd_T36 b (j : Int)).f0 == (rd_T36 x (i : Int)).f0) (by omega) ?_)
      · rw [tailracelaw13_OpersJoins.l2, if_pos (by omega), if_neg e, if_pos (by omega), if_pos (by omega), if_pos (by omega), wrap_small (by omega) (by omega)]
        rfl
      · rcases hk with hk | hk
        · exact absurd hk e
        · rw [List.drop_eq_getElem_cons hlt, List.map_cons] at hk
          rcases List.mem_cons.1 hk with hk | hk
          · left; rw [rdAt b j hlt, ← hk]; simp
          · right; exact hk
theorem join_l1 (ha : a.length ≤ 1000) (hx : x.length ≤ 10000) (hi : i < x.length) (h : Ev (fun k => tailracelaw13_OpersJoins.l2 k a b x (i : Int) true false 0) r) :
    ∀ (d j : Nat) (x20 : Bool), j + d = a.length → (x20 = true ∨ (rd_T36 x (i : Int)).f0 ∈ (a.drop j).map S36.f0) → Ev (fun k => tailracelaw13_OpersJoins.l1 k a b x (i : Int) x20 false (j : Int)) r
  | 0, j, x20, hj, hk => by
    have : x20 = true := by
      rcases hk with hk | hk
      · exact hk
      · rw [List.drop_of_length_le (by omega)] at hk; simp at hk
    subst this
    refine Ev.step (fun k => ?_) h
    rw [tailracelaw13_OpersJoins.l1, if_neg (by omega)]
  | d + 1, j, x20, hj, hk => by
    have hlt : j < a.length := by omega
    by_cases e : x20 = true
    · subst e
      refine Ev.step (fun k => ?_) (join_l1 ha hx hi h d (j + 1) true (by omega) (.inl rfl))
      rw [tailracelaw13_OpersJoins.l1, if_pos (by omega), if_pos rfl, wrap_small (by omega) (by omega)]
      rfl
    · refine Ev.step (fun k => ?_) (join_l1 ha hx hi h d (j + 1) ((rd_T36 a (j : Int)).f0 == (rd_T36 x (i : Int)).f0) (by omega) ?_)
      · rw [tailracelaw13_OpersJoins.l1, if_pos (by omega), if_neg e, if_pos (by omega), if_pos (by omega), if_pos (by omega), wrap_small (by omega) (by omega)]
        rfl
      · rcases hk with hk | hk
        · exact absurd hk e
        · rw [List.drop_eq_getElem_cons hlt, List.map_cons] at hk
          rcases List.mem_cons.1 hk with hk | hk
          · left; rw [rdAt a j hlt, ← hk]; simp
          · right; exact hk
end
theorem join_l0 (a b x : List S36) (ha : a.length ≤ 1000) (hb : b.length ≤ 1000) (hx : x.length ≤ 10000) (hk : ∀ y ∈ x, y.f0 ∈ a.map S36.f0 ∧ y.f0 ∈ b.map S36.f0) :
    ∀ (d i : Nat), i + d = x.length → Ev (fun k => tailracelaw13_OpersJoins.l0 k a b x (i : Int)) true
  | 0, i, hi => Ev.step (f := fun _ => some true) (fun k => by rw [tailracelaw13_OpersJoins.l0, if_neg (by omega)]; rfl) (Ev.now _)
  | d + 1, i, hi => by
    have hlt : i < x.length := by omega
    have hm : rd_T36 x (i : Int) ∈ x := by rw [rdAt x i hlt]; exact List.getElem_mem _
    obtain ⟨k1, k2⟩ := hk _ hm
    have h2 := join_l2 a b x i true hb hx hlt (join_l0 a b x ha hb hx hk d (i + 1) (by omega)) b.length 0 false (Nat.zero_add _) (.inr (by simpa using k2))
    have h1 := join_l1 a b x i true ha hx hlt h2 a.length 0 false (Nat.zero_add _) (.inr (by simpa using k1))
    refine Ev.step (fun k => ?_) h1
    rw [tailracelaw13_OpersJoins.l0, if_pos (by omega)]
    rfl
theorem OpersJoins_ev (a b : List S36) (c : Int) (h0 : 0 ≤ c) (h255 : c ≤ 255) (hw : ∀ x ∈ a, wf36 x) (hv : ∀ x ∈ b, wf36 x) : Ev (fun k => tailracelaw13_OpersJoins.f k a b c) true := by
  have hesc : Ev (fun k => tailracelaw13_OpersJoins.j0 k a b c true) true := Ev.step (f := fun _ => some true) (fun k => by rw [tailracelaw13_OpersJoins.j0, if_pos rfl]; rfl) (Ev.now _)
  unfold tailracelaw13_OpersJoins.f
  by_cases ha : (a.length : Int) > 40
  · simp only [if_pos ha]; exact hesc
  simp only [if_neg ha]
  by_cases hb : (b.length : Int) > 40
  · rw [decide_eq_true hb]; exact hesc
  rw [decide_eq_false hb]
  have hla : a.length ≤ 40 := by omega
  have hlb : b.length ≤ 40 := by omega
  have e1 : wrap64 c = c := wrap_small (by omega) (by omega)
  have e2 : wrap64 ((a.length : Int) + 1) = (a.length : Int) + 1 := wrap_small (by omega) (by omega)
  have t0 : 0 ≤ Int.tmod c ((a.length : Int) + 1) := Int.tmod_nonneg _ h0
  have t1 : Int.tmod c ((a.length : Int) + 1) < (a.length : Int) + 1 := Int.tmod_lt_of_pos _ (by omega)
  generalize hq : Int.tmod c ((a.length : Int) + 1) = q at t0 t1
  have hlen : (srt (joinL a b)).length ≤ 1600 := by
    rw [srt_length]
    exact Nat.le_trans (joinL_length a b) (Nat.mul_le_mul hla hlb)
  have hl1 : (srt (joinL (a.take q.toNat) b)).length ≤ 1600 := by
    rw [srt_length]
    exact Nat.le_trans (joinL_length _ b) (Nat.mul_le_mul (show (a.take q.toNat).length ≤ 40 by rw [List.length_take]; omega) hlb)
  have hl2 : (srt (joinL (a.drop q.toNat) b)).length ≤ 1600 := by
    rw [srt_length]
    exact Nat.le_trans (joinL_length _ b) (Nat.mul_le_mul (show (a.drop q.toNat).length ≤ 40 by rw [List.length_drop]; omega) hlb)
  have hl0 := join_l0 a b (srt (joinL a b)) (by omega) (by omega) (by omega) (fun y hy => joinL_keys (srt_mem.1 hy)) (srt (joinL a b)).length 0 (Nat.zero_add _)
  have hj1 : Ev (fun k => tailracelaw13_OpersJoins.j1 k a b (srt (joinL a b)) false) true := by
    refine Ev.step (fun k => ?_) hl0
    rw [tailracelaw13_OpersJoins.j1, if_neg (by simp)]
    rfl
  have hal := alike_ev (srt (joinL a b)) (by omega)
  have r1 := run_join a b (by omega) hw (by omega) hv
  have r2 := run_join b a (by omega) hv (by omega) hw
  rw [srt_perm (joinL_comm b a)] at r2
  have r3 := run_join (a.take q.toNat) b (by rw [List.length_take]; omega) (fun x hx => hw x (List.mem_of_mem_take hx)) (by omega) hv
  have r4 := run_join (a.drop q.toNat) b (by rw [List.length_drop]; omega) (fun x hx => hw x (List.mem_of_mem_drop hx)) (by omega) hv
  have r5 := run_join a [] (by omega) hw (by simp) (by simp)
  rw [joinL_nil, srt_nil] at r5
  have r6 := add_two (srt (joinL (a.take q.toNat) b)) (srt (joinL (a.drop q.toNat) b)) (by omega)
  rw [srt_app, ← joinL_cut] at r6
  refine Ev.step (f := fun k => (tailraceref12_Alike.f k (srt (joinL a b)) (srt (joinL a b))).bind fun t169 => (if t169 = true then ((some (srt (joinL a b))).bind fun t170 => ((tailraceref12_Alike.f k (srt (joinL a b)) t170).bind fun t173 => (if t173 = true then (tailracelaw13_OpersJoins.j1 k a b (srt (joinL a b)) false) else (tailracelaw13_OpersJoins.j1 k a b (srt (joinL a b)) true)))) else (tailracelaw13_OpersJoins.j1 k a b (srt (joinL a b)) true))) (fun k => ?_) ?_
  · rw [tailracelaw13_OpersJoins.j0, if_neg (by simp), e1, e2, if_neg (by omega), hq, r1, r2]
    simp only [Option.bind_some]
    rw [if_pos t0, if_pos (by omega), r3, r4, r5]
    simp only [Option.bind_some, if_true, r6]
    simp
  · refine Ev.bind hal ?_
    simp only [if_true, Option.bind_some]
    refine Ev.bind hal ?_
    simp only [if_true]
    exact hj1
end Go.Proofs.Ytcihpjkjodhdpaa.X
namespace Go.Proofs.Ytcihpjkjodhdpaa.X
set_option linter.unusedVariables false
set_option linter.unusedSimpArgs false
open Go.RowKit Go.Proofs.YtcihpjkjodhdpaaW.PrintWords Go.Proofs.YtcihpjkjodhdpaaW.PrintLast Go.Proofs.YtcihpjkjodhdpaaW.PrintMore
open Go.ChangeShapes Go.WideShapes
section
variable {H : Type} {enc : TypeId × Value → H} {W : World} {fuel : Nat} {x : DataW H × List MemPlace} {cs : List Value}
set_option maxRecDepth 10000 in
theorem open_rec (h : DataW.trod enc Try.prog W 0 (fun _ => true) true fuel 36 cs = some x) : ∃ y : S36, cs = [.int .i64 y.f0, .int .i64 y.f1] ∧ wf36 y := by
  obtain ⟨xs, n, _, _, hl, hlen, hf⟩ := DataW.trod_struct Try.underlying36 h
  have hc : Try.prog.cellsOf 36 = 2 := by kernel_rfl
  have hc2 : Try.prog.cellsOf 2 = 1 := by kernel_rfl
  rw [hc] at hl
  match cs, hl with
  | [c0, c1], _ =>
    match xs, hlen with
    | [y0, y1], _ =>
      have h0 : DataW.trod enc Try.prog W 0 (fun _ => true) true n 2 (([c0, c1].drop 0).take (Try.prog.cellsOf 2)) = some y0 := hf 0 _ rfl
      rw [hc2] at h0
      replace h0 : DataW.trod enc Try.prog W 0 (fun _ => true) true n 2 [c0] = some y0 := h0
      have h1 : DataW.trod enc Try.prog W 0 (fun _ => true) true n 2 (([c0, c1].drop 1).take (Try.prog.cellsOf 2)) = some y1 := hf 1 _ rfl
      rw [hc2] at h1
      replace h1 : DataW.trod enc Try.prog W 0 (fun _ => true) true n 2 [c1] = some y1 := h1
      obtain ⟨z0, e0, _, w0⟩ := DataW.trod_int Try.underlying2 h0
      obtain ⟨z1, e1, _, w1⟩ := DataW.trod_int Try.underlying2 h1
      simp only [List.cons.injEq, and_true] at e0 e1
      subst e0 e1
      exact ⟨⟨z0, z1⟩, rfl, w0, w1⟩
theorem open_slice_of {α : Type} [Inhabited α] {d : Kd α} {e : TypeId} {sz : Nat} (he : Try.prog.cellsOf e = sz) (hs : d.sz = sz) (Pr : α → Prop)
    (hopen : ∀ {fuel : Nat} {cs : List Value} {x : DataW H × List MemPlace}, DataW.trod enc Try.prog W 0 (fun _ => true) true fuel e cs = some x → ∃ y : α, d.K W y cs ∧ Pr y)
    {t : TypeId} (ht : Try.prog.underlying t = some (.slice e)) (h : DataW.trod enc Try.prog W 0 (fun _ => true) true fuel t cs = some x) : ∃ (a : Option Addr) (cap : Nat) (G : List α), cs = [.slice a G.length cap] ∧ G.length ≤ cap ∧ Kd.C d W a G.length G ∧ ∀ y ∈ G, Pr y := by
  rcases Go.Deep.open_slice ht h with ⟨hcs, _⟩ | ⟨ad, l, c, m, n, D, Pl, hcs, _, hl, hm, hmm, _, hx⟩
  · exact ⟨none, 0, [], hcs, Nat.le_refl _, ⟨rfl, by simp, fun h => absurd h (Nat.not_lt_zero _)⟩, by simp⟩
  · simp only [if_true] at hmm
    rw [he] at hx
    obtain ⟨g, hg⟩ := Go.Deep.choose_lt (α := α) (p := fun i y => ∃ cs', W.cells? 0 (ad.add (i * sz)) sz = some cs' ∧ d.K W y cs' ∧ Pr y) (n := m) fun i hi => by
      obtain ⟨cs', h1, h2⟩ := hx i hi
      obtain ⟨y, hy, hp⟩ := hopen h2
      exact ⟨y, cs', h1, hy, hp⟩
    have hlen : ((List.range l).map g).length = l := by simp
    refine ⟨some ad, c, (List.range l).map g, by rw [hlen]; exact hcs, by rw [hlen]; exact hl, ⟨rfl, ?_, fun _ => ⟨ad, rfl, fun j p hp => ?_⟩⟩, fun y hy => ?_⟩
    · unfold maxLen at hm
      rw [hlen]
      omega
    · rw [List.getElem?_map] at hp
      by_cases hj : j < l
      · rw [List.getElem?_range hj] at hp
        obtain rfl : g j = p := by simpa using hp
        obtain ⟨cs', h1, h2, _⟩ := hg j (by omega)
        obtain ⟨_, h3, h4⟩ := World.cells?_some h1
        refine ⟨cs', by rw [h3, hs], h2, fun i u hu => ?_⟩
        have hi : i < sz := by
          rcases Nat.lt_or_ge i sz with h | h
          · exact h
          · rw [List.getElem?_eq_none (by omega)] at hu; exact absurd hu (by simp)
        rw [hs, ← Go.Deep.add_add, h4 i hi, hu]
      · rw [List.getElem?_eq_none (by simp; omega)] at hp
        exact absurd hp (by simp)
    · obtain ⟨j, hj, rfl⟩ := List.mem_map.1 hy
      obtain ⟨_, _, _, hp⟩ := hg j (by have := List.mem_range.1 hj; omega)
      exact hp
instance : Inhabited S36 := ⟨z36⟩
theorem open_recs (h : DataW.trod enc Try.prog W 0 (fun _ => true) true fuel 28 cs = some x) : ∃ (a : Option Addr) (cap : Nat) (G : List S36), cs = [.slice a G.length cap] ∧ G.length ≤ cap ∧ Kd.C k36 W a G.length G ∧ ∀ y ∈ G, wf36 y :=
  open_slice_of (d := k36) (by kernel_rfl) rfl wf36 (fun h => by obtain ⟨y, rfl, hw⟩ := open_rec h; exact ⟨y, k36_mk _ y, hw⟩) Try.underlying28 h
end
end Go.Proofs.Ytcihpjkjodhdpaa.X
