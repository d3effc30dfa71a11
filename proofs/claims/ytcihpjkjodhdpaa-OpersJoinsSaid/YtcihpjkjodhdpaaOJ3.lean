/- A part of the proof. -/
import Derived.Test.YtcihpjkjodhdpaaOJ2
namespace Go.Proofs.Ytcihpjkjodhdpaa.X
set_option linter.unusedVariables false
set_option linter.unusedSimpArgs false
open Go.RowKit Go.Proofs.YtcihpjkjodhdpaaW.PrintWords Go.Proofs.YtcihpjkjodhdpaaW.PrintLast Go.Proofs.YtcihpjkjodhdpaaW.PrintMore
theorem step_ok (t : St) (h : (stepC t).2 = true) : (stepC t).1.d = 1 ∨ (stepC t).1.d = 2 ∨ (stepC t).1.d = 3 := by
  unfold stepC at *
  by_cases h1 : rightB t = false
  · rw [if_pos h1] at h; cases h
  rw [if_neg h1] at h ⊢
  by_cases h2 : t.d = 0
  · rw [if_pos h2] at h; cases h
  rw [if_neg h2] at h ⊢
  by_cases h3 : rightB (stepped t) = false
  · rw [if_pos h3] at h; cases h
  rw [if_neg h3]
  have h4 := right_in (t := t) (by simpa using h1)
  show t.d = 1 ∨ t.d = 2 ∨ t.d = 3
  omega
def timeC (k b : Int) (t : St) : St × Bool :=
  if k = 7 then intoC t else if k = 8 then outC t else if k = 9 then (if (stepC t).2 = false then (St.zero, false) else if (stepC t).1.loop ((stepC t).1.d - 1).toNat ≥ b then (St.zero, false) else ((stepC t).1, true))
  else if rightB t = false then (St.zero, false) else (t, true)
def otime.T8 : Bool × List (List Nat × List Nat) := (true, [([], []), ([0], [0]), ([1], [1]), ([2], [2]), ([3, 2], [2, 3]), ([4, 2], [2, 4]), ([2], [2]), ([6, 5, 2], [2, 5, 6]), ([7, 2], [2, 7]), ([2], [2]), ([9, 2], [2, 9]), ([8, 10, 2], [2, 8, 10]), ([2, 11], [2, 11])])
def otime.B8 : List Nat := [0, 1, 3, 7, 15, 31, 7, 127, 255, 7, 519, 2047, 4095]
theorem otime.tab8 : rtab .any (opsOf Try.f17 8) = otime.T8 := by kernel_rfl
theorem otime.bits8 : waitsOk otime.T8.2 otime.B8 = true := by kernel_rfl
set_option maxHeartbeats 8000000 in
set_option maxRecDepth 100000 in
theorem opers_Time_calls (n0 n1 n2 n3 : Int) (A4 : Option Addr) (m4 c4 : Nat) (t : St) (w : World) : Calls Try.prog 17 #[.agg #[.int .u8 n0, .int .u8 n1, .int .i64 n2, .int .i64 n3, .slice A4 m4 c4], stV t] w fun e w' => e = .returned (.tuple #[stV (timeC n0 n2 t).1, .bool (timeC n0 n2 t).2]) ∧ Below w.heap.size w w' := by
  obtain ⟨d, e, a, b, c⟩ := t
  show Calls Try.prog 17 #[.agg #[.int .u8 n0, .int .u8 n1, .int .i64 n2, .int .i64 n3, .slice A4 m4 c4], .agg #[.int .i64 d, .int .i64 e, .int .i64 a, .int .i64 b, .int .i64 c]] w _
  by_cases k7 : n0 = 7
  · subst k7
    have HBN := Aside0.mk (blk_alloc (blk_alloc (blk_new w (.cells #[.int .u8 7, .int .u8 n1, .int .i64 n2, .int .i64 n3, .slice A4 m4 c4] 24)) (.cells #[.int .i64 d, .int .i64 e, .int .i64 a, .int .i64 b, .int .i64 c] 40)) (.cells #[.int .i64 0, .int .i64 0, .int .i64 0, .int .i64 0, .int .i64 0] 40))
    have HB1 := Aside0.mk (show ((((w.alloc (.cells #[.int .u8 7, .int .u8 n1, .int .i64 n2, .int .i64 n3, .slice A4 m4 c4] 24)).alloc (.cells #[.int .i64 d, .int .i64 e, .int .i64 a, .int .i64 b, .int .i64 c] 40)).alloc (.cells #[.int .i64 0, .int .i64 0, .int .i64 0, .int .i64 0, .int .i64 0] 40))).heap[w.heap.size + 1]? = some (.cells #[.int .i64 d, .int .i64 e, .int .i64 a, .int .i64 b, .int .i64 c] 40 (0, 0)) from blk_alloc (by simpa using heap_alloc_last (w.alloc (.cells #[.int .u8 7, .int .u8 n1, .int .i64 n2, .int .i64 n3, .slice A4 m4 c4] 24)) (.cells #[.int .i64 d, .int .i64 e, .int .i64 a, .int .i64 b, .int .i64 c] 40)) _)
    have HB2 := Aside0.mk (show ((((w.alloc (.cells #[.int .u8 7, .int .u8 n1, .int .i64 n2, .int .i64 n3, .slice A4 m4 c4] 24)).alloc (.cells #[.int .i64 d, .int .i64 e, .int .i64 a, .int .i64 b, .int .i64 c] 40)).alloc (.cells #[.int .i64 0, .int .i64 0, .int .i64 0, .int .i64 0, .int .i64 0] 40))).heap[w.heap.size + 2]? = some (.cells #[.int .i64 0, .int .i64 0, .int .i64 0, .int .i64 0, .int .i64 0] 40 (0, 0)) by simpa using heap_alloc_last ((w.alloc (.cells #[.int .u8 7, .int .u8 n1, .int .i64 n2, .int .i64 n3, .slice A4 m4 c4] 24)).alloc (.cells #[.int .i64 d, .int .i64 e, .int .i64 a, .int .i64 b, .int .i64 c] 40)) (.cells #[.int .i64 0, .int .i64 0, .int .i64 0, .int .i64 0, .int .i64 0] 40))
    have hHB2 := Aside0.mk (below_alloc (below_alloc (below_alloc (Below.refl w.heap.size w) (.cells #[.int .u8 7, .int .u8 n1, .int .i64 n2, .int .i64 n3, .slice A4 m4 c4] 24)) (.cells #[.int .i64 d, .int .i64 e, .int .i64 a, .int .i64 b, .int .i64 c] 40)) (.cells #[.int .i64 0, .int .i64 0, .int .i64 0, .int .i64 0, .int .i64 0] 40))
    have HC0 := Aside0.mk (stamp_Into_calls ⟨d, e, a, b, c⟩ ((((w.alloc (.cells #[.int .u8 7, .int .u8 n1, .int .i64 n2, .int .i64 n3, .slice A4 m4 c4] 24)).alloc (.cells #[.int .i64 d, .int .i64 e, .int .i64 a, .int .i64 b, .int .i64 c] 40)).alloc (.cells #[.int .i64 0, .int .i64 0, .int .i64 0, .int .i64 0, .int .i64 0] 40))))
    have HF := Aside0.mk (show timeC 7 n2 ⟨d, e, a, b, c⟩ = intoC ⟨d, e, a, b, c⟩ by simp [timeC])
    generalize intoC ⟨d, e, a, b, c⟩ = u at HC0 HF
    obtain ⟨⟨u0, u1, u2, u3, u4⟩, r⟩ := u
    simp only [stV] at HC0
    go_enter Try.func17, Try.ntmps17
    go_wp2_with (go_at_call 36; refine HC0.out.mono ?_; rintro e1 w1 ⟨rfl, hb⟩; have HX1 := Aside0.mk (blk_below HB1.out hb); have HX2 := Aside0.mk (blk_below HB2.out hb); have HBW := Aside0.mk (below_step hHB2.out hb); clear hb; have p1_0 := (blk_cell HX1.out 0).trans rfl; have p1_1 := (blk_cell HX1.out 1).trans rfl; have p1_2 := (blk_cell HX1.out 2).trans rfl; have p1_3 := (blk_cell HX1.out 3).trans rfl; have p1_4 := (blk_cell HX1.out 4).trans rfl; have r1_0 := (blk_cell HX2.out 0).trans rfl; have r1_1 := (blk_cell HX2.out 1).trans rfl; have r1_2 := (blk_cell HX2.out 2).trans rfl; have r1_3 := (blk_cell HX2.out 3).trans rfl; have r1_4 := (blk_cell HX2.out 4).trans rfl; have f1_0 := blk_frozen HX1.out 0; have f1_1 := blk_frozen HX1.out 1; have f1_2 := blk_frozen HX1.out 2; have f1_3 := blk_frozen HX1.out 3; have f1_4 := blk_frozen HX1.out 4; have g1_0 := blk_frozen HX2.out 0; have g1_1 := blk_frozen HX2.out 1; have g1_2 := blk_frozen HX2.out 2; have g1_3 := blk_frozen HX2.out 3; have g1_4 := blk_frozen HX2.out 4)
    refine bodyPost_ret (results_ct rfl _ _ (w.heap.size + 2) 40 #[.int .i64 u0, .int .i64 u1, .int .i64 u2, .int .i64 u3, .int .i64 u4] (0, 0) _ rfl (by rw [(blk_set (blk_set (blk_set (blk_set (blk_set HX2.out 0 (.int .i64 u0)) 1 (.int .i64 u1)) 2 (.int .i64 u2)) 3 (.int .i64 u3)) 4 (.int .i64 u4))]; rfl) Try.underlying40 rfl (by kernel_rfl)) rfl ?_
    exact ⟨by rw [HF.out]; rfl, (below_set (below_set (below_set (below_set (below_set HBW.out (by show w.heap.size ≤ w.heap.size + 2; omega)) (by show w.heap.size ≤ w.heap.size + 2; omega)) (by show w.heap.size ≤ w.heap.size + 2; omega)) (by show w.heap.size ≤ w.heap.size + 2; omega)) (by show w.heap.size ≤ w.heap.size + 2; omega))⟩
  by_cases k8 : n0 = 8
  · subst k8
    have HBN := Aside0.mk (blk_alloc (blk_alloc (blk_new w (.cells #[.int .u8 8, .int .u8 n1, .int .i64 n2, .int .i64 n3, .slice A4 m4 c4] 24)) (.cells #[.int .i64 d, .int .i64 e, .int .i64 a, .int .i64 b, .int .i64 c] 40)) (.cells #[.int .i64 0, .int .i64 0, .int .i64 0, .int .i64 0, .int .i64 0] 40))
    have HB1 := Aside0.mk (show ((((w.alloc (.cells #[.int .u8 8, .int .u8 n1, .int .i64 n2, .int .i64 n3, .slice A4 m4 c4] 24)).alloc (.cells #[.int .i64 d, .int .i64 e, .int .i64 a, .int .i64 b, .int .i64 c] 40)).alloc (.cells #[.int .i64 0, .int .i64 0, .int .i64 0, .int .i64 0, .int .i64 0] 40))).heap[w.heap.size + 1]? = some (.cells #[.int .i64 d, .int .i64 e, .int .i64 a, .int .i64 b, .int .i64 c] 40 (0, 0)) from blk_alloc (by simpa using heap_alloc_last (w.alloc (.cells #[.int .u8 8, .int .u8 n1, .int .i64 n2, .int .i64 n3, .slice A4 m4 c4] 24)) (.cells #[.int .i64 d, .int .i64 e, .int .i64 a, .int .i64 b, .int .i64 c] 40)) _)
    have HB2 := Aside0.mk (show ((((w.alloc (.cells #[.int .u8 8, .int .u8 n1, .int .i64 n2, .int .i64 n3, .slice A4 m4 c4] 24)).alloc (.cells #[.int .i64 d, .int .i64 e, .int .i64 a, .int .i64 b, .int .i64 c] 40)).alloc (.cells #[.int .i64 0, .int .i64 0, .int .i64 0, .int .i64 0, .int .i64 0] 40))).heap[w.heap.size + 2]? = some (.cells #[.int .i64 0, .int .i64 0, .int .i64 0, .int .i64 0, .int .i64 0] 40 (0, 0)) by simpa using heap_alloc_last ((w.alloc (.cells #[.int .u8 8, .int .u8 n1, .int .i64 n2, .int .i64 n3, .slice A4 m4 c4] 24)).alloc (.cells #[.int .i64 d, .int .i64 e, .int .i64 a, .int .i64 b, .int .i64 c] 40)) (.cells #[.int .i64 0, .int .i64 0, .int .i64 0, .int .i64 0, .int .i64 0] 40))
    have hHB2 := Aside0.mk (below_alloc (below_alloc (below_alloc (Below.refl w.heap.size w) (.cells #[.int .u8 8, .int .u8 n1, .int .i64 n2, .int .i64 n3, .slice A4 m4 c4] 24)) (.cells #[.int .i64 d, .int .i64 e, .int .i64 a, .int .i64 b, .int .i64 c] 40)) (.cells #[.int .i64 0, .int .i64 0, .int .i64 0, .int .i64 0, .int .i64 0] 40))
    have HC0 := Aside0.mk (stamp_Out_calls ⟨d, e, a, b, c⟩ ((((w.alloc (.cells #[.int .u8 8, .int .u8 n1, .int .i64 n2, .int .i64 n3, .slice A4 m4 c4] 24)).alloc (.cells #[.int .i64 d, .int .i64 e, .int .i64 a, .int .i64 b, .int .i64 c] 40)).alloc (.cells #[.int .i64 0, .int .i64 0, .int .i64 0, .int .i64 0, .int .i64 0] 40))))
    have HF := Aside0.mk (show timeC 8 n2 ⟨d, e, a, b, c⟩ = outC ⟨d, e, a, b, c⟩ by simp [timeC])
    generalize outC ⟨d, e, a, b, c⟩ = u at HC0 HF
    obtain ⟨⟨u0, u1, u2, u3, u4⟩, r⟩ := u
    simp only [stV] at HC0
    go_enter Try.func17, Try.ntmps17
    go_wp2_with (go_at_call 37; refine HC0.out.mono ?_; rintro e1 w1 ⟨rfl, hb⟩; have HX1 := Aside0.mk (blk_below HB1.out hb); have HX2 := Aside0.mk (blk_below HB2.out hb); have HBW := Aside0.mk (below_step hHB2.out hb); clear hb; have p1_0 := (blk_cell HX1.out 0).trans rfl; have p1_1 := (blk_cell HX1.out 1).trans rfl; have p1_2 := (blk_cell HX1.out 2).trans rfl; have p1_3 := (blk_cell HX1.out 3).trans rfl; have p1_4 := (blk_cell HX1.out 4).trans rfl; have r1_0 := (blk_cell HX2.out 0).trans rfl; have r1_1 := (blk_cell HX2.out 1).trans rfl; have r1_2 := (blk_cell HX2.out 2).trans rfl; have r1_3 := (blk_cell HX2.out 3).trans rfl; have r1_4 := (blk_cell HX2.out 4).trans rfl; have f1_0 := blk_frozen HX1.out 0; have f1_1 := blk_frozen HX1.out 1; have f1_2 := blk_frozen HX1.out 2; have f1_3 := blk_frozen HX1.out 3; have f1_4 := blk_frozen HX1.out 4; have g1_0 := blk_frozen HX2.out 0; have g1_1 := blk_frozen HX2.out 1; have g1_2 := blk_frozen HX2.out 2; have g1_3 := blk_frozen HX2.out 3; have g1_4 := blk_frozen HX2.out 4)
    refine bodyPost_ret (results_ct rfl _ _ (w.heap.size + 2) 40 #[.int .i64 u0, .int .i64 u1, .int .i64 u2, .int .i64 u3, .int .i64 u4] (0, 0) _ rfl (by rw [(blk_set (blk_set (blk_set (blk_set (blk_set HX2.out 0 (.int .i64 u0)) 1 (.int .i64 u1)) 2 (.int .i64 u2)) 3 (.int .i64 u3)) 4 (.int .i64 u4))]; rfl) Try.underlying40 rfl (by kernel_rfl)) rfl ?_
    exact ⟨by rw [HF.out]; rfl, (below_set (below_set (below_set (below_set (below_set HBW.out (by show w.heap.size ≤ w.heap.size + 2; omega)) (by show w.heap.size ≤ w.heap.size + 2; omega)) (by show w.heap.size ≤ w.heap.size + 2; omega)) (by show w.heap.size ≤ w.heap.size + 2; omega)) (by show w.heap.size ≤ w.heap.size + 2; omega))⟩
  by_cases k9 : n0 = 9
  · subst k9
    have HBN := Aside0.mk (blk_alloc (blk_alloc (blk_new w (.cells #[.int .u8 9, .int .u8 n1, .int .i64 n2, .int .i64 n3, .slice A4 m4 c4] 24)) (.cells #[.int .i64 d, .int .i64 e, .int .i64 a, .int .i64 b, .int .i64 c] 40)) (.cells #[.int .i64 0, .int .i64 0, .int .i64 0, .int .i64 0, .int .i64 0] 40))
    have HB1 := Aside0.mk (show ((((w.alloc (.cells #[.int .u8 9, .int .u8 n1, .int .i64 n2, .int .i64 n3, .slice A4 m4 c4] 24)).alloc (.cells #[.int .i64 d, .int .i64 e, .int .i64 a, .int .i64 b, .int .i64 c] 40)).alloc (.cells #[.int .i64 0, .int .i64 0, .int .i64 0, .int .i64 0, .int .i64 0] 40))).heap[w.heap.size + 1]? = some (.cells #[.int .i64 d, .int .i64 e, .int .i64 a, .int .i64 b, .int .i64 c] 40 (0, 0)) from blk_alloc (by simpa using heap_alloc_last (w.alloc (.cells #[.int .u8 9, .int .u8 n1, .int .i64 n2, .int .i64 n3, .slice A4 m4 c4] 24)) (.cells #[.int .i64 d, .int .i64 e, .int .i64 a, .int .i64 b, .int .i64 c] 40)) _)
    have HB2 := Aside0.mk (show ((((w.alloc (.cells #[.int .u8 9, .int .u8 n1, .int .i64 n2, .int .i64 n3, .slice A4 m4 c4] 24)).alloc (.cells #[.int .i64 d, .int .i64 e, .int .i64 a, .int .i64 b, .int .i64 c] 40)).alloc (.cells #[.int .i64 0, .int .i64 0, .int .i64 0, .int .i64 0, .int .i64 0] 40))).heap[w.heap.size + 2]? = some (.cells #[.int .i64 0, .int .i64 0, .int .i64 0, .int .i64 0, .int .i64 0] 40 (0, 0)) by simpa using heap_alloc_last ((w.alloc (.cells #[.int .u8 9, .int .u8 n1, .int .i64 n2, .int .i64 n3, .slice A4 m4 c4] 24)).alloc (.cells #[.int .i64 d, .int .i64 e, .int .i64 a, .int .i64 b, .int .i64 c] 40)) (.cells #[.int .i64 0, .int .i64 0, .int .i64 0, .int .i64 0, .int .i64 0] 40))
    have hHB2 := Aside0.mk (below_alloc (below_alloc (below_alloc (Below.refl w.heap.size w) (.cells #[.int .u8 9, .int .u8 n1, .int .i64 n2, .int .i64 n3, .slice A4 m4 c4] 24)) (.cells #[.int .i64 d, .int .i64 e, .int .i64 a, .int .i64 b, .int .i64 c] 40)) (.cells #[.int .i64 0, .int .i64 0, .int .i64 0, .int .i64 0, .int .i64 0] 40))
    have HC0 := Aside0.mk (stamp_Step_calls ⟨d, e, a, b, c⟩ ((((w.alloc (.cells #[.int .u8 9, .int .u8 n1, .int .i64 n2, .int .i64 n3, .slice A4 m4 c4] 24)).alloc (.cells #[.int .i64 d, .int .i64 e, .int .i64 a, .int .i64 b, .int .i64 c] 40)).alloc (.cells #[.int .i64 0, .int .i64 0, .int .i64 0, .int .i64 0, .int .i64 0] 40))))
    have hok := step_ok ⟨d, e, a, b, c⟩
    have hF : timeC 9 n2 ⟨d, e, a, b, c⟩ = (if (stepC ⟨d, e, a, b, c⟩).2 = false then (St.zero, false) else if (stepC ⟨d, e, a, b, c⟩).1.loop ((stepC ⟨d, e, a, b, c⟩).1.d - 1).toNat ≥ n2 then (St.zero, false) else ((stepC ⟨d, e, a, b, c⟩).1, true)) := by simp [timeC]
    generalize stepC ⟨d, e, a, b, c⟩ = u at HC0 hF hok
    obtain ⟨⟨u0, u1, u2, u3, u4⟩, r⟩ := u
    simp only [stV] at HC0
    simp only at hok
    cases r with
    | false =>
      have HF := Aside0.mk (show timeC 9 n2 ⟨d, e, a, b, c⟩ = (St.zero, false) by rw [hF]; simp)
      clear hF hok
      go_enter Try.func17, Try.ntmps17
      go_wp2_with (go_at_call 38; refine HC0.out.mono ?_; rintro e1 w1 ⟨rfl, hb⟩; have HXN := Aside0.mk (blk_below HBN.out hb); have HX2 := Aside0.mk (blk_below HB2.out hb); have HBW := Aside0.mk (below_step hHB2.out hb); clear hb)
      have HZN := Aside0.mk (blk_drew (blk_alloc HXN.out (.cells #[.int .i64 u0, .int .i64 u1, .int .i64 u2, .int .i64 u3, .int .i64 u4] 40)))
      have HZ2 := Aside0.mk (blk_drew (blk_alloc HX2.out (.cells #[.int .i64 u0, .int .i64 u1, .int .i64 u2, .int .i64 u3, .int .i64 u4] 40)))
      have HZ6 := Aside0.mk (blk_drew (blk_new w1 (.cells #[.int .i64 u0, .int .i64 u1, .int .i64 u2, .int .i64 u3, .int .i64 u4] 40)))
      have HZB := Aside0.mk ((below_alloc HBW.out (.cells #[.int .i64 u0, .int .i64 u1, .int .i64 u2, .int .i64 u3, .int .i64 u4] 40)).drew)
      have hS0 : (fun W => W.cell? ⟨w1.heap.size, 0, none⟩ = some (.int .i64 u0) ∧ W.cell? ⟨w1.heap.size, 1, none⟩ = some (.int .i64 u1) ∧ W.cell? ⟨w.heap.size, 2, none⟩ = some (.int .i64 n2)) (w1.alloc (.cells #[.int .i64 u0, .int .i64 u1, .int .i64 u2, .int .i64 u3, .int .i64 u4] 40)).drew := ⟨(blk_cell HZ6.out 0).trans rfl, (blk_cell HZ6.out 1).trans rfl, (blk_cell HZN.out 2).trans rfl⟩
      have z0 : wrap64 0 = 0 := by unfold wrap64; omega
      have z1 : wrap64 1 = 1 := by unfold wrap64; omega
      have z2 : wrap64 2 = 2 := by unfold wrap64; omega
      refine start_ (n := 13) (S := fun W => W.cell? ⟨w1.heap.size, 0, none⟩ = some (.int .i64 u0) ∧ W.cell? ⟨w1.heap.size, 1, none⟩ = some (.int .i64 u1) ∧ W.cell? ⟨w.heap.size, 2, none⟩ = some (.int .i64 n2)) (ds := []) #[false, false, false, false, false, false, false, false, false, false, false, false, false] (by kernel_rfl) rfl rfl hS0 (fun hHeld => ?_)
      refine with_tabW otime.tab8 otime.bits8 (fun HT_ HW_ => ?_)
      clear hS0
      generalize (w1.alloc (.cells #[.int .i64 u0, .int .i64 u1, .int .i64 u2, .int .i64 u3, .int .i64 u4] 40)).drew = wz at hHeld HZN HZ2 HZ6 HZB ⊢
      refine pure_ (i := 0) (N := (some 29)) (v := ?_) (a' := ?_) #[true, false, false, false, false, false, false, false, false, false, false, false, false] rfl rfl (any_of HT_.out (by kernel_rfl)) (fun _ _ _ h => h) (Or.inl ⟨by rfl, ?_⟩) ?_ ?_
      rotate_left
      · intro w'
        go_simp
        (try with_reducible rfl)
      rotate_left
      · simp only [Act.put, List.setIfInBounds_toArray, List.set_cons_zero, List.set_cons_succ, i64_w, i32_w]
        rfl
      refine pure_ (i := 1) (N := (some 30)) (v := ?_) (a' := ?_) #[true, true, false, false, false, false, false, false, false, false, false, false, false] rfl rfl (any_of HT_.out (by kernel_rfl)) (fun _ _ _ h => h) (Or.inl ⟨by rfl, ?_⟩) ?_ ?_
      rotate_left
      · intro w'
        go_simp
        (try with_reducible rfl)
      rotate_left
      · simp only [Act.put, List.setIfInBounds_toArray, List.set_cons_zero, List.set_cons_succ, i64_w, i32_w]
        rfl
      refine pure_ (i := 2) (N := (some 31)) (v := ?_) (a' := ?_) #[true, true, true, false, false, false, false, false, false, false, false, false, false] rfl rfl (any_of HT_.out (by kernel_rfl)) (fun _ _ _ h => h) (Or.inl ⟨by rfl, ?_⟩) ?_ ?_
      rotate_left
      · intro w'
        go_simp
        (try with_reducible rfl)
      rotate_left
      · simp only [Act.put, List.setIfInBounds_toArray, List.set_cons_zero, List.set_cons_succ, i64_w, i32_w]
        rfl
      refine pure_ (i := 3) (N := (some 32)) (v := undef) (a' := ?_) #[true, true, true, true, false, false, false, false, false, false, false, false, false] rfl rfl (any_of HT_.out (by kernel_rfl)) (fun _ _ _ h => h) (Or.inr ⟨by rfl, rfl⟩) ?_ ?_
      rotate_left
      · simp only [Act.put, List.setIfInBounds_toArray, List.set_cons_zero, List.set_cons_succ, i64_w, i32_w]
        rfl
      refine pure_ (i := 4) (N := (some 33)) (v := undef) (a' := ?_) #[true, true, true, true, true, false, false, false, false, false, false, false, false] rfl rfl (any_of HT_.out (by kernel_rfl)) (fun _ _ _ h => h) (Or.inr ⟨by rfl, rfl⟩) ?_ ?_
      rotate_left
      · simp only [Act.put, List.setIfInBounds_toArray, List.set_cons_zero, List.set_cons_succ, i64_w, i32_w]
        rfl
      refine pure_ (i := 5) (N := (some 34)) (v := undef) (a' := ?_) #[true, true, true, true, true, true, false, false, false, false, false, false, false] rfl rfl (any_of HT_.out (by kernel_rfl)) (fun _ _ _ h => h) (Or.inr ⟨by rfl, rfl⟩) ?_ ?_
      rotate_left
      · simp only [Act.put, List.setIfInBounds_toArray, List.set_cons_zero, List.set_cons_succ, i64_w, i32_w]
        rfl
      refine pure_ (i := 6) (N := (some 35)) (v := undef) (a' := ?_) #[true, true, true, true, true, true, true, false, false, false, false, false, false] rfl rfl (any_of HT_.out (by kernel_rfl)) (fun _ _ _ h => h) (Or.inr ⟨by rfl, rfl⟩) ?_ ?_
      rotate_left
      · simp only [Act.put, List.setIfInBounds_toArray, List.set_cons_zero, List.set_cons_succ, i64_w, i32_w]
        rfl
      refine pure_ (i := 7) (N := (some 36)) (v := undef) (a' := ?_) #[true, true, true, true, true, true, true, true, false, false, false, false, false] rfl rfl (any_of HT_.out (by kernel_rfl)) (fun _ _ _ h => h) (Or.inr ⟨by rfl, rfl⟩) ?_ ?_
      rotate_left
      · simp only [Act.put, List.setIfInBounds_toArray, List.set_cons_zero, List.set_cons_succ, i64_w, i32_w]
        rfl
      refine pure_ (i := 8) (N := (some 37)) (v := undef) (a' := ?_) #[true, true, true, true, true, true, true, true, true, false, false, false, false] rfl rfl (any_of HT_.out (by kernel_rfl)) (fun _ _ _ h => h) (Or.inr ⟨by rfl, rfl⟩) ?_ ?_
      rotate_left
      · simp only [Act.put, List.setIfInBounds_toArray, List.set_cons_zero, List.set_cons_succ, i64_w, i32_w]
        rfl
      refine pure_ (i := 9) (N := (some 38)) (v := undef) (a' := ?_) #[true, true, true, true, true, true, true, true, true, true, false, false, false] rfl rfl (any_of HT_.out (by kernel_rfl)) (fun _ _ _ h => h) (Or.inr ⟨by rfl, rfl⟩) ?_ ?_
      rotate_left
      · simp only [Act.put, List.setIfInBounds_toArray, List.set_cons_zero, List.set_cons_succ, i64_w, i32_w]
        rfl
      refine pure_ (i := 10) (N := (some 39)) (v := undef) (a' := ?_) #[true, true, true, true, true, true, true, true, true, true, true, false, false] rfl rfl (any_of HT_.out (by kernel_rfl)) (fun _ _ _ h => h) (Or.inr ⟨by rfl, rfl⟩) ?_ ?_
      rotate_left
      · simp only [Act.put, List.setIfInBounds_toArray, List.set_cons_zero, List.set_cons_succ, i64_w, i32_w]
        rfl
      refine pure_ (i := 11) (N := (some 40)) (v := undef) (a' := ?_) #[true, true, true, true, true, true, true, true, true, true, true, true, false] rfl rfl (any_of HT_.out (by kernel_rfl)) (fun _ _ _ h => h) (Or.inr ⟨by rfl, rfl⟩) ?_ ?_
      rotate_left
      · simp only [Act.put, List.setIfInBounds_toArray, List.set_cons_zero, List.set_cons_succ, i64_w, i32_w]
        rfl
      refine pure_ (i := 12) (N := (some 41)) (v := ?_) (a' := ?_) #[true, true, true, true, true, true, true, true, true, true, true, true, true] rfl rfl (any_of HT_.out (by kernel_rfl)) (fun _ _ _ h => h) (Or.inl ⟨by rfl, ?_⟩) ?_ ?_
      rotate_left
      · intro w'
        go_simp
        (try with_reducible rfl)
      rotate_left
      · simp only [Act.put, List.setIfInBounds_toArray, List.set_cons_zero, List.set_cons_succ, i64_w, i32_w]
        rfl
      refine done_ (done_of HT_.out (by kernel_rfl)) ?_
      have p0 := (blk_cell HZ6.out 0).trans rfl
      have r0 := (blk_cell HZ2.out 0).trans rfl
      have f0 := blk_frozen HZ2.out 0
      have p1 := (blk_cell HZ6.out 1).trans rfl
      have r1 := (blk_cell HZ2.out 1).trans rfl
      have f1 := blk_frozen HZ2.out 1
      have p2 := (blk_cell HZ6.out 2).trans rfl
      have r2 := (blk_cell HZ2.out 2).trans rfl
      have f2 := blk_frozen HZ2.out 2
      have p3 := (blk_cell HZ6.out 3).trans rfl
      have r3 := (blk_cell HZ2.out 3).trans rfl
      have f3 := blk_frozen HZ2.out 3
      have p4 := (blk_cell HZ6.out 4).trans rfl
      have r4 := (blk_cell HZ2.out 4).trans rfl
      have f4 := blk_frozen HZ2.out 4
      go_wp2
      refine bodyPost_ret (results_ct rfl _ _ (w.heap.size + 2) 40 #[.int .i64 0, .int .i64 0, .int .i64 0, .int .i64 0, .int .i64 0] (0, 0) _ rfl (by rw [(blk_set (blk_set (blk_set (blk_set (blk_set HZ2.out 0 (.int .i64 0)) 1 (.int .i64 0)) 2 (.int .i64 0)) 3 (.int .i64 0)) 4 (.int .i64 0))]; rfl) Try.underlying40 rfl (by kernel_rfl)) rfl ?_
      exact ⟨by rw [HF.out]; rfl, (below_set (below_set (below_set (below_set (below_set HZB.out (by show w.heap.size ≤ w.heap.size + 2; omega)) (by show w.heap.size ≤ w.heap.size + 2; omega)) (by show w.heap.size ≤ w.heap.size + 2; omega)) (by show w.heap.size ≤ w.heap.size + 2; omega)) (by show w.heap.size ≤ w.heap.size + 2; omega))⟩
    | true =>
      have hu := hok rfl
      rcases hu with rfl | rfl | rfl
      · by_cases kn : u2 ≥ n2
        · have HF := Aside0.mk (show timeC 9 n2 ⟨d, e, a, b, c⟩ = (St.zero, false) by rw [hF]; simp [St.loop]; omega)
          clear hF hok
          go_enter Try.func17, Try.ntmps17
          go_wp2_with (go_at_call 38; refine HC0.out.mono ?_; rintro e1 w1 ⟨rfl, hb⟩; have HXN := Aside0.mk (blk_below HBN.out hb); have HX2 := Aside0.mk (blk_below HB2.out hb); have HBW := Aside0.mk (below_step hHB2.out hb); clear hb)
          have HZN := Aside0.mk (blk_drew (blk_alloc HXN.out (.cells #[.int .i64 1, .int .i64 u1, .int .i64 u2, .int .i64 u3, .int .i64 u4] 40)))
          have HZ2 := Aside0.mk (blk_drew (blk_alloc HX2.out (.cells #[.int .i64 1, .int .i64 u1, .int .i64 u2, .int .i64 u3, .int .i64 u4] 40)))
          have HZ6 := Aside0.mk (blk_drew (blk_new w1 (.cells #[.int .i64 1, .int .i64 u1, .int .i64 u2, .int .i64 u3, .int .i64 u4] 40)))
          have HZB := Aside0.mk ((below_alloc HBW.out (.cells #[.int .i64 1, .int .i64 u1, .int .i64 u2, .int .i64 u3, .int .i64 u4] 40)).drew)
          have hS0 : (fun W => W.cell? ⟨w1.heap.size, 0, none⟩ = some (.int .i64 1) ∧ W.cell? ⟨w1.heap.size, 2, none⟩ = some (.int .i64 u2) ∧ W.cell? ⟨w.heap.size, 2, none⟩ = some (.int .i64 n2)) (w1.alloc (.cells #[.int .i64 1, .int .i64 u1, .int .i64 u2, .int .i64 u3, .int .i64 u4] 40)).drew := ⟨(blk_cell HZ6.out 0).trans rfl, (blk_cell HZ6.out 2).trans rfl, (blk_cell HZN.out 2).trans rfl⟩
          have z0 : wrap64 0 = 0 := by unfold wrap64; omega
          have z1 : wrap64 1 = 1 := by unfold wrap64; omega
          have z2 : wrap64 2 = 2 := by unfold wrap64; omega
          refine start_ (n := 13) (S := fun W => W.cell? ⟨w1.heap.size, 0, none⟩ = some (.int .i64 1) ∧ W.cell? ⟨w1.heap.size, 2, none⟩ = some (.int .i64 u2) ∧ W.cell? ⟨w.heap.size, 2, none⟩ = some (.int .i64 n2)) (ds := []) #[false, false, false, false, false, false, false, false, false, false, false, false, false] (by kernel_rfl) rfl rfl hS0 (fun hHeld => ?_)
          refine with_tabW otime.tab8 otime.bits8 (fun HT_ HW_ => ?_)
          clear hS0
          generalize (w1.alloc (.cells #[.int .i64 1, .int .i64 u1, .int .i64 u2, .int .i64 u3, .int .i64 u4] 40)).drew = wz at hHeld HZN HZ2 HZ6 HZB ⊢
          refine pure_ (i := 0) (N := (some 29)) (v := ?_) (a' := ?_) #[true, false, false, false, false, false, false, false, false, false, false, false, false] rfl rfl (any_of HT_.out (by kernel_rfl)) (fun _ _ _ h => h) (Or.inl ⟨by rfl, ?_⟩) ?_ ?_
          rotate_left
          · intro w'
            go_simp
            (try with_reducible rfl)
          rotate_left
          · simp only [Act.put, List.setIfInBounds_toArray, List.set_cons_zero, List.set_cons_succ, i64_w, i32_w]
            rfl
          refine pure_ (i := 1) (N := (some 30)) (v := ?_) (a' := ?_) #[true, true, false, false, false, false, false, false, false, false, false, false, false] rfl rfl (any_of HT_.out (by kernel_rfl)) (fun _ _ _ h => h) (Or.inl ⟨by rfl, ?_⟩) ?_ ?_
          rotate_left
          · intro w'
            go_simp
            (try with_reducible rfl)
          rotate_left
          · simp only [Act.put, List.setIfInBounds_toArray, List.set_cons_zero, List.set_cons_succ, i64_w, i32_w]
            rfl
          refine pure_ (i := 2) (N := (some 31)) (v := ?_) (a' := ?_) #[true, true, true, false, false, false, false, false, false, false, false, false, false] rfl rfl (any_of HT_.out (by kernel_rfl)) (fun _ _ _ h => h) (Or.inl ⟨by rfl, ?_⟩) ?_ ?_
          rotate_left
          · intro w'
            go_simp
            (try with_reducible rfl)
          rotate_left
          · simp only [Act.put, List.setIfInBounds_toArray, List.set_cons_zero, List.set_cons_succ, i64_w, i32_w]
            rfl
          refine pure_ (i := 3) (N := (some 32)) (v := ?_) (a' := ?_) #[true, true, true, true, false, false, false, false, false, false, false, false, false] rfl rfl (any_of HT_.out (by kernel_rfl)) (fun _ _ _ h => h) (Or.inl ⟨by rfl, ?_⟩) ?_ ?_
          rotate_left
          · intro w'
            go_simp
            (try with_reducible rfl)
          rotate_left
          · simp only [Act.put, List.setIfInBounds_toArray, List.set_cons_zero, List.set_cons_succ, i64_w, i32_w]
            rfl
          refine take_ (i := 4) (N := (some 33)) (v := ?_) (a' := ?_) #[true, true, true, true, true, false, false, false, false, false, false, false, false] rfl rfl (take_ofW HT_.out HW_.out (by kernel_rfl)) (fun _ _ _ h => h) (Or.inl ⟨by rfl, ?_⟩) hHeld ?_ ?_
          rotate_left
          · rintro w' ⟨sx0, sx1, sx2⟩
            go_simp
            (try with_reducible rfl)
          rotate_left
          · simp only [Act.put, List.setIfInBounds_toArray, List.set_cons_zero, List.set_cons_succ, i64_w, i32_w]
            rfl
          refine pure_ (i := 5) (N := (some 34)) (v := ?_) (a' := ?_) #[true, true, true, true, true, true, false, false, false, false, false, false, false] rfl rfl (any_of HT_.out (by kernel_rfl)) (fun _ _ _ h => h) (Or.inl ⟨by rfl, ?_⟩) ?_ ?_
          rotate_left
          · intro w'
            go_simp
            (try with_reducible rfl)
          rotate_left
          · simp only [Act.put, List.setIfInBounds_toArray, List.set_cons_zero, List.set_cons_succ, i64_w, i32_w]
            rfl
          refine pure_ (i := 6) (N := (some 35)) (v := ?_) (a' := ?_) #[true, true, true, true, true, true, true, false, false, false, false, false, false] rfl rfl (any_of HT_.out (by kernel_rfl)) (fun _ _ _ h => h) (Or.inl ⟨by rfl, ?_⟩) ?_ ?_
          rotate_left
          · intro w'
            go_simp
            (try with_reducible rfl)
          rotate_left
          · simp only [Act.put, List.setIfInBounds_toArray, List.set_cons_zero, List.set_cons_succ, i64_w, i32_w]
            rfl
          refine pure_ (i := 7) (N := (some 36)) (v := ?_) (a' := ?_) #[true, true, true, true, true, true, true, true, false, false, false, false, false] rfl rfl (any_of HT_.out (by kernel_rfl)) (fun _ _ _ h => h) (Or.inl ⟨by rfl, ?_⟩) ?_ ?_
          rotate_left
          · intro w'
            go_simp
            (try with_reducible rfl)
          rotate_left
          · simp only [Act.put, List.setIfInBounds_toArray, List.set_cons_zero, List.set_cons_succ, i64_w, i32_w]
            rfl
          refine take_ (i := 8) (N := (some 37)) (v := ?_) (a' := ?_) #[true, true, true, true, true, true, true, true, true, false, false, false, false] rfl rfl (take_ofW HT_.out HW_.out (by kernel_rfl)) (fun _ _ _ h => h) (Or.inl ⟨by rfl, ?_⟩) hHeld ?_ ?_
          rotate_left
          · rintro w' ⟨sx0, sx1, sx2⟩
            go_simp
            (try with_reducible rfl)
          rotate_left
          · simp only [Act.put, List.setIfInBounds_toArray, List.set_cons_zero, List.set_cons_succ, i64_w, i32_w]
            rfl
          refine pure_ (i := 9) (N := (some 38)) (v := ?_) (a' := ?_) #[true, true, true, true, true, true, true, true, true, true, false, false, false] rfl rfl (any_of HT_.out (by kernel_rfl)) (fun _ _ _ h => h) (Or.inl ⟨by rfl, ?_⟩) ?_ ?_
          rotate_left
          · intro w'
            go_simp
            (try with_reducible rfl)
          rotate_left
          · simp only [Act.put, List.setIfInBounds_toArray, List.set_cons_zero, List.set_cons_succ, i64_w, i32_w]
            rfl
          refine take_ (i := 10) (N := (some 39)) (v := ?_) (a' := ?_) #[true, true, true, true, true, true, true, true, true, true, true, false, false] rfl rfl (take_ofW HT_.out HW_.out (by kernel_rfl)) (fun _ _ _ h => h) (Or.inl ⟨by rfl, ?_⟩) hHeld ?_ ?_
          rotate_left
          · rintro w' ⟨sx0, sx1, sx2⟩
            go_simp
            (try with_reducible rfl)
          rotate_left
          · simp only [Act.put, List.setIfInBounds_toArray, List.set_cons_zero, List.set_cons_succ, i64_w, i32_w]
            rfl
          refine pure_ (i := 11) (N := (some 40)) (v := ?_) (a' := ?_) #[true, true, true, true, true, true, true, true, true, true, true, true, false] rfl rfl (any_of HT_.out (by kernel_rfl)) (fun _ _ _ h => h) (Or.inl ⟨by rfl, ?_⟩) ?_ ?_
          rotate_left
          · intro w'
            go_simp
            (try with_reducible rfl)
          rotate_left
          · simp only [Act.put, List.setIfInBounds_toArray, List.set_cons_zero, List.set_cons_succ, i64_w, i32_w]
            rfl
          refine pure_ (i := 12) (N := (some 41)) (v := ?_) (a' := ?_) #[true, true, true, true, true, true, true, true, true, true, true, true, true] rfl rfl (any_of HT_.out (by kernel_rfl)) (fun _ _ _ h => h) (Or.inl ⟨by rfl, ?_⟩) ?_ ?_
          rotate_left
          · intro w'
            go_simp
            (try with_reducible rfl)
          rotate_left
          · simp only [Act.put, List.setIfInBounds_toArray, List.set_cons_zero, List.set_cons_succ, i64_w, i32_w]
            rfl
          refine done_ (done_of HT_.out (by kernel_rfl)) ?_
          have p0 := (blk_cell HZ6.out 0).trans rfl
          have r0 := (blk_cell HZ2.out 0).trans rfl
          have f0 := blk_frozen HZ2.out 0
          have p1 := (blk_cell HZ6.out 1).trans rfl
          have r1 := (blk_cell HZ2.out 1).trans rfl
          have f1 := blk_frozen HZ2.out 1
          have p2 := (blk_cell HZ6.out 2).trans rfl
          have r2 := (blk_cell HZ2.out 2).trans rfl
          have f2 := blk_frozen HZ2.out 2
          have p3 := (blk_cell HZ6.out 3).trans rfl
          have r3 := (blk_cell HZ2.out 3).trans rfl
          have f3 := blk_frozen HZ2.out 3
          have p4 := (blk_cell HZ6.out 4).trans rfl
          have r4 := (blk_cell HZ2.out 4).trans rfl
          have f4 := blk_frozen HZ2.out 4
          go_wp2
          refine bodyPost_ret (results_ct rfl _ _ (w.heap.size + 2) 40 #[.int .i64 0, .int .i64 0, .int .i64 0, .int .i64 0, .int .i64 0] (0, 0) _ rfl (by rw [(blk_set (blk_set (blk_set (blk_set (blk_set HZ2.out 0 (.int .i64 0)) 1 (.int .i64 0)) 2 (.int .i64 0)) 3 (.int .i64 0)) 4 (.int .i64 0))]; rfl) Try.underlying40 rfl (by kernel_rfl)) rfl ?_
          exact ⟨by rw [HF.out]; rfl, (below_set (below_set (below_set (below_set (below_set HZB.out (by show w.heap.size ≤ w.heap.size + 2; omega)) (by show w.heap.size ≤ w.heap.size + 2; omega)) (by show w.heap.size ≤ w.heap.size + 2; omega)) (by show w.heap.size ≤ w.heap.size + 2; omega)) (by show w.heap.size ≤ w.heap.size + 2; omega))⟩
        · have HF := Aside0.mk (show timeC 9 n2 ⟨d, e, a, b, c⟩ = (⟨1, u1, u2, u3, u4⟩, true) by rw [hF]; simp [St.loop]; omega)
          clear hF hok
          go_enter Try.func17, Try.ntmps17
          go_wp2_with (go_at_call 38; refine HC0.out.mono ?_; rintro e1 w1 ⟨rfl, hb⟩; have HXN := Aside0.mk (blk_below HBN.out hb); have HX2 := Aside0.mk (blk_below HB2.out hb); have HBW := Aside0.mk (below_step hHB2.out hb); clear hb)
          have HZN := Aside0.mk (blk_drew (blk_alloc HXN.out (.cells #[.int .i64 1, .int .i64 u1, .int .i64 u2, .int .i64 u3, .int .i64 u4] 40)))
          have HZ2 := Aside0.mk (blk_drew (blk_alloc HX2.out (.cells #[.int .i64 1, .int .i64 u1, .int .i64 u2, .int .i64 u3, .int .i64 u4] 40)))
          have HZ6 := Aside0.mk (blk_drew (blk_new w1 (.cells #[.int .i64 1, .int .i64 u1, .int .i64 u2, .int .i64 u3, .int .i64 u4] 40)))
          have HZB := Aside0.mk ((below_alloc HBW.out (.cells #[.int .i64 1, .int .i64 u1, .int .i64 u2, .int .i64 u3, .int .i64 u4] 40)).drew)
          have hS0 : (fun W => W.cell? ⟨w1.heap.size, 0, none⟩ = some (.int .i64 1) ∧ W.cell? ⟨w1.heap.size, 2, none⟩ = some (.int .i64 u2) ∧ W.cell? ⟨w.heap.size, 2, none⟩ = some (.int .i64 n2)) (w1.alloc (.cells #[.int .i64 1, .int .i64 u1, .int .i64 u2, .int .i64 u3, .int .i64 u4] 40)).drew := ⟨(blk_cell HZ6.out 0).trans rfl, (blk_cell HZ6.out 2).trans rfl, (blk_cell HZN.out 2).trans rfl⟩
          have z0 : wrap64 0 = 0 := by unfold wrap64; omega
          have z1 : wrap64 1 = 1 := by unfold wrap64; omega
          have z2 : wrap64 2 = 2 := by unfold wrap64; omega
          refine start_ (n := 13) (S := fun W => W.cell? ⟨w1.heap.size, 0, none⟩ = some (.int .i64 1) ∧ W.cell? ⟨w1.heap.size, 2, none⟩ = some (.int .i64 u2) ∧ W.cell? ⟨w.heap.size, 2, none⟩ = some (.int .i64 n2)) (ds := []) #[false, false, false, false, false, false, false, false, false, false, false, false, false] (by kernel_rfl) rfl rfl hS0 (fun hHeld => ?_)
          refine with_tabW otime.tab8 otime.bits8 (fun HT_ HW_ => ?_)
          clear hS0
          generalize (w1.alloc (.cells #[.int .i64 1, .int .i64 u1, .int .i64 u2, .int .i64 u3, .int .i64 u4] 40)).drew = wz at hHeld HZN HZ2 HZ6 HZB ⊢
          refine pure_ (i := 0) (N := (some 29)) (v := ?_) (a' := ?_) #[true, false, false, false, false, false, false, false, false, false, false, false, false] rfl rfl (any_of HT_.out (by kernel_rfl)) (fun _ _ _ h => h) (Or.inl ⟨by rfl, ?_⟩) ?_ ?_
          rotate_left
          · intro w'
            go_simp
            (try with_reducible rfl)
          rotate_left
          · simp only [Act.put, List.setIfInBounds_toArray, List.set_cons_zero, List.set_cons_succ, i64_w, i32_w]
            rfl
          refine pure_ (i := 1) (N := (some 30)) (v := ?_) (a' := ?_) #[true, true, false, false, false, false, false, false, false, false, false, false, false] rfl rfl (any_of HT_.out (by kernel_rfl)) (fun _ _ _ h => h) (Or.inl ⟨by rfl, ?_⟩) ?_ ?_
          rotate_left
          · intro w'
            go_simp
            (try with_reducible rfl)
          rotate_left
          · simp only [Act.put, List.setIfInBounds_toArray, List.set_cons_zero, List.set_cons_succ, i64_w, i32_w]
            rfl
          refine pure_ (i := 2) (N := (some 31)) (v := ?_) (a' := ?_) #[true, true, true, false, false, false, false, false, false, false, false, false, false] rfl rfl (any_of HT_.out (by kernel_rfl)) (fun _ _ _ h => h) (Or.inl ⟨by rfl, ?_⟩) ?_ ?_
          rotate_left
          · intro w'
            go_simp
            (try with_reducible rfl)
          rotate_left
          · simp only [Act.put, List.setIfInBounds_toArray, List.set_cons_zero, List.set_cons_succ, i64_w, i32_w]
            rfl
          refine pure_ (i := 3) (N := (some 32)) (v := ?_) (a' := ?_) #[true, true, true, true, false, false, false, false, false, false, false, false, false] rfl rfl (any_of HT_.out (by kernel_rfl)) (fun _ _ _ h => h) (Or.inl ⟨by rfl, ?_⟩) ?_ ?_
          rotate_left
          · intro w'
            go_simp
            (try with_reducible rfl)
          rotate_left
          · simp only [Act.put, List.setIfInBounds_toArray, List.set_cons_zero, List.set_cons_succ, i64_w, i32_w]
            rfl
          refine take_ (i := 4) (N := (some 33)) (v := ?_) (a' := ?_) #[true, true, true, true, true, false, false, false, false, false, false, false, false] rfl rfl (take_ofW HT_.out HW_.out (by kernel_rfl)) (fun _ _ _ h => h) (Or.inl ⟨by rfl, ?_⟩) hHeld ?_ ?_
          rotate_left
          · rintro w' ⟨sx0, sx1, sx2⟩
            go_simp
            (try with_reducible rfl)
          rotate_left
          · simp only [Act.put, List.setIfInBounds_toArray, List.set_cons_zero, List.set_cons_succ, i64_w, i32_w]
            rfl
          refine pure_ (i := 5) (N := (some 34)) (v := ?_) (a' := ?_) #[true, true, true, true, true, true, false, false, false, false, false, false, false] rfl rfl (any_of HT_.out (by kernel_rfl)) (fun _ _ _ h => h) (Or.inl ⟨by rfl, ?_⟩) ?_ ?_
          rotate_left
          · intro w'
            go_simp
            (try with_reducible rfl)
          rotate_left
          · simp only [Act.put, List.setIfInBounds_toArray, List.set_cons_zero, List.set_cons_succ, i64_w, i32_w]
            rfl
          refine pure_ (i := 6) (N := (some 35)) (v := ?_) (a' := ?_) #[true, true, true, true, true, true, true, false, false, false, false, false, false] rfl rfl (any_of HT_.out (by kernel_rfl)) (fun _ _ _ h => h) (Or.inl ⟨by rfl, ?_⟩) ?_ ?_
          rotate_left
          · intro w'
            go_simp
            (try with_reducible rfl)
          rotate_left
          · simp only [Act.put, List.setIfInBounds_toArray, List.set_cons_zero, List.set_cons_succ, i64_w, i32_w]
            rfl
          refine pure_ (i := 7) (N := (some 36)) (v := ?_) (a' := ?_) #[true, true, true, true, true, true, true, true, false, false, false, false, false] rfl rfl (any_of HT_.out (by kernel_rfl)) (fun _ _ _ h => h) (Or.inl ⟨by rfl, ?_⟩) ?_ ?_
          rotate_left
          · intro w'
            go_simp
            (try with_reducible rfl)
          rotate_left
          · simp only [Act.put, List.setIfInBounds_toArray, List.set_cons_zero, List.set_cons_succ, i64_w, i32_w]
            rfl
          refine take_ (i := 8) (N := (some 37)) (v := ?_) (a' := ?_) #[true, true, true, true, true, true, true, true, true, false, false, false, false] rfl rfl (take_ofW HT_.out HW_.out (by kernel_rfl)) (fun _ _ _ h => h) (Or.inl ⟨by rfl, ?_⟩) hHeld ?_ ?_
          rotate_left
          · rintro w' ⟨sx0, sx1, sx2⟩
            go_simp
            (try with_reducible rfl)
          rotate_left
          · simp only [Act.put, List.setIfInBounds_toArray, List.set_cons_zero, List.set_cons_succ, i64_w, i32_w]
            rfl
          refine pure_ (i := 9) (N := (some 38)) (v := ?_) (a' := ?_) #[true, true, true, true, true, true, true, true, true, true, false, false, false] rfl rfl (any_of HT_.out (by kernel_rfl)) (fun _ _ _ h => h) (Or.inl ⟨by rfl, ?_⟩) ?_ ?_
          rotate_left
          · intro w'
            go_simp
            (try with_reducible rfl)
          rotate_left
          · simp only [Act.put, List.setIfInBounds_toArray, List.set_cons_zero, List.set_cons_succ, i64_w, i32_w]
            rfl
          refine take_ (i := 10) (N := (some 39)) (v := ?_) (a' := ?_) #[true, true, true, true, true, true, true, true, true, true, true, false, false] rfl rfl (take_ofW HT_.out HW_.out (by kernel_rfl)) (fun _ _ _ h => h) (Or.inl ⟨by rfl, ?_⟩) hHeld ?_ ?_
          rotate_left
          · rintro w' ⟨sx0, sx1, sx2⟩
            go_simp
            (try with_reducible rfl)
          rotate_left
          · simp only [Act.put, List.setIfInBounds_toArray, List.set_cons_zero, List.set_cons_succ, i64_w, i32_w]
            rfl
          refine pure_ (i := 11) (N := (some 40)) (v := ?_) (a' := ?_) #[true, true, true, true, true, true, true, true, true, true, true, true, false] rfl rfl (any_of HT_.out (by kernel_rfl)) (fun _ _ _ h => h) (Or.inl ⟨by rfl, ?_⟩) ?_ ?_
          rotate_left
          · intro w'
            go_simp
            (try with_reducible rfl)
          rotate_left
          · simp only [Act.put, List.setIfInBounds_toArray, List.set_cons_zero, List.set_cons_succ, i64_w, i32_w]
            rfl
          refine pure_ (i := 12) (N := (some 41)) (v := ?_) (a' := ?_) #[true, true, true, true, true, true, true, true, true, true, true, true, true] rfl rfl (any_of HT_.out (by kernel_rfl)) (fun _ _ _ h => h) (Or.inl ⟨by rfl, ?_⟩) ?_ ?_
          rotate_left
          · intro w'
            go_simp
            (try with_reducible rfl)
          rotate_left
          · simp only [Act.put, List.setIfInBounds_toArray, List.set_cons_zero, List.set_cons_succ, i64_w, i32_w]
            rfl
          refine done_ (done_of HT_.out (by kernel_rfl)) ?_
          have p0 := (blk_cell HZ6.out 0).trans rfl
          have r0 := (blk_cell HZ2.out 0).trans rfl
          have f0 := blk_frozen HZ2.out 0
          have p1 := (blk_cell HZ6.out 1).trans rfl
          have r1 := (blk_cell HZ2.out 1).trans rfl
          have f1 := blk_frozen HZ2.out 1
          have p2 := (blk_cell HZ6.out 2).trans rfl
          have r2 := (blk_cell HZ2.out 2).trans rfl
          have f2 := blk_frozen HZ2.out 2
          have p3 := (blk_cell HZ6.out 3).trans rfl
          have r3 := (blk_cell HZ2.out 3).trans rfl
          have f3 := blk_frozen HZ2.out 3
          have p4 := (blk_cell HZ6.out 4).trans rfl
          have r4 := (blk_cell HZ2.out 4).trans rfl
          have f4 := blk_frozen HZ2.out 4
          go_wp2
          refine bodyPost_ret (results_ct rfl _ _ (w.heap.size + 2) 40 #[.int .i64 1, .int .i64 u1, .int .i64 u2, .int .i64 u3, .int .i64 u4] (0, 0) _ rfl (by rw [(blk_set (blk_set (blk_set (blk_set (blk_set HZ2.out 0 (.int .i64 1)) 1 (.int .i64 u1)) 2 (.int .i64 u2)) 3 (.int .i64 u3)) 4 (.int .i64 u4))]; rfl) Try.underlying40 rfl (by kernel_rfl)) rfl ?_
          exact ⟨by rw [HF.out]; rfl, (below_set (below_set (below_set (below_set (below_set HZB.out (by show w.heap.size ≤ w.heap.size + 2; omega)) (by show w.heap.size ≤ w.heap.size + 2; omega)) (by show w.heap.size ≤ w.heap.size + 2; omega)) (by show w.heap.size ≤ w.heap.size + 2; omega)) (by show w.heap.size ≤ w.heap.size + 2; omega))⟩
      · by_cases kn : u3 ≥ n2
        · have HF := Aside0.mk (show timeC 9 n2 ⟨d, e, a, b, c⟩ = (St.zero, false) by rw [hF]; simp [St.loop]; omega)
          clear hF hok
          go_enter Try.func17, Try.ntmps17
          go_wp2_with (go_at_call 38; refine HC0.out.mono ?_; rintro e1 w1 ⟨rfl, hb⟩; have HXN := Aside0.mk (blk_below HBN.out hb); have HX2 := Aside0.mk (blk_below HB2.out hb); have HBW := Aside0.mk (below_step hHB2.out hb); clear hb)
          have HZN := Aside0.mk (blk_drew (blk_alloc HXN.out (.cells #[.int .i64 2, .int .i64 u1, .int .i64 u2, .int .i64 u3, .int .i64 u4] 40)))
          have HZ2 := Aside0.mk (blk_drew (blk_alloc HX2.out (.cells #[.int .i64 2, .int .i64 u1, .int .i64 u2, .int .i64 u3, .int .i64 u4] 40)))
          have HZ6 := Aside0.mk (blk_drew (blk_new w1 (.cells #[.int .i64 2, .int .i64 u1, .int .i64 u2, .int .i64 u3, .int .i64 u4] 40)))
          have HZB := Aside0.mk ((below_alloc HBW.out (.cells #[.int .i64 2, .int .i64 u1, .int .i64 u2, .int .i64 u3, .int .i64 u4] 40)).drew)
          have hS0 : (fun W => W.cell? ⟨w1.heap.size, 0, none⟩ = some (.int .i64 2) ∧ W.cell? ⟨w1.heap.size, 3, none⟩ = some (.int .i64 u3) ∧ W.cell? ⟨w.heap.size, 2, none⟩ = some (.int .i64 n2)) (w1.alloc (.cells #[.int .i64 2, .int .i64 u1, .int .i64 u2, .int .i64 u3, .int .i64 u4] 40)).drew := ⟨(blk_cell HZ6.out 0).trans rfl, (blk_cell HZ6.out 3).trans rfl, (blk_cell HZN.out 2).trans rfl⟩
          have z0 : wrap64 0 = 0 := by unfold wrap64; omega
          have z1 : wrap64 1 = 1 := by unfold wrap64; omega
          have z2 : wrap64 2 = 2 := by unfold wrap64; omega
          refine start_ (n := 13) (S := fun W => W.cell? ⟨w1.heap.size, 0, none⟩ = some (.int .i64 2) ∧ W.cell? ⟨w1.heap.size, 3, none⟩ = some (.int .i64 u3) ∧ W.cell? ⟨w.heap.size, 2, none⟩ = some (.int .i64 n2)) (ds := []) #[false, false, false, false, false, false, false, false, false, false, false, false, false] (by kernel_rfl) rfl rfl hS0 (fun hHeld => ?_)
          refine with_tabW otime.tab8 otime.bits8 (fun HT_ HW_ => ?_)
          clear hS0
          generalize (w1.alloc (.cells #[.int .i64 2, .int .i64 u1, .int .i64 u2, .int .i64 u3, .int .i64 u4] 40)).drew = wz at hHeld HZN HZ2 HZ6 HZB ⊢
          refine pure_ (i := 0) (N := (some 29)) (v := ?_) (a' := ?_) #[true, false, false, false, false, false, false, false, false, false, false, false, false] rfl rfl (any_of HT_.out (by kernel_rfl)) (fun _ _ _ h => h) (Or.inl ⟨by rfl, ?_⟩) ?_ ?_
          rotate_left
          · intro w'
            go_simp
            (try with_reducible rfl)
          rotate_left
          · simp only [Act.put, List.setIfInBounds_toArray, List.set_cons_zero, List.set_cons_succ, i64_w, i32_w]
            rfl
          refine pure_ (i := 1) (N := (some 30)) (v := ?_) (a' := ?_) #[true, true, false, false, false, false, false, false, false, false, false, false, false] rfl rfl (any_of HT_.out (by kernel_rfl)) (fun _ _ _ h => h) (Or.inl ⟨by rfl, ?_⟩) ?_ ?_
          rotate_left
          · intro w'
            go_simp
            (try with_reducible rfl)
          rotate_left
          · simp only [Act.put, List.setIfInBounds_toArray, List.set_cons_zero, List.set_cons_succ, i64_w, i32_w]
            rfl
          refine pure_ (i := 2) (N := (some 31)) (v := ?_) (a' := ?_) #[true, true, true, false, false, false, false, false, false, false, false, false, false] rfl rfl (any_of HT_.out (by kernel_rfl)) (fun _ _ _ h => h) (Or.inl ⟨by rfl, ?_⟩) ?_ ?_
          rotate_left
          · intro w'
            go_simp
            (try with_reducible rfl)
          rotate_left
          · simp only [Act.put, List.setIfInBounds_toArray, List.set_cons_zero, List.set_cons_succ, i64_w, i32_w]
            rfl
          refine pure_ (i := 3) (N := (some 32)) (v := ?_) (a' := ?_) #[true, true, true, true, false, false, false, false, false, false, false, false, false] rfl rfl (any_of HT_.out (by kernel_rfl)) (fun _ _ _ h => h) (Or.inl ⟨by rfl, ?_⟩) ?_ ?_
          rotate_left
          · intro w'
            go_simp
            (try with_reducible rfl)
          rotate_left
          · simp only [Act.put, List.setIfInBounds_toArray, List.set_cons_zero, List.set_cons_succ, i64_w, i32_w]
            rfl
          refine take_ (i := 4) (N := (some 33)) (v := ?_) (a' := ?_) #[true, true, true, true, true, false, false, false, false, false, false, false, false] rfl rfl (take_ofW HT_.out HW_.out (by kernel_rfl)) (fun _ _ _ h => h) (Or.inl ⟨by rfl, ?_⟩) hHeld ?_ ?_
          rotate_left
          · rintro w' ⟨sx0, sx1, sx2⟩
            go_simp
            (try with_reducible rfl)
          rotate_left
          · simp only [Act.put, List.setIfInBounds_toArray, List.set_cons_zero, List.set_cons_succ, i64_w, i32_w]
            rfl
          refine pure_ (i := 5) (N := (some 34)) (v := ?_) (a' := ?_) #[true, true, true, true, true, true, false, false, false, false, false, false, false] rfl rfl (any_of HT_.out (by kernel_rfl)) (fun _ _ _ h => h) (Or.inl ⟨by rfl, ?_⟩) ?_ ?_
          rotate_left
          · intro w'
            go_simp
            (try with_reducible rfl)
          rotate_left
          · simp only [Act.put, List.setIfInBounds_toArray, List.set_cons_zero, List.set_cons_succ, i64_w, i32_w]
            rfl
          refine pure_ (i := 6) (N := (some 35)) (v := ?_) (a' := ?_) #[true, true, true, true, true, true, true, false, false, false, false, false, false] rfl rfl (any_of HT_.out (by kernel_rfl)) (fun _ _ _ h => h) (Or.inl ⟨by rfl, ?_⟩) ?_ ?_
          rotate_left
          · intro w'
            go_simp
            (try with_reducible rfl)
          rotate_left
          · simp only [Act.put, List.setIfInBounds_toArray, List.set_cons_zero, List.set_cons_succ, i64_w, i32_w]
            rfl
          refine pure_ (i := 7) (N := (some 36)) (v := ?_) (a' := ?_) #[true, true, true, true, true, true, true, true, false, false, false, false, false] rfl rfl (any_of HT_.out (by kernel_rfl)) (fun _ _ _ h => h) (Or.inl ⟨by rfl, ?_⟩) ?_ ?_
          rotate_left
          · intro w'
            go_simp
            (try with_reducible rfl)
          rotate_left
          · simp only [Act.put, List.setIfInBounds_toArray, List.set_cons_zero, List.set_cons_succ, i64_w, i32_w]
            rfl
          refine take_ (i := 8) (N := (some 37)) (v := ?_) (a' := ?_) #[true, true, true, true, true, true, true, true, true, false, false, false, false] rfl rfl (take_ofW HT_.out HW_.out (by kernel_rfl)) (fun _ _ _ h => h) (Or.inl ⟨by rfl, ?_⟩) hHeld ?_ ?_
          rotate_left
          · rintro w' ⟨sx0, sx1, sx2⟩
            go_simp
            (try with_reducible rfl)
          rotate_left
          · simp only [Act.put, List.setIfInBounds_toArray, List.set_cons_zero, List.set_cons_succ, i64_w, i32_w]
            rfl
          refine pure_ (i := 9) (N := (some 38)) (v := ?_) (a' := ?_) #[true, true, true, true, true, true, true, true, true, true, false, false, false] rfl rfl (any_of HT_.out (by kernel_rfl)) (fun _ _ _ h => h) (Or.inl ⟨by rfl, ?_⟩) ?_ ?_
          rotate_left
          · intro w'
            go_simp
            (try with_reducible rfl)
          rotate_left
          · simp only [Act.put, List.setIfInBounds_toArray, List.set_cons_zero, List.set_cons_succ, i64_w, i32_w]
            rfl
          refine take_ (i := 10) (N := (some 39)) (v := ?_) (a' := ?_) #[true, true, true, true, true, true, true, true, true, true, true, false, false] rfl rfl (take_ofW HT_.out HW_.out (by kernel_rfl)) (fun _ _ _ h => h) (Or.inl ⟨by rfl, ?_⟩) hHeld ?_ ?_
          rotate_left
          · rintro w' ⟨sx0, sx1, sx2⟩
            go_simp
            (try with_reducible rfl)
          rotate_left
          · simp only [Act.put, List.setIfInBounds_toArray, List.set_cons_zero, List.set_cons_succ, i64_w, i32_w]
            rfl
          refine pure_ (i := 11) (N := (some 40)) (v := ?_) (a' := ?_) #[true, true, true, true, true, true, true, true, true, true, true, true, false] rfl rfl (any_of HT_.out (by kernel_rfl)) (fun _ _ _ h => h) (Or.inl ⟨by rfl, ?_⟩) ?_ ?_
          rotate_left
          · intro w'
            go_simp
            (try with_reducible rfl)
          rotate_left
          · simp only [Act.put, List.setIfInBounds_toArray, List.set_cons_zero, List.set_cons_succ, i64_w, i32_w]
            rfl
          refine pure_ (i := 12) (N := (some 41)) (v := ?_) (a' := ?_) #[true, true, true, true, true, true, true, true, true, true, true, true, true] rfl rfl (any_of HT_.out (by kernel_rfl)) (fun _ _ _ h => h) (Or.inl ⟨by rfl, ?_⟩) ?_ ?_
          rotate_left
          · intro w'
            go_simp
            (try with_reducible rfl)
          rotate_left
          · simp only [Act.put, List.setIfInBounds_toArray, List.set_cons_zero, List.set_cons_succ, i64_w, i32_w]
            rfl
          refine done_ (done_of HT_.out (by kernel_rfl)) ?_
          have p0 := (blk_cell HZ6.out 0).trans rfl
          have r0 := (blk_cell HZ2.out 0).trans rfl
          have f0 := blk_frozen HZ2.out 0
          have p1 := (blk_cell HZ6.out 1).trans rfl
          have r1 := (blk_cell HZ2.out 1).trans rfl
          have f1 := blk_frozen HZ2.out 1
          have p2 := (blk_cell HZ6.out 2).trans rfl
          have r2 := (blk_cell HZ2.out 2).trans rfl
          have f2 := blk_frozen HZ2.out 2
          have p3 := (blk_cell HZ6.out 3).trans rfl
          have r3 := (blk_cell HZ2.out 3).trans rfl
          have f3 := blk_frozen HZ2.out 3
          have p4 := (blk_cell HZ6.out 4).trans rfl
          have r4 := (blk_cell HZ2.out 4).trans rfl
          have f4 := blk_frozen HZ2.out 4
          go_wp2
          refine bodyPost_ret (results_ct rfl _ _ (w.heap.size + 2) 40 #[.int .i64 0, .int .i64 0, .int .i64 0, .int .i64 0, .int .i64 0] (0, 0) _ rfl (by rw [(blk_set (blk_set (blk_set (blk_set (blk_set HZ2.out 0 (.int .i64 0)) 1 (.int .i64 0)) 2 (.int .i64 0)) 3 (.int .i64 0)) 4 (.int .i64 0))]; rfl) Try.underlying40 rfl (by kernel_rfl)) rfl ?_
          exact ⟨by rw [HF.out]; rfl, (below_set (below_set (below_set (below_set (below_set HZB.out (by show w.heap.size ≤ w.heap.size + 2; omega)) (by show w.heap.size ≤ w.heap.size + 2; omega)) (by show w.heap.size ≤ w.heap.size + 2; omega)) (by show w.heap.size ≤ w.heap.size + 2; omega)) (by show w.heap.size ≤ w.heap.size + 2; omega))⟩
        · have HF := Aside0.mk (show timeC 9 n2 ⟨d, e, a, b, c⟩ = (⟨2, u1, u2, u3, u4⟩, true) by rw [hF]; simp [St.loop]; omega)
          clear hF hok
          go_enter Try.func17, Try.ntmps17
          go_wp2_with (go_at_call 38; refine HC0.out.mono ?_; rintro e1 w1 ⟨rfl, hb⟩; have HXN := Aside0.mk (blk_below HBN.out hb); have HX2 := Aside0.mk (blk_below HB2.out hb); have HBW := Aside0.mk (below_step hHB2.out hb); clear hb)
          have HZN := Aside0.mk (blk_drew (blk_alloc HXN.out (.cells #[.int .i64 2, .int .i64 u1, .int .i64 u2, .int .i64 u3, .int .i64 u4] 40)))
          have HZ2 := Aside0.mk (blk_drew (blk_alloc HX2.out (.cells #[.int .i64 2, .int .i64 u1, .int .i64 u2, .int .i64 u3, .int .i64 u4] 40)))
          have HZ6 := Aside0.mk (blk_drew (blk_new w1 (.cells #[.int .i64 2, .int .i64 u1, .int .i64 u2, .int .i64 u3, .int .i64 u4] 40)))
          have HZB := Aside0.mk ((below_alloc HBW.out (.cells #[.int .i64 2, .int .i64 u1, .int .i64 u2, .int .i64 u3, .int .i64 u4] 40)).drew)
          have hS0 : (fun W => W.cell? ⟨w1.heap.size, 0, none⟩ = some (.int .i64 2) ∧ W.cell? ⟨w1.heap.size, 3, none⟩ = some (.int .i64 u3) ∧ W.cell? ⟨w.heap.size, 2, none⟩ = some (.int .i64 n2)) (w1.alloc (.cells #[.int .i64 2, .int .i64 u1, .int .i64 u2, .int .i64 u3, .int .i64 u4] 40)).drew := ⟨(blk_cell HZ6.out 0).trans rfl, (blk_cell HZ6.out 3).trans rfl, (blk_cell HZN.out 2).trans rfl⟩
          have z0 : wrap64 0 = 0 := by unfold wrap64; omega
          have z1 : wrap64 1 = 1 := by unfold wrap64; omega
          have z2 : wrap64 2 = 2 := by unfold wrap64; omega
          refine start_ (n := 13) (S := fun W => W.cell? ⟨w1.heap.size, 0, none⟩ = some (.int .i64 2) ∧ W.cell? ⟨w1.heap.size, 3, none⟩ = some (.int .i64 u3) ∧ W.cell? ⟨w.heap.size, 2, none⟩ = some (.int .i64 n2)) (ds := []) #[false, false, false, false, false, false, false, false, false, false, false, false, false] (by kernel_rfl) rfl rfl hS0 (fun hHeld => ?_)
          refine with_tabW otime.tab8 otime.bits8 (fun HT_ HW_ => ?_)
          clear hS0
          generalize (w1.alloc (.cells #[.int .i64 2, .int .i64 u1, .int .i64 u2, .int .i64 u3, .int .i64 u4] 40)).drew = wz at hHeld HZN HZ2 HZ6 HZB ⊢
          refine pure_ (i := 0) (N := (some 29)) (v := ?_) (a' := ?_) #[true, false, false, false, false, false, false, false, false, false, false, false, false] rfl rfl (any_of HT_.out (by kernel_rfl)) (fun _ _ _ h => h) (Or.inl ⟨by rfl, ?_⟩) ?_ ?_
          rotate_left
          · intro w'
            go_simp
            (try with_reducible rfl)
          rotate_left
          · simp only [Act.put, List.setIfInBounds_toArray, List.set_cons_zero, List.set_cons_succ, i64_w, i32_w]
            rfl
          refine pure_ (i := 1) (N := (some 30)) (v := ?_) (a' := ?_) #[true, true, false, false, false, false, false, false, false, false, false, false, false] rfl rfl (any_of HT_.out (by kernel_rfl)) (fun _ _ _ h => h) (Or.inl ⟨by rfl, ?_⟩) ?_ ?_
          rotate_left
          · intro w'
            go_simp
            (try with_reducible rfl)
          rotate_left
          · simp only [Act.put, List.setIfInBounds_toArray, List.set_cons_zero, List.set_cons_succ, i64_w, i32_w]
            rfl
          refine pure_ (i := 2) (N := (some 31)) (v := ?_) (a' := ?_) #[true, true, true, false, false, false, false, false, false, false, false, false, false] rfl rfl (any_of HT_.out (by kernel_rfl)) (fun _ _ _ h => h) (Or.inl ⟨by rfl, ?_⟩) ?_ ?_
          rotate_left
          · intro w'
            go_simp
            (try with_reducible rfl)
          rotate_left
          · simp only [Act.put, List.setIfInBounds_toArray, List.set_cons_zero, List.set_cons_succ, i64_w, i32_w]
            rfl
          refine pure_ (i := 3) (N := (some 32)) (v := ?_) (a' := ?_) #[true, true, true, true, false, false, false, false, false, false, false, false, false] rfl rfl (any_of HT_.out (by kernel_rfl)) (fun _ _ _ h => h) (Or.inl ⟨by rfl, ?_⟩) ?_ ?_
          rotate_left
          · intro w'
            go_simp
            (try with_reducible rfl)
          rotate_left
          · simp only [Act.put, List.setIfInBounds_toArray, List.set_cons_zero, List.set_cons_succ, i64_w, i32_w]
            rfl
          refine take_ (i := 4) (N := (some 33)) (v := ?_) (a' := ?_) #[true, true, true, true, true, false, false, false, false, false, false, false, false] rfl rfl (take_ofW HT_.out HW_.out (by kernel_rfl)) (fun _ _ _ h => h) (Or.inl ⟨by rfl, ?_⟩) hHeld ?_ ?_
          rotate_left
          · rintro w' ⟨sx0, sx1, sx2⟩
            go_simp
            (try with_reducible rfl)
          rotate_left
          · simp only [Act.put, List.setIfInBounds_toArray, List.set_cons_zero, List.set_cons_succ, i64_w, i32_w]
            rfl
          refine pure_ (i := 5) (N := (some 34)) (v := ?_) (a' := ?_) #[true, true, true, true, true, true, false, false, false, false, false, false, false] rfl rfl (any_of HT_.out (by kernel_rfl)) (fun _ _ _ h => h) (Or.inl ⟨by rfl, ?_⟩) ?_ ?_
          rotate_left
          · intro w'
            go_simp
            (try with_reducible rfl)
          rotate_left
          · simp only [Act.put, List.setIfInBounds_toArray, List.set_cons_zero, List.set_cons_succ, i64_w, i32_w]
            rfl
          refine pure_ (i := 6) (N := (some 35)) (v := ?_) (a' := ?_) #[true, true, true, true, true, true, true, false, false, false, false, false, false] rfl rfl (any_of HT_.out (by kernel_rfl)) (fun _ _ _ h => h) (Or.inl ⟨by rfl, ?_⟩) ?_ ?_
          rotate_left
          · intro w'
            go_simp
            (try with_reducible rfl)
          rotate_left
          · simp only [Act.put, List.setIfInBounds_toArray, List.set_cons_zero, List.set_cons_succ, i64_w, i32_w]
            rfl
          refine pure_ (i := 7) (N := (some 36)) (v := ?_) (a' := ?_) #[true, true, true, true, true, true, true, true, false, false, false, false, false] rfl rfl (any_of HT_.out (by kernel_rfl)) (fun _ _ _ h => h) (Or.inl ⟨by rfl, ?_⟩) ?_ ?_
          rotate_left
          · intro w'
            go_simp
            (try with_reducible rfl)
          rotate_left
          · simp only [Act.put, List.setIfInBounds_toArray, List.set_cons_zero, List.set_cons_succ, i64_w, i32_w]
            rfl
          refine take_ (i := 8) (N := (some 37)) (v := ?_) (a' := ?_) #[true, true, true, true, true, true, true, true, true, false, false, false, false] rfl rfl (take_ofW HT_.out HW_.out (by kernel_rfl)) (fun _ _ _ h => h) (Or.inl ⟨by rfl, ?_⟩) hHeld ?_ ?_
          rotate_left
          · rintro w' ⟨sx0, sx1, sx2⟩
            go_simp
            (try with_reducible rfl)
          rotate_left
          · simp only [Act.put, List.setIfInBounds_toArray, List.set_cons_zero, List.set_cons_succ, i64_w, i32_w]
            rfl
          refine pure_ (i := 9) (N := (some 38)) (v := ?_) (a' := ?_) #[true, true, true, true, true, true, true, true, true, true, false, false, false] rfl rfl (any_of HT_.out (by kernel_rfl)) (fun _ _ _ h => h) (Or.inl ⟨by rfl, ?_⟩) ?_ ?_
          rotate_left
          · intro w'
            go_simp
            (try with_reducible rfl)
          rotate_left
          · simp only [Act.put, List.setIfInBounds_toArray, List.set_cons_zero, List.set_cons_succ, i64_w, i32_w]
            rfl
          refine take_ (i := 10) (N := (some 39)) (v := ?_) (a' := ?_) #[true, true, true, true, true, true, true, true, true, true, true, false, false] rfl rfl (take_ofW HT_.out HW_.out (by kernel_rfl)) (fun _ _ _ h => h) (Or.inl ⟨by rfl, ?_⟩) hHeld ?_ ?_
          rotate_left
          · rintro w' ⟨sx0, sx1, sx2⟩
            go_simp
            (try with_reducible rfl)
          rotate_left
          · simp only [Act.put, List.setIfInBounds_toArray, List.set_cons_zero, List.set_cons_succ, i64_w, i32_w]
            rfl
          refine pure_ (i := 11) (N := (some 40)) (v := ?_) (a' := ?_) #[true, true, true, true, true, true, true, true, true, true, true, true, false] rfl rfl (any_of HT_.out (by kernel_rfl)) (fun _ _ _ h => h) (Or.inl ⟨by rfl, ?_⟩) ?_ ?_
          rotate_left
          · intro w'
            go_simp
            (try with_reducible rfl)
          rotate_left
          · simp only [Act.put, List.setIfInBounds_toArray, List.set_cons_zero, List.set_cons_succ, i64_w, i32_w]
            rfl
          refine pure_ (i := 12) (N := (some 41)) (v := ?_) (a' := ?_) #[true, true, true, true, true, true, true, true, true, true, true, true, true] rfl rfl (any_of HT_.out (by kernel_rfl)) (fun _ _ _ h => h) (Or.inl ⟨by rfl, ?_⟩) ?_ ?_
          rotate_left
          · intro w'
            go_simp
            (try with_reducible rfl)
          rotate_left
          · simp only [Act.put, List.setIfInBounds_toArray, List.set_cons_zero, List.set_cons_succ, i64_w, i32_w]
            rfl
          refine done_ (done_of HT_.out (by kernel_rfl)) ?_
          have p0 := (blk_cell HZ6.out 0).trans rfl
          have r0 := (blk_cell HZ2.out 0).trans rfl
          have f0 := blk_frozen HZ2.out 0
          have p1 := (blk_cell HZ6.out 1).trans rfl
          have r1 := (blk_cell HZ2.out 1).trans rfl
          have f1 := blk_frozen HZ2.out 1
          have p2 := (blk_cell HZ6.out 2).trans rfl
          have r2 := (blk_cell HZ2.out 2).trans rfl
          have f2 := blk_frozen HZ2.out 2
          have p3 := (blk_cell HZ6.out 3).trans rfl
          have r3 := (blk_cell HZ2.out 3).trans rfl
          have f3 := blk_frozen HZ2.out 3
          have p4 := (blk_cell HZ6.out 4).trans rfl
          have r4 := (blk_cell HZ2.out 4).trans rfl
          have f4 := blk_frozen HZ2.out 4
          go_wp2
          refine bodyPost_ret (results_ct rfl _ _ (w.heap.size + 2) 40 #[.int .i64 2, .int .i64 u1, .int .i64 u2, .int .i64 u3, .int .i64 u4] (0, 0) _ rfl (by rw [(blk_set (blk_set (blk_set (blk_set (blk_set HZ2.out 0 (.int .i64 2)) 1 (.int .i64 u1)) 2 (.int .i64 u2)) 3 (.int .i64 u3)) 4 (.int .i64 u4))]; rfl) Try.underlying40 rfl (by kernel_rfl)) rfl ?_
          exact ⟨by rw [HF.out]; rfl, (below_set (below_set (below_set (below_set (below_set HZB.out (by show w.heap.size ≤ w.heap.size + 2; omega)) (by show w.heap.size ≤ w.heap.size + 2; omega)) (by show w.heap.size ≤ w.heap.size + 2; omega)) (by show w.heap.size ≤ w.heap.size + 2; omega)) (by show w.heap.size ≤ w.heap.size + 2; omega))⟩
      · by_cases kn : u4 ≥ n2
        · have HF := Aside0.mk (show timeC 9 n2 ⟨d, e, a, b, c⟩ = (St.zero, false) by rw [hF]; simp [St.loop]; omega)
          clear hF hok
          go_enter Try.func17, Try.ntmps17
          go_wp2_with (go_at_call 38; refine HC0.out.mono ?_; rintro e1 w1 ⟨rfl, hb⟩; have HXN := Aside0.mk (blk_below HBN.out hb); have HX2 := Aside0.mk (blk_below HB2.out hb); have HBW := Aside0.mk (below_step hHB2.out hb); clear hb)
          have HZN := Aside0.mk (blk_drew (blk_alloc HXN.out (.cells #[.int .i64 3, .int .i64 u1, .int .i64 u2, .int .i64 u3, .int .i64 u4] 40)))
          have HZ2 := Aside0.mk (blk_drew (blk_alloc HX2.out (.cells #[.int .i64 3, .int .i64 u1, .int .i64 u2, .int .i64 u3, .int .i64 u4] 40)))
          have HZ6 := Aside0.mk (blk_drew (blk_new w1 (.cells #[.int .i64 3, .int .i64 u1, .int .i64 u2, .int .i64 u3, .int .i64 u4] 40)))
          have HZB := Aside0.mk ((below_alloc HBW.out (.cells #[.int .i64 3, .int .i64 u1, .int .i64 u2, .int .i64 u3, .int .i64 u4] 40)).drew)
          have hS0 : (fun W => W.cell? ⟨w1.heap.size, 0, none⟩ = some (.int .i64 3) ∧ W.cell? ⟨w1.heap.size, 4, none⟩ = some (.int .i64 u4) ∧ W.cell? ⟨w.heap.size, 2, none⟩ = some (.int .i64 n2)) (w1.alloc (.cells #[.int .i64 3, .int .i64 u1, .int .i64 u2, .int .i64 u3, .int .i64 u4] 40)).drew := ⟨(blk_cell HZ6.out 0).trans rfl, (blk_cell HZ6.out 4).trans rfl, (blk_cell HZN.out 2).trans rfl⟩
          have z0 : wrap64 0 = 0 := by unfold wrap64; omega
          have z1 : wrap64 1 = 1 := by unfold wrap64; omega
          have z2 : wrap64 2 = 2 := by unfold wrap64; omega
          refine start_ (n := 13) (S := fun W => W.cell? ⟨w1.heap.size, 0, none⟩ = some (.int .i64 3) ∧ W.cell? ⟨w1.heap.size, 4, none⟩ = some (.int .i64 u4) ∧ W.cell? ⟨w.heap.size, 2, none⟩ = some (.int .i64 n2)) (ds := []) #[false, false, false, false, false, false, false, false, false, false, false, false, false] (by kernel_rfl) rfl rfl hS0 (fun hHeld => ?_)
          refine with_tabW otime.tab8 otime.bits8 (fun HT_ HW_ => ?_)
          clear hS0
          generalize (w1.alloc (.cells #[.int .i64 3, .int .i64 u1, .int .i64 u2, .int .i64 u3, .int .i64 u4] 40)).drew = wz at hHeld HZN HZ2 HZ6 HZB ⊢
          refine pure_ (i := 0) (N := (some 29)) (v := ?_) (a' := ?_) #[true, false, false, false, false, false, false, false, false, false, false, false, false] rfl rfl (any_of HT_.out (by kernel_rfl)) (fun _ _ _ h => h) (Or.inl ⟨by rfl, ?_⟩) ?_ ?_
          rotate_left
          · intro w'
            go_simp
            (try with_reducible rfl)
          rotate_left
          · simp only [Act.put, List.setIfInBounds_toArray, List.set_cons_zero, List.set_cons_succ, i64_w, i32_w]
            rfl
          refine pure_ (i := 1) (N := (some 30)) (v := ?_) (a' := ?_) #[true, true, false, false, false, false, false, false, false, false, false, false, false] rfl rfl (any_of HT_.out (by kernel_rfl)) (fun _ _ _ h => h) (Or.inl ⟨by rfl, ?_⟩) ?_ ?_
          rotate_left
          · intro w'
            go_simp
            (try with_reducible rfl)
          rotate_left
          · simp only [Act.put, List.setIfInBounds_toArray, List.set_cons_zero, List.set_cons_succ, i64_w, i32_w]
            rfl
          refine pure_ (i := 2) (N := (some 31)) (v := ?_) (a' := ?_) #[true, true, true, false, false, false, false, false, false, false, false, false, false] rfl rfl (any_of HT_.out (by kernel_rfl)) (fun _ _ _ h => h) (Or.inl ⟨by rfl, ?_⟩) ?_ ?_
          rotate_left
          · intro w'
            go_simp
            (try with_reducible rfl)
          rotate_left
          · simp only [Act.put, List.setIfInBounds_toArray, List.set_cons_zero, List.set_cons_succ, i64_w, i32_w]
            rfl
          refine pure_ (i := 3) (N := (some 32)) (v := ?_) (a' := ?_) #[true, true, true, true, false, false, false, false, false, false, false, false, false] rfl rfl (any_of HT_.out (by kernel_rfl)) (fun _ _ _ h => h) (Or.inl ⟨by rfl, ?_⟩) ?_ ?_
          rotate_left
          · intro w'
            go_simp
            (try with_reducible rfl)
          rotate_left
          · simp only [Act.put, List.setIfInBounds_toArray, List.set_cons_zero, List.set_cons_succ, i64_w, i32_w]
            rfl
          refine take_ (i := 4) (N := (some 33)) (v := ?_) (a' := ?_) #[true, true, true, true, true, false, false, false, false, false, false, false, false] rfl rfl (take_ofW HT_.out HW_.out (by kernel_rfl)) (fun _ _ _ h => h) (Or.inl ⟨by rfl, ?_⟩) hHeld ?_ ?_
          rotate_left
          · rintro w' ⟨sx0, sx1, sx2⟩
            go_simp
            (try with_reducible rfl)
          rotate_left
          · simp only [Act.put, List.setIfInBounds_toArray, List.set_cons_zero, List.set_cons_succ, i64_w, i32_w]
            rfl
          refine pure_ (i := 5) (N := (some 34)) (v := ?_) (a' := ?_) #[true, true, true, true, true, true, false, false, false, false, false, false, false] rfl rfl (any_of HT_.out (by kernel_rfl)) (fun _ _ _ h => h) (Or.inl ⟨by rfl, ?_⟩) ?_ ?_
          rotate_left
          · intro w'
            go_simp
            (try with_reducible rfl)
          rotate_left
          · simp only [Act.put, List.setIfInBounds_toArray, List.set_cons_zero, List.set_cons_succ, i64_w, i32_w]
            rfl
          refine pure_ (i := 6) (N := (some 35)) (v := ?_) (a' := ?_) #[true, true, true, true, true, true, true, false, false, false, false, false, false] rfl rfl (any_of HT_.out (by kernel_rfl)) (fun _ _ _ h => h) (Or.inl ⟨by rfl, ?_⟩) ?_ ?_
          rotate_left
          · intro w'
            go_simp
            (try with_reducible rfl)
          rotate_left
          · simp only [Act.put, List.setIfInBounds_toArray, List.set_cons_zero, List.set_cons_succ, i64_w, i32_w]
            rfl
          refine pure_ (i := 7) (N := (some 36)) (v := ?_) (a' := ?_) #[true, true, true, true, true, true, true, true, false, false, false, false, false] rfl rfl (any_of HT_.out (by kernel_rfl)) (fun _ _ _ h => h) (Or.inl ⟨by rfl, ?_⟩) ?_ ?_
          rotate_left
          · intro w'
            go_simp
            (try with_reducible rfl)
          rotate_left
          · simp only [Act.put, List.setIfInBounds_toArray, List.set_cons_zero, List.set_cons_succ, i64_w, i32_w]
            rfl
          refine take_ (i := 8) (N := (some 37)) (v := ?_) (a' := ?_) #[true, true, true, true, true, true, true, true, true, false, false, false, false] rfl rfl (take_ofW HT_.out HW_.out (by kernel_rfl)) (fun _ _ _ h => h) (Or.inl ⟨by rfl, ?_⟩) hHeld ?_ ?_
          rotate_left
          · rintro w' ⟨sx0, sx1, sx2⟩
            go_simp
            (try with_reducible rfl)
          rotate_left
          · simp only [Act.put, List.setIfInBounds_toArray, List.set_cons_zero, List.set_cons_succ, i64_w, i32_w]
            rfl
          refine pure_ (i := 9) (N := (some 38)) (v := ?_) (a' := ?_) #[true, true, true, true, true, true, true, true, true, true, false, false, false] rfl rfl (any_of HT_.out (by kernel_rfl)) (fun _ _ _ h => h) (Or.inl ⟨by rfl, ?_⟩) ?_ ?_
          rotate_left
          · intro w'
            go_simp
            (try with_reducible rfl)
          rotate_left
          · simp only [Act.put, List.setIfInBounds_toArray, List.set_cons_zero, List.set_cons_succ, i64_w, i32_w]
            rfl
          refine take_ (i := 10) (N := (some 39)) (v := ?_) (a' := ?_) #[true, true, true, true, true, true, true, true, true, true, true, false, false] rfl rfl (take_ofW HT_.out HW_.out (by kernel_rfl)) (fun _ _ _ h => h) (Or.inl ⟨by rfl, ?_⟩) hHeld ?_ ?_
          rotate_left
          · rintro w' ⟨sx0, sx1, sx2⟩
            go_simp
            (try with_reducible rfl)
          rotate_left
          · simp only [Act.put, List.setIfInBounds_toArray, List.set_cons_zero, List.set_cons_succ, i64_w, i32_w]
            rfl
          refine pure_ (i := 11) (N := (some 40)) (v := ?_) (a' := ?_) #[true, true, true, true, true, true, true, true, true, true, true, true, false] rfl rfl (any_of HT_.out (by kernel_rfl)) (fun _ _ _ h => h) (Or.inl ⟨by rfl, ?_⟩) ?_ ?_
          rotate_left
          · intro w'
            go_simp
            (try with_reducible rfl)
          rotate_left
          · simp only [Act.put, List.setIfInBounds_toArray, List.set_cons_zero, List.set_cons_succ, i64_w, i32_w]
            rfl
          refine pure_ (i := 12) (N := (some 41)) (v := ?_) (a' := ?_) #[true, true, true, true, true, true, true, true, true, true, true, true, true] rfl rfl (any_of HT_.out (by kernel_rfl)) (fun _ _ _ h => h) (Or.inl ⟨by rfl, ?_⟩) ?_ ?_
          rotate_left
          · intro w'
            go_simp
            (try with_reducible rfl)
          rotate_left
          · simp only [Act.put, List.setIfInBounds_toArray, List.set_cons_zero, List.set_cons_succ, i64_w, i32_w]
            rfl
          refine done_ (done_of HT_.out (by kernel_rfl)) ?_
          have p0 := (blk_cell HZ6.out 0).trans rfl
          have r0 := (blk_cell HZ2.out 0).trans rfl
          have f0 := blk_frozen HZ2.out 0
          have p1 := (blk_cell HZ6.out 1).trans rfl
          have r1 := (blk_cell HZ2.out 1).trans rfl
          have f1 := blk_frozen HZ2.out 1
          have p2 := (blk_cell HZ6.out 2).trans rfl
          have r2 := (blk_cell HZ2.out 2).trans rfl
          have f2 := blk_frozen HZ2.out 2
          have p3 := (blk_cell HZ6.out 3).trans rfl
          have r3 := (blk_cell HZ2.out 3).trans rfl
          have f3 := blk_frozen HZ2.out 3
          have p4 := (blk_cell HZ6.out 4).trans rfl
          have r4 := (blk_cell HZ2.out 4).trans rfl
          have f4 := blk_frozen HZ2.out 4
          go_wp2
          refine bodyPost_ret (results_ct rfl _ _ (w.heap.size + 2) 40 #[.int .i64 0, .int .i64 0, .int .i64 0, .int .i64 0, .int .i64 0] (0, 0) _ rfl (by rw [(blk_set (blk_set (blk_set (blk_set (blk_set HZ2.out 0 (.int .i64 0)) 1 (.int .i64 0)) 2 (.int .i64 0)) 3 (.int .i64 0)) 4 (.int .i64 0))]; rfl) Try.underlying40 rfl (by kernel_rfl)) rfl ?_
          exact ⟨by rw [HF.out]; rfl, (below_set (below_set (below_set (below_set (below_set HZB.out (by show w.heap.size ≤ w.heap.size + 2; omega)) (by show w.heap.size ≤ w.heap.size + 2; omega)) (by show w.heap.size ≤ w.heap.size + 2; omega)) (by show w.heap.size ≤ w.heap.size + 2; omega)) (by show w.heap.size ≤ w.heap.size + 2; omega))⟩
        · have HF := Aside0.mk (show timeC 9 n2 ⟨d, e, a, b, c⟩ = (⟨3, u1, u2, u3, u4⟩, true) by rw [hF]; simp [St.loop]; omega)
          clear hF hok
          go_enter Try.func17, Try.ntmps17
          go_wp2_with (go_at_call 38; refine HC0.out.mono ?_; rintro e1 w1 ⟨rfl, hb⟩; have HXN := Aside0.mk (blk_below HBN.out hb); have HX2 := Aside0.mk (blk_below HB2.out hb); have HBW := Aside0.mk (below_step hHB2.out hb); clear hb)
          have HZN := Aside0.mk (blk_drew (blk_alloc HXN.out (.cells #[.int .i64 3, .int .i64 u1, .int .i64 u2, .int .i64 u3, .int .i64 u4] 40)))
          have HZ2 := Aside0.mk (blk_drew (blk_alloc HX2.out (.cells #[.int .i64 3, .int .i64 u1, .int .i64 u2, .int .i64 u3, .int .i64 u4] 40)))
          have HZ6 := Aside0.mk (blk_drew (blk_new w1 (.cells #[.int .i64 3, .int .i64 u1, .int .i64 u2, .int .i64 u3, .int .i64 u4] 40)))
          have HZB := Aside0.mk ((below_alloc HBW.out (.cells #[.int .i64 3, .int .i64 u1, .int .i64 u2, .int .i64 u3, .int .i64 u4] 40)).drew)
          have hS0 : (fun W => W.cell? ⟨w1.heap.size, 0, none⟩ = some (.int .i64 3) ∧ W.cell? ⟨w1.heap.size, 4, none⟩ = some (.int .i64 u4) ∧ W.cell? ⟨w.heap.size, 2, none⟩ = some (.int .i64 n2)) (w1.alloc (.cells #[.int .i64 3, .int .i64 u1, .int .i64 u2, .int .i64 u3, .int .i64 u4] 40)).drew := ⟨(blk_cell HZ6.out 0).trans rfl, (blk_cell HZ6.out 4).trans rfl, (blk_cell HZN.out 2).trans rfl⟩
          have z0 : wrap64 0 = 0 := by unfold wrap64; omega
          have z1 : wrap64 1 = 1 := by unfold wrap64; omega
          have z2 : wrap64 2 = 2 := by unfold wrap64; omega
          refine start_ (n := 13) (S := fun W => W.cell? ⟨w1.heap.size, 0, none⟩ = some (.int .i64 3) ∧ W.cell? ⟨w1.heap.size, 4, none⟩ = some (.int .i64 u4) ∧ W.cell? ⟨w.heap.size, 2, none⟩ = some (.int .i64 n2)) (ds := []) #[false, false, false, false, false, false, false, false, false, false, false, false, false] (by kernel_rfl) rfl rfl hS0 (fun hHeld => ?_)
          refine with_tabW otime.tab8 otime.bits8 (fun HT_ HW_ => ?_)
          clear hS0
          generalize (w1.alloc (.cells #[.int .i64 3, .int .i64 u1, .int .i64 u2, .int .i64 u3, .int .i64 u4] 40)).drew = wz at hHeld HZN HZ2 HZ6 HZB ⊢
          refine pure_ (i := 0) (N := (some 29)) (v := ?_) (a' := ?_) #[true, false, false, false, false, false, false, false, false, false, false, false, false] rfl rfl (any_of HT_.out (by kernel_rfl)) (fun _ _ _ h => h) (Or.inl ⟨by rfl, ?_⟩) ?_ ?_
          rotate_left
          · intro w'
            go_simp
            (try with_reducible rfl)
          rotate_left
          · simp only [Act.put, List.setIfInBounds_toArray, List.set_cons_zero, List.set_cons_succ, i64_w, i32_w]
            rfl
          refine pure_ (i := 1) (N := (some 30)) (v := ?_) (a' := ?_) #[true, true, false, false, false, false, false, false, false, false, false, false, false] rfl rfl (any_of HT_.out (by kernel_rfl)) (fun _ _ _ h => h) (Or.inl ⟨by rfl, ?_⟩) ?_ ?_
          rotate_left
          · intro w'
            go_simp
            (try with_reducible rfl)
          rotate_left
          · simp only [Act.put, List.setIfInBounds_toArray, List.set_cons_zero, List.set_cons_succ, i64_w, i32_w]
            rfl
          refine pure_ (i := 2) (N := (some 31)) (v := ?_) (a' := ?_) #[true, true, true, false, false, false, false, false, false, false, false, false, false] rfl rfl (any_of HT_.out (by kernel_rfl)) (fun _ _ _ h => h) (Or.inl ⟨by rfl, ?_⟩) ?_ ?_
          rotate_left
          · intro w'
            go_simp
            (try with_reducible rfl)
          rotate_left
          · simp only [Act.put, List.setIfInBounds_toArray, List.set_cons_zero, List.set_cons_succ, i64_w, i32_w]
            rfl
          refine pure_ (i := 3) (N := (some 32)) (v := ?_) (a' := ?_) #[true, true, true, true, false, false, false, false, false, false, false, false, false] rfl rfl (any_of HT_.out (by kernel_rfl)) (fun _ _ _ h => h) (Or.inl ⟨by rfl, ?_⟩) ?_ ?_
          rotate_left
          · intro w'
            go_simp
            (try with_reducible rfl)
          rotate_left
          · simp only [Act.put, List.setIfInBounds_toArray, List.set_cons_zero, List.set_cons_succ, i64_w, i32_w]
            rfl
          refine take_ (i := 4) (N := (some 33)) (v := ?_) (a' := ?_) #[true, true, true, true, true, false, false, false, false, false, false, false, false] rfl rfl (take_ofW HT_.out HW_.out (by kernel_rfl)) (fun _ _ _ h => h) (Or.inl ⟨by rfl, ?_⟩) hHeld ?_ ?_
          rotate_left
          · rintro w' ⟨sx0, sx1, sx2⟩
            go_simp
            (try with_reducible rfl)
          rotate_left
          · simp only [Act.put, List.setIfInBounds_toArray, List.set_cons_zero, List.set_cons_succ, i64_w, i32_w]
            rfl
          refine pure_ (i := 5) (N := (some 34)) (v := ?_) (a' := ?_) #[true, true, true, true, true, true, false, false, false, false, false, false, false] rfl rfl (any_of HT_.out (by kernel_rfl)) (fun _ _ _ h => h) (Or.inl ⟨by rfl, ?_⟩) ?_ ?_
          rotate_left
          · intro w'
            go_simp
            (try with_reducible rfl)
          rotate_left
          · simp only [Act.put, List.setIfInBounds_toArray, List.set_cons_zero, List.set_cons_succ, i64_w, i32_w]
            rfl
          refine pure_ (i := 6) (N := (some 35)) (v := ?_) (a' := ?_) #[true, true, true, true, true, true, true, false, false, false, false, false, false] rfl rfl (any_of HT_.out (by kernel_rfl)) (fun _ _ _ h => h) (Or.inl ⟨by rfl, ?_⟩) ?_ ?_
          rotate_left
          · intro w'
            go_simp
            (try with_reducible rfl)
          rotate_left
          · simp only [Act.put, List.setIfInBounds_toArray, List.set_cons_zero, List.set_cons_succ, i64_w, i32_w]
            rfl
          refine pure_ (i := 7) (N := (some 36)) (v := ?_) (a' := ?_) #[true, true, true, true, true, true, true, true, false, false, false, false, false] rfl rfl (any_of HT_.out (by kernel_rfl)) (fun _ _ _ h => h) (Or.inl ⟨by rfl, ?_⟩) ?_ ?_
          rotate_left
          · intro w'
            go_simp
            (try with_reducible rfl)
          rotate_left
          · simp only [Act.put, List.setIfInBounds_toArray, List.set_cons_zero, List.set_cons_succ, i64_w, i32_w]
            rfl
          refine take_ (i := 8) (N := (some 37)) (v := ?_) (a' := ?_) #[true, true, true, true, true, true, true, true, true, false, false, false, false] rfl rfl (take_ofW HT_.out HW_.out (by kernel_rfl)) (fun _ _ _ h => h) (Or.inl ⟨by rfl, ?_⟩) hHeld ?_ ?_
          rotate_left
          · rintro w' ⟨sx0, sx1, sx2⟩
            go_simp
            (try with_reducible rfl)
          rotate_left
          · simp only [Act.put, List.setIfInBounds_toArray, List.set_cons_zero, List.set_cons_succ, i64_w, i32_w]
            rfl
          refine pure_ (i := 9) (N := (some 38)) (v := ?_) (a' := ?_) #[true, true, true, true, true, true, true, true, true, true, false, false, false] rfl rfl (any_of HT_.out (by kernel_rfl)) (fun _ _ _ h => h) (Or.inl ⟨by rfl, ?_⟩) ?_ ?_
          rotate_left
          · intro w'
            go_simp
            (try with_reducible rfl)
          rotate_left
          · simp only [Act.put, List.setIfInBounds_toArray, List.set_cons_zero, List.set_cons_succ, i64_w, i32_w]
            rfl
          refine take_ (i := 10) (N := (some 39)) (v := ?_) (a' := ?_) #[true, true, true, true, true, true, true, true, true, true, true, false, false] rfl rfl (take_ofW HT_.out HW_.out (by kernel_rfl)) (fun _ _ _ h => h) (Or.inl ⟨by rfl, ?_⟩) hHeld ?_ ?_
          rotate_left
          · rintro w' ⟨sx0, sx1, sx2⟩
            go_simp
            (try with_reducible rfl)
          rotate_left
          · simp only [Act.put, List.setIfInBounds_toArray, List.set_cons_zero, List.set_cons_succ, i64_w, i32_w]
            rfl
          refine pure_ (i := 11) (N := (some 40)) (v := ?_) (a' := ?_) #[true, true, true, true, true, true, true, true, true, true, true, true, false] rfl rfl (any_of HT_.out (by kernel_rfl)) (fun _ _ _ h => h) (Or.inl ⟨by rfl, ?_⟩) ?_ ?_
          rotate_left
          · intro w'
            go_simp
            (try with_reducible rfl)
          rotate_left
          · simp only [Act.put, List.setIfInBounds_toArray, List.set_cons_zero, List.set_cons_succ, i64_w, i32_w]
            rfl
          refine pure_ (i := 12) (N := (some 41)) (v := ?_) (a' := ?_) #[true, true, true, true, true, true, true, true, true, true, true, true, true] rfl rfl (any_of HT_.out (by kernel_rfl)) (fun _ _ _ h => h) (Or.inl ⟨by rfl, ?_⟩) ?_ ?_
          rotate_left
          · intro w'
            go_simp
            (try with_reducible rfl)
          rotate_left
          · simp only [Act.put, List.setIfInBounds_toArray, List.set_cons_zero, List.set_cons_succ, i64_w, i32_w]
            rfl
          refine done_ (done_of HT_.out (by kernel_rfl)) ?_
          have p0 := (blk_cell HZ6.out 0).trans rfl
          have r0 := (blk_cell HZ2.out 0).trans rfl
          have f0 := blk_frozen HZ2.out 0
          have p1 := (blk_cell HZ6.out 1).trans rfl
          have r1 := (blk_cell HZ2.out 1).trans rfl
          have f1 := blk_frozen HZ2.out 1
          have p2 := (blk_cell HZ6.out 2).trans rfl
          have r2 := (blk_cell HZ2.out 2).trans rfl
          have f2 := blk_frozen HZ2.out 2
          have p3 := (blk_cell HZ6.out 3).trans rfl
          have r3 := (blk_cell HZ2.out 3).trans rfl
          have f3 := blk_frozen HZ2.out 3
          have p4 := (blk_cell HZ6.out 4).trans rfl
          have r4 := (blk_cell HZ2.out 4).trans rfl
          have f4 := blk_frozen HZ2.out 4
          go_wp2
          refine bodyPost_ret (results_ct rfl _ _ (w.heap.size + 2) 40 #[.int .i64 3, .int .i64 u1, .int .i64 u2, .int .i64 u3, .int .i64 u4] (0, 0) _ rfl (by rw [(blk_set (blk_set (blk_set (blk_set (blk_set HZ2.out 0 (.int .i64 3)) 1 (.int .i64 u1)) 2 (.int .i64 u2)) 3 (.int .i64 u3)) 4 (.int .i64 u4))]; rfl) Try.underlying40 rfl (by kernel_rfl)) rfl ?_
          exact ⟨by rw [HF.out]; rfl, (below_set (below_set (below_set (below_set (below_set HZB.out (by show w.heap.size ≤ w.heap.size + 2; omega)) (by show w.heap.size ≤ w.heap.size + 2; omega)) (by show w.heap.size ≤ w.heap.size + 2; omega)) (by show w.heap.size ≤ w.heap.size + 2; omega)) (by show w.heap.size ≤ w.heap.size + 2; omega))⟩
  have HBN := Aside0.mk (blk_alloc (blk_alloc (blk_new w (.cells #[.int .u8 n0, .int .u8 n1, .int .i64 n2, .int .i64 n3, .slice A4 m4 c4] 24)) (.cells #[.int .i64 d, .int .i64 e, .int .i64 a, .int .i64 b, .int .i64 c] 40)) (.cells #[.int .i64 0, .int .i64 0, .int .i64 0, .int .i64 0, .int .i64 0] 40))
  have HB1 := Aside0.mk (show ((((w.alloc (.cells #[.int .u8 n0, .int .u8 n1, .int .i64 n2, .int .i64 n3, .slice A4 m4 c4] 24)).alloc (.cells #[.int .i64 d, .int .i64 e, .int .i64 a, .int .i64 b, .int .i64 c] 40)).alloc (.cells #[.int .i64 0, .int .i64 0, .int .i64 0, .int .i64 0, .int .i64 0] 40))).heap[w.heap.size + 1]? = some (.cells #[.int .i64 d, .int .i64 e, .int .i64 a, .int .i64 b, .int .i64 c] 40 (0, 0)) from blk_alloc (by simpa using heap_alloc_last (w.alloc (.cells #[.int .u8 n0, .int .u8 n1, .int .i64 n2, .int .i64 n3, .slice A4 m4 c4] 24)) (.cells #[.int .i64 d, .int .i64 e, .int .i64 a, .int .i64 b, .int .i64 c] 40)) _)
  have HB2 := Aside0.mk (show ((((w.alloc (.cells #[.int .u8 n0, .int .u8 n1, .int .i64 n2, .int .i64 n3, .slice A4 m4 c4] 24)).alloc (.cells #[.int .i64 d, .int .i64 e, .int .i64 a, .int .i64 b, .int .i64 c] 40)).alloc (.cells #[.int .i64 0, .int .i64 0, .int .i64 0, .int .i64 0, .int .i64 0] 40))).heap[w.heap.size + 2]? = some (.cells #[.int .i64 0, .int .i64 0, .int .i64 0, .int .i64 0, .int .i64 0] 40 (0, 0)) by simpa using heap_alloc_last ((w.alloc (.cells #[.int .u8 n0, .int .u8 n1, .int .i64 n2, .int .i64 n3, .slice A4 m4 c4] 24)).alloc (.cells #[.int .i64 d, .int .i64 e, .int .i64 a, .int .i64 b, .int .i64 c] 40)) (.cells #[.int .i64 0, .int .i64 0, .int .i64 0, .int .i64 0, .int .i64 0] 40))
  have hHB2 := Aside0.mk (below_alloc (below_alloc (below_alloc (Below.refl w.heap.size w) (.cells #[.int .u8 n0, .int .u8 n1, .int .i64 n2, .int .i64 n3, .slice A4 m4 c4] 24)) (.cells #[.int .i64 d, .int .i64 e, .int .i64 a, .int .i64 b, .int .i64 c] 40)) (.cells #[.int .i64 0, .int .i64 0, .int .i64 0, .int .i64 0, .int .i64 0] 40))
  have HC0 := Aside0.mk (stamp_Right_calls ⟨d, e, a, b, c⟩ ((((w.alloc (.cells #[.int .u8 n0, .int .u8 n1, .int .i64 n2, .int .i64 n3, .slice A4 m4 c4] 24)).alloc (.cells #[.int .i64 d, .int .i64 e, .int .i64 a, .int .i64 b, .int .i64 c] 40)).alloc (.cells #[.int .i64 0, .int .i64 0, .int .i64 0, .int .i64 0, .int .i64 0] 40))))
  have hF : timeC n0 n2 ⟨d, e, a, b, c⟩ = (if rightB ⟨d, e, a, b, c⟩ = false then (St.zero, false) else (⟨d, e, a, b, c⟩, true)) := by simp [timeC, k7, k8, k9]
  have b7 : (n0 == 7) = false := beq_eq_false_iff_ne.2 k7
  have b8 : (n0 == 8) = false := beq_eq_false_iff_ne.2 k8
  have b9 : (n0 == 9) = false := beq_eq_false_iff_ne.2 k9
  generalize rightB ⟨d, e, a, b, c⟩ = u at HC0 hF
  simp only [stV] at HC0
  clear k7 k8 k9
  cases u with
  | false =>
    have HF := Aside0.mk (show timeC n0 n2 ⟨d, e, a, b, c⟩ = (St.zero, false) by rw [hF]; simp)
    clear hF
    go_enter Try.func17, Try.ntmps17
    go_wp2_with (go_at_call 39; refine HC0.out.mono ?_; rintro e1 w1 ⟨rfl, hb⟩; have HX1 := Aside0.mk (blk_below HB1.out hb); have HX2 := Aside0.mk (blk_below HB2.out hb); have HBW := Aside0.mk (below_step hHB2.out hb); clear hb; have p1_0 := (blk_cell HX1.out 0).trans rfl; have p1_1 := (blk_cell HX1.out 1).trans rfl; have p1_2 := (blk_cell HX1.out 2).trans rfl; have p1_3 := (blk_cell HX1.out 3).trans rfl; have p1_4 := (blk_cell HX1.out 4).trans rfl; have r1_0 := (blk_cell HX2.out 0).trans rfl; have r1_1 := (blk_cell HX2.out 1).trans rfl; have r1_2 := (blk_cell HX2.out 2).trans rfl; have r1_3 := (blk_cell HX2.out 3).trans rfl; have r1_4 := (blk_cell HX2.out 4).trans rfl; have f1_0 := blk_frozen HX1.out 0; have f1_1 := blk_frozen HX1.out 1; have f1_2 := blk_frozen HX1.out 2; have f1_3 := blk_frozen HX1.out 3; have f1_4 := blk_frozen HX1.out 4; have g1_0 := blk_frozen HX2.out 0; have g1_1 := blk_frozen HX2.out 1; have g1_2 := blk_frozen HX2.out 2; have g1_3 := blk_frozen HX2.out 3; have g1_4 := blk_frozen HX2.out 4)
    refine bodyPost_ret (results_ct rfl _ _ (w.heap.size + 2) 40 #[.int .i64 0, .int .i64 0, .int .i64 0, .int .i64 0, .int .i64 0] (0, 0) _ rfl (by rw [(blk_set (blk_set (blk_set (blk_set (blk_set HX2.out 0 (.int .i64 0)) 1 (.int .i64 0)) 2 (.int .i64 0)) 3 (.int .i64 0)) 4 (.int .i64 0))]; rfl) Try.underlying40 rfl (by kernel_rfl)) rfl ?_
    exact ⟨by rw [HF.out]; rfl, (below_set (below_set (below_set (below_set (below_set HBW.out (by show w.heap.size ≤ w.heap.size + 2; omega)) (by show w.heap.size ≤ w.heap.size + 2; omega)) (by show w.heap.size ≤ w.heap.size + 2; omega)) (by show w.heap.size ≤ w.heap.size + 2; omega)) (by show w.heap.size ≤ w.heap.size + 2; omega))⟩
  | true =>
    have HF := Aside0.mk (show timeC n0 n2 ⟨d, e, a, b, c⟩ = (⟨d, e, a, b, c⟩, true) by rw [hF]; simp)
    clear hF
    go_enter Try.func17, Try.ntmps17
    go_wp2_with (go_at_call 39; refine HC0.out.mono ?_; rintro e1 w1 ⟨rfl, hb⟩; have HX1 := Aside0.mk (blk_below HB1.out hb); have HX2 := Aside0.mk (blk_below HB2.out hb); have HBW := Aside0.mk (below_step hHB2.out hb); clear hb; have p1_0 := (blk_cell HX1.out 0).trans rfl; have p1_1 := (blk_cell HX1.out 1).trans rfl; have p1_2 := (blk_cell HX1.out 2).trans rfl; have p1_3 := (blk_cell HX1.out 3).trans rfl; have p1_4 := (blk_cell HX1.out 4).trans rfl; have r1_0 := (blk_cell HX2.out 0).trans rfl; have r1_1 := (blk_cell HX2.out 1).trans rfl; have r1_2 := (blk_cell HX2.out 2).trans rfl; have r1_3 := (blk_cell HX2.out 3).trans rfl; have r1_4 := (blk_cell HX2.out 4).trans rfl; have f1_0 := blk_frozen HX1.out 0; have f1_1 := blk_frozen HX1.out 1; have f1_2 := blk_frozen HX1.out 2; have f1_3 := blk_frozen HX1.out 3; have f1_4 := blk_frozen HX1.out 4; have g1_0 := blk_frozen HX2.out 0; have g1_1 := blk_frozen HX2.out 1; have g1_2 := blk_frozen HX2.out 2; have g1_3 := blk_frozen HX2.out 3; have g1_4 := blk_frozen HX2.out 4)
    refine bodyPost_ret (results_ct rfl _ _ (w.heap.size + 2) 40 #[.int .i64 d, .int .i64 e, .int .i64 a, .int .i64 b, .int .i64 c] (0, 0) _ rfl (by rw [(blk_set (blk_set (blk_set (blk_set (blk_set HX2.out 0 (.int .i64 d)) 1 (.int .i64 e)) 2 (.int .i64 a)) 3 (.int .i64 b)) 4 (.int .i64 c))]; rfl) Try.underlying40 rfl (by kernel_rfl)) rfl ?_
    exact ⟨by rw [HF.out]; rfl, (below_set (below_set (below_set (below_set (below_set HBW.out (by show w.heap.size ≤ w.heap.size + 2; omega)) (by show w.heap.size ≤ w.heap.size + 2; omega)) (by show w.heap.size ≤ w.heap.size + 2; omega)) (by show w.heap.size ≤ w.heap.size + 2; omega)) (by show w.heap.size ≤ w.heap.size + 2; omega))⟩
end Go.Proofs.Ytcihpjkjodhdpaa.X
namespace Go.Proofs.Ytcihpjkjodhdpaa.X
open Go.RowKit Go.Proofs.YtcihpjkjodhdpaaW.PrintWords Go.Proofs.YtcihpjkjodhdpaaW.PrintLast Go.Proofs.YtcihpjkjodhdpaaW.PrintMore
attribute [local go_sem] max2_int min2_int max_two min_two
set_option linter.unusedVariables false
set_option linter.unusedSimpArgs false
def opers_Waits.f (a0 : Int) : Option (Bool) := if a0 = 5 then (some true) else (some (a0 == 6))
set_option maxHeartbeats 8000000 in
set_option maxRecDepth 100000 in
theorem opers_Waits.calls (a0 : Int) (r : Bool) (w : World) (h : opers_Waits.f a0 = some r) :
    Calls Try.prog 15 #[.int .u8 a0] w fun e w' => e = .returned (.bool r) ∧ Drawn0 w w' := by
  have H : (if a0 = 5 then (some true) else (some (a0 == 6))) = some r := h
  clear h
  by_cases c2 : a0 = 5
  · rw [if_pos c2] at H
    have c2b0 : (a0 == 5) = true := beq_iff_eq.mpr c2
    have c2b1 : (a0 != 5) = false := bne_eq_false_iff_eq.mpr c2
    clear c2
    obtain rfl := Option.some.inj H
    go_enter Try.func15, Try.ntmps15
    go_wp2
    go_ret
    exact ⟨by first | rfl | (simp; done) | (simp [*]; done), by repeat (first | exact Drawn0.refl _ | apply Drawn0.step)⟩
  · rw [if_neg c2] at H
    have c2b0 : (a0 == 5) = false := beq_eq_false_iff_ne.mpr c2
    have c2b1 : (a0 != 5) = true := bne_iff_ne.mpr c2
    obtain rfl := Option.some.inj H
    go_enter Try.func15, Try.ntmps15
    go_wp2
    go_ret
    exact ⟨by first | rfl | (simp; done) | (simp [*]; done), by repeat (first | exact Drawn0.refl _ | apply Drawn0.step)⟩
def opers_modulo.f (a0 : Int) (a1 : Int) : Option (Int) := if a1 = 0 then (none) else (some (Int.tmod (wrap64 ((Int.tmod a0 a1) + a1)) a1))
set_option maxHeartbeats 8000000 in
set_option maxRecDepth 100000 in
theorem opers_modulo.calls (a0 : Int) (a1 : Int) (r : Int) (w : World) (h : opers_modulo.f a0 a1 = some r) :
    Calls Try.prog 44 #[.int .i64 a0, .int .i64 a1] w fun e w' => e = .returned (.int .i64 r) ∧ Drawn0 w w' := by
  have H : (if a1 = 0 then (none) else (some (Int.tmod (wrap64 ((Int.tmod a0 a1) + a1)) a1))) = some r := h
  clear h
  by_cases c3 : a1 = 0
  · rw [if_pos c3] at H
    exact absurd H (by simp)
  · rw [if_neg c3] at H
    have c3b0 : (a1 == 0) = false := beq_eq_false_iff_ne.mpr c3
    have c3b1 : (a1 != 0) = true := bne_iff_ne.mpr c3
    obtain rfl := Option.some.inj H
    go_enter Try.func44, Try.ntmps44
    go_wp2
    go_ret
    exact ⟨by first | rfl | (simp; done) | (simp [*]; done), by repeat (first | exact Drawn0.refl _ | apply Drawn0.step)⟩
def opers_Of.j0 : Nat → Int → Int → Bool → Int → Int → Int → Int → List Int → Int → Int → Option (Int)
  | 0, _, _, _, _, _, _, _, _, _, _ => none
  | k + 1, x2, x3, x9, x134000, x134001, x134002, x134003, x134004, x135000, x135001 => if x9 = true then (some (-1)) else ((opers_Waits.f x134000).bind fun t135 => (if t135 = true then ((opers_modulo.f x135000 x3).bind fun t136 => (some t136)) else (some x2)))
def opers_Of.f (k : Nat) (a0_0 : Int) (a0_1 : Int) (a0_2 : Int) (a0_3 : Int) (l0_4 : List Int) (a1_0 : Int) (a1_1 : Int) (a2 : Int) (a3 : Int) : Option (Int) := if a3 < 1 then (opers_Of.j0 k a2 a3 true a0_0 a0_1 a0_2 a0_3 l0_4 a1_0 a1_1) else (if a3 > 64 then (opers_Of.j0 k a2 a3 true a0_0 a0_1 a0_2 a0_3 l0_4 a1_0 a1_1) else (if a2 < 0 then (opers_Of.j0 k a2 a3 true a0_0 a0_1 a0_2 a0_3 l0_4 a1_0 a1_1) else (opers_Of.j0 k a2 a3 (decide (a2 ≥ a3)) a0_0 a0_1 a0_2 a0_3 l0_4 a1_0 a1_1)))
set_option maxHeartbeats 8000000 in
set_option maxRecDepth 100000 in
theorem opers_Of.calls (k : Nat) (a0_0 : Int) (a0_1 : Int) (a0_2 : Int) (a0_3 : Int) (A0_4 : Option Addr) (c0_4 : Nat) (l0_4 : List Int) (a1_0 : Int) (a1_1 : Int) (a2 : Int) (a3 : Int) (r : Int) (w : World) (hr0_4 : Kd.C (Kd.int .i64) w A0_4 l0_4.length l0_4) (hc0_4 : l0_4.length ≤ c0_4) (h : opers_Of.f k a0_0 a0_1 a0_2 a0_3 l0_4 a1_0 a1_1 a2 a3 = some r) :
    Calls Try.prog 19 #[.agg #[.int .u8 a0_0, .int .u8 a0_1, .int .i64 a0_2, .int .i64 a0_3, .slice A0_4 l0_4.length c0_4], .agg #[.int .i64 a1_0, .int .i64 a1_1], .int .i64 a2, .int .i64 a3] w fun e w' => e = .returned (.int .i64 r) ∧ Below w.heap.size w w' := by
  have hu24 := Try.underlying24
  have hu36 := Try.underlying36
  have HR0_4 := Aside0.mk hr0_4
  have HC0_4 := Aside0.mk hc0_4
  clear hr0_4 hc0_4
  have HB := Aside0.mk (Below.refl w.heap.size w)
  have H : (if a3 < 1 then (opers_Of.j0 k a2 a3 true a0_0 a0_1 a0_2 a0_3 l0_4 a1_0 a1_1) else (if a3 > 64 then (opers_Of.j0 k a2 a3 true a0_0 a0_1 a0_2 a0_3 l0_4 a1_0 a1_1) else (if a2 < 0 then (opers_Of.j0 k a2 a3 true a0_0 a0_1 a0_2 a0_3 l0_4 a1_0 a1_1) else (opers_Of.j0 k a2 a3 (decide (a2 ≥ a3)) a0_0 a0_1 a0_2 a0_3 l0_4 a1_0 a1_1)))) = some r := h
  clear h
  have HC5 := Aside0.mk H
  clear H
  go_enter Try.func19, Try.ntmps19
  go_upto_region 1 with (first | ((with_reducible refine gate_dst (N := 4) rfl ?_); refine box_event ?hg (N := 4) ?hd (cs := #[.int .u8 a0_0, .int .u8 a0_1, .int .i64 a0_2, .int .i64 a0_3, .slice A0_4 l0_4.length c0_4]) (t := 24) ?hr ?_; (case hd => rfl); (case hg => rfl); (case hr => first | (go_simp; done) | (go_simp; rfl)); intro gb133 hg w6 hbox hb; have n0_ := Aside0.mk (below_step (by repeat (first | (with_reducible first | exact HB.out | apply below_alloc | apply pw_below_drewN | apply below_drew1) | exact HB.out)) hb); have n1_ := Aside0.mk (hbox); have n2_ := Aside0.mk ((by rw [hg]; exact (below_size (by repeat (first | (with_reducible first | exact HB.out | apply below_alloc | apply pw_below_drewN | apply below_drew1) | exact HB.out))) : w.heap.size ≤ gb133)); have n3_ := Aside0.mk ((by rw [hg]; exact (below_size (by repeat (first | (with_reducible first | exact HB.out | apply below_alloc | apply pw_below_drewN | apply below_drew1) | exact HB.out))) : w.heap.size ≤ gb133)); clear HB; have HB := n0_; have BK133 := n1_; have GW133 := n2_; have GE133 := n3_; clear n0_ n1_ n2_ n3_; clear hb hbox hg) | ((with_reducible refine gate_dst (N := 5) rfl ?_); refine box_event ?hg (N := 5) ?hd (cs := #[.int .i64 a1_0, .int .i64 a1_1]) (t := 36) ?hr ?_; (case hd => rfl); (case hg => rfl); (case hr => first | (go_simp; done) | (go_simp; rfl)); intro gb134 hg w7 hbox hb; have n0_ := Aside0.mk (blk_below (g := gb133) (o := .cells #[.int .u8 a0_0, .int .u8 a0_1, .int .i64 a0_2, .int .i64 a0_3, .slice A0_4 l0_4.length c0_4] 24 (0, 0)) (by (with_reducible repeat (first | refine blk_drewN ?_ _ | refine blk_drew ?_ | refine blk_alloc ?_ _)); exact BK133.out) hb); have n1_ := Aside0.mk (below_step (by repeat (first | (with_reducible first | exact HB.out | apply below_alloc | apply pw_below_drewN | apply below_drew1 | refine below_set ?_ GE133.out) | exact HB.out)) hb); have n2_ := Aside0.mk (hbox); have n3_ := Aside0.mk ((by rw [hg]; exact (below_size (by repeat (first | (with_reducible first | exact HB.out | apply below_alloc | apply pw_below_drewN | apply below_drew1 | refine below_set ?_ GE133.out) | exact HB.out))) : w.heap.size ≤ gb134)); have n4_ := Aside0.mk ((by rw [hg]; exact (below_size (by repeat (first | (with_reducible first | exact HB.out | apply below_alloc | apply pw_below_drewN | apply below_drew1 | refine below_set ?_ GE133.out) | exact HB.out))) : w.heap.size ≤ gb134)); have n5_ := Aside0.mk ((by rw [hg]; exact Nat.ne_of_lt (blk_lt (g := gb133) (o := .cells #[.int .u8 a0_0, .int .u8 a0_1, .int .i64 a0_2, .int .i64 a0_3, .slice A0_4 l0_4.length c0_4] 24 (0, 0)) (by (with_reducible repeat (first | refine blk_drewN ?_ _ | refine blk_drew ?_ | refine blk_alloc ?_ _)); exact BK133.out)) : gb133 ≠ gb134)); have n6_ := Aside0.mk ((by rw [hg]; exact Nat.ne_of_gt (blk_lt (g := gb133) (o := .cells #[.int .u8 a0_0, .int .u8 a0_1, .int .i64 a0_2, .int .i64 a0_3, .slice A0_4 l0_4.length c0_4] 24 (0, 0)) (by (with_reducible repeat (first | refine blk_drewN ?_ _ | refine blk_drew ?_ | refine blk_alloc ?_ _)); exact BK133.out)) : gb134 ≠ gb133)); clear BK133; clear HB; have BK133 := n0_; have HB := n1_; have BK134 := n2_; have GW134 := n3_; have GE134 := n4_; have NB133_134 := n5_; have NB134_133 := n6_; clear n0_ n1_ n2_ n3_ n4_ n5_ n6_; clear hb hbox hg))
  (try simp only [Act.put, List.setIfInBounds_toArray, List.set_cons_zero, List.set_cons_succ])
  go_cut [9] (fun v9 wc => ∃ (kq : Nat) (x9_4 : Bool), v9 = .bool x9_4 ∧ Aside0 (opers_Of.j0 kq a2 a3 x9_4 a0_0 a0_1 a0_2 a0_3 l0_4 a1_0 a1_1 = some r) ∧ Aside0 (kq ≤ k) ∧ Aside0 (wc.heap[gb133]? = some (.cells #[.int .u8 a0_0, .int .u8 a0_1, .int .i64 a0_2, .int .i64 a0_3, (.slice A0_4 l0_4.length c0_4)] 24 (0, 0))) ∧ Aside0 (wc.heap[gb134]? = some (.cells #[.int .i64 a1_0, .int .i64 a1_1] 36 (0, 0))) ∧ Aside0 (Below w.heap.size w wc))
  case first =>
    have H := HC5.out
    clear HC5
    by_cases c8 : a3 < 1
    · rw [if_pos c8] at H
      have c8b0 : decide (a3 < 1) = true := decide_eq_true c8
      clear c8
      (first | rw [c8b0] | (simp only [i64_w, i32_w]; rw [c8b0]) | skip)
      have H' := Aside0.mk H
      clear H
      go_wp2
      go_meet
      case rel => exact ⟨_, (true), (by first | rfl | (simp; done) | (simp [*]; done)), H', ⟨by first | omega | exact Nat.le_refl _⟩, ⟨by (with_reducible repeat (first | refine blk_drewN ?_ _ | refine blk_drew ?_ | refine blk_alloc ?_ _)); exact BK133.out⟩, ⟨by (with_reducible repeat (first | refine blk_drewN ?_ _ | refine blk_drew ?_ | refine blk_alloc ?_ _)); exact BK134.out⟩, ⟨by repeat (first | (with_reducible first | exact HB.out | apply below_alloc | apply pw_below_drewN | apply below_drew1 | refine below_set ?_ GE133.out | refine below_set ?_ GE134.out) | exact HB.out)⟩⟩
    · rw [if_neg c8] at H
      have c8b0 : decide (a3 < 1) = false := decide_eq_false c8
      clear c8
      (first | rw [c8b0] | (simp only [i64_w, i32_w]; rw [c8b0]) | skip)
      by_cases c9 : a3 > 64
      · rw [if_pos c9] at H
        have c9b0 : decide (64 < a3) = true := decide_eq_true c9
        clear c9
        have H' := Aside0.mk H
        clear H
        go_wp2
        go_meet
        case rel => exact ⟨_, (true), (by first | rfl | (simp; done) | (simp [*]; done)), H', ⟨by first | omega | exact Nat.le_refl _⟩, ⟨by (with_reducible repeat (first | refine blk_drewN ?_ _ | refine blk_drew ?_ | refine blk_alloc ?_ _)); exact BK133.out⟩, ⟨by (with_reducible repeat (first | refine blk_drewN ?_ _ | refine blk_drew ?_ | refine blk_alloc ?_ _)); exact BK134.out⟩, ⟨by repeat (first | (with_reducible first | exact HB.out | apply below_alloc | apply pw_below_drewN | apply below_drew1 | refine below_set ?_ GE133.out | refine below_set ?_ GE134.out) | exact HB.out)⟩⟩
      · rw [if_neg c9] at H
        have c9b0 : decide (64 < a3) = false := decide_eq_false c9
        clear c9
        by_cases c10 : a2 < 0
        · rw [if_pos c10] at H
          have c10b0 : decide (a2 < 0) = true := decide_eq_true c10
          clear c10
          have H' := Aside0.mk H
          clear H
          go_wp2
          go_meet
          case rel => exact ⟨_, (true), (by first | rfl | (simp; done) | (simp [*]; done)), H', ⟨by first | omega | exact Nat.le_refl _⟩, ⟨by (with_reducible repeat (first | refine blk_drewN ?_ _ | refine blk_drew ?_ | refine blk_alloc ?_ _)); exact BK133.out⟩, ⟨by (with_reducible repeat (first | refine blk_drewN ?_ _ | refine blk_drew ?_ | refine blk_alloc ?_ _)); exact BK134.out⟩, ⟨by repeat (first | (with_reducible first | exact HB.out | apply below_alloc | apply pw_below_drewN | apply below_drew1 | refine below_set ?_ GE133.out | refine below_set ?_ GE134.out) | exact HB.out)⟩⟩
        · rw [if_neg c10] at H
          have c10b0 : decide (a2 < 0) = false := decide_eq_false c10
          clear c10
          have H' := Aside0.mk H
          clear H
          go_wp2
          go_meet
          case rel => exact ⟨_, (decide (a2 ≥ a3)), (by first | rfl | (simp; done) | (simp [*]; done)), H', ⟨by first | omega | exact Nat.le_refl _⟩, ⟨by (with_reducible repeat (first | refine blk_drewN ?_ _ | refine blk_drew ?_ | refine blk_alloc ?_ _)); exact BK133.out⟩, ⟨by (with_reducible repeat (first | refine blk_drewN ?_ _ | refine blk_drew ?_ | refine blk_alloc ?_ _)); exact BK134.out⟩, ⟨by repeat (first | (with_reducible first | exact HB.out | apply below_alloc | apply pw_below_drewN | apply below_drew1 | refine below_set ?_ GE133.out | refine below_set ?_ GE134.out) | exact HB.out)⟩⟩
  case rest =>
    clear HC5
    try clear c1
    try clear p2
    try clear c8
    try clear c8b0
    try clear c9
    try clear c9b0
    try clear c10
    try clear c10b0
    obtain ⟨kq, x9_4, rfl, HA, HJ4, BK133, BK134, HB⟩ := hcut
    cases kq with
    | zero => exact absurd HA.out (by simp [opers_Of.j0])
    | succ kj4 =>
      have H := HA.out
      clear HA
      simp only [opers_Of.j0] at H
      by_cases c11 : x9_4 = true
      · subst c11
        have H1 : (some (-1)) = some r := by rw [if_pos rfl] at H; exact H
        clear H
        have H := H1
        clear H1
        obtain rfl := Option.some.inj H
        go_wp2
        go_ret
        exact ⟨by first | rfl | (simp [errW_none, errW_some] <;> rfl) | (simp [*, errW_none, errW_some] <;> rfl), by repeat (first | (with_reducible first | exact HB.out | apply below_alloc | apply pw_below_drewN | apply below_drew1 | refine below_set ?_ GE133.out | refine below_set ?_ GE134.out) | exact HB.out)⟩
      · replace c11 := Bool.eq_false_iff.mpr c11
        subst c11
        have H1 : ((opers_Waits.f a0_0).bind fun t135 => (if t135 = true then ((opers_modulo.f a1_0 a3).bind fun t136 => (some t136)) else (some a2))) = some r := by rw [if_neg (show ¬ (false = true) by decide)] at H; exact H
        clear H
        have H := H1
        clear H1
        replace H := Option.bind_eq_some_iff.mp H
        obtain ⟨t135, A120, H⟩ := H
        replace H : (if t135 = true then ((opers_modulo.f a1_0 a3).bind fun t136 => (some t136)) else (some a2)) = some r := H
        have A12 := Aside0.mk A120
        clear A120
        by_cases c13 : t135 = true
        · subst c13
          have H1 : ((opers_modulo.f a1_0 a3).bind fun t136 => (some t136)) = some r := by rw [if_pos rfl] at H; exact H
          clear H
          have H := H1
          clear H1
          replace H := Option.bind_eq_some_iff.mp H
          obtain ⟨t136, A140, H⟩ := H
          replace H : (some t136) = some r := H
          have A14 := Aside0.mk A140
          clear A140
          obtain rfl := Option.some.inj H
          have hnb15 := NB133_134.out
          have hnc15 := NB134_133.out
          have hcz16_0 : wc.cell? ⟨gb133, 0, none⟩ = some (.int .u8 a0_0) := (blk_cell BK133.out 0).trans rfl
          have hcz16_1 : wc.cell? ⟨gb133, 1, none⟩ = some (.int .u8 a0_1) := (blk_cell BK133.out 1).trans rfl
          have hcz16_2 : wc.cell? ⟨gb133, 2, none⟩ = some (.int .i64 a0_2) := (blk_cell BK133.out 2).trans rfl
          have hcz16_3 : wc.cell? ⟨gb133, 3, none⟩ = some (.int .i64 a0_3) := (blk_cell BK133.out 3).trans rfl
          have hcz16_4 : wc.cell? ⟨gb133, 4, none⟩ = some (.slice A0_4 l0_4.length c0_4) := (blk_cell BK133.out 4).trans rfl
          have hfz16_0 := blk_frozen BK133.out 0
          have hfz16_1 := blk_frozen BK133.out 1
          have hfz16_2 := blk_frozen BK133.out 2
          have hfz16_3 := blk_frozen BK133.out 3
          have hfz16_4 := blk_frozen BK133.out 4
          go_wp2_with (first | ((with_reducible refine gate_callee (f := 15) rfl ?_); refine goesL_ (some 28) rfl rfl Try.func15 (by kernel_rfl) rfl #[.int .u8 a0_0] rfl (by (try simp only [List.map_toArray, List.map_cons, List.map_nil]); first | done | rfl | (simp only [List.length_drop, List.length_take]; rfl)) ?_; (with_reducible refine (opers_Waits.calls a0_0 true _ A12.out).mono ?_); rintro e w' ⟨rfl, ⟨nd, rfl⟩⟩; refine ⟨_, rfl, ?_⟩; have hcz17_0 : wc.cell? ⟨gb134, 0, none⟩ = some (.int .i64 a1_0) := (blk_cell BK134.out 0).trans rfl; have hcz17_1 : wc.cell? ⟨gb134, 1, none⟩ = some (.int .i64 a1_1) := (blk_cell BK134.out 1).trans rfl; have hfz17_0 := blk_frozen BK134.out 0; have hfz17_1 := blk_frozen BK134.out 1) | ((with_reducible refine gate_callee (f := 44) rfl ?_); refine goesL_ (some 32) rfl rfl Try.func44 (by kernel_rfl) rfl #[.int .i64 a1_0, .int .i64 a3] rfl (by (try simp only [List.map_toArray, List.map_cons, List.map_nil]); first | done | rfl | (simp only [List.length_drop, List.length_take]; rfl)) ?_; (with_reducible refine (opers_modulo.calls a1_0 a3 t136 _ A14.out).mono ?_); rintro e w' ⟨rfl, ⟨nd, rfl⟩⟩; refine ⟨_, rfl, ?_⟩))
          go_ret
          exact ⟨by first | rfl | (simp [errW_none, errW_some] <;> rfl) | (simp [*, errW_none, errW_some] <;> rfl), by repeat (first | (with_reducible first | exact HB.out | apply below_alloc | apply pw_below_drewN | apply below_drew1 | refine below_set ?_ GE133.out | refine below_set ?_ GE134.out) | exact HB.out)⟩
        · replace c13 := Bool.eq_false_iff.mpr c13
          subst c13
          have H1 : (some a2) = some r := by rw [if_neg (show ¬ (false = true) by decide)] at H; exact H
          clear H
          have H := H1
          clear H1
          obtain rfl := Option.some.inj H
          have hnb18 := NB133_134.out
          have hnc18 := NB134_133.out
          have hcz19_0 : wc.cell? ⟨gb133, 0, none⟩ = some (.int .u8 a0_0) := (blk_cell BK133.out 0).trans rfl
          have hcz19_1 : wc.cell? ⟨gb133, 1, none⟩ = some (.int .u8 a0_1) := (blk_cell BK133.out 1).trans rfl
          have hcz19_2 : wc.cell? ⟨gb133, 2, none⟩ = some (.int .i64 a0_2) := (blk_cell BK133.out 2).trans rfl
          have hcz19_3 : wc.cell? ⟨gb133, 3, none⟩ = some (.int .i64 a0_3) := (blk_cell BK133.out 3).trans rfl
          have hcz19_4 : wc.cell? ⟨gb133, 4, none⟩ = some (.slice A0_4 l0_4.length c0_4) := (blk_cell BK133.out 4).trans rfl
          have hfz19_0 := blk_frozen BK133.out 0
          have hfz19_1 := blk_frozen BK133.out 1
          have hfz19_2 := blk_frozen BK133.out 2
          have hfz19_3 := blk_frozen BK133.out 3
          have hfz19_4 := blk_frozen BK133.out 4
          go_wp2_with (first | ((with_reducible refine gate_callee (f := 15) rfl ?_); refine goesL_ (some 28) rfl rfl Try.func15 (by kernel_rfl) rfl #[.int .u8 a0_0] rfl (by (try simp only [List.map_toArray, List.map_cons, List.map_nil]); first | done | rfl | (simp only [List.length_drop, List.length_take]; rfl)) ?_; (with_reducible refine (opers_Waits.calls a0_0 false _ A12.out).mono ?_); rintro e w' ⟨rfl, ⟨nd, rfl⟩⟩; refine ⟨_, rfl, ?_⟩))
          go_ret
          exact ⟨by first | rfl | (simp [errW_none, errW_some] <;> rfl) | (simp [*, errW_none, errW_some] <;> rfl), by repeat (first | (with_reducible first | exact HB.out | apply below_alloc | apply pw_below_drewN | apply below_drew1 | refine below_set ?_ GE133.out | refine below_set ?_ GE134.out) | exact HB.out)⟩
def tailracelaw13_r.f (a0 : Int) (a1 : Int) : Option (Int × Int) := some (a0, a1)
set_option maxHeartbeats 8000000 in
set_option maxRecDepth 100000 in
theorem tailracelaw13_r.calls (a0 : Int) (a1 : Int) (r1 : Int) (r2 : Int) (w : World) (h : tailracelaw13_r.f a0 a1 = some (r1, r2)) :
    Calls Try.prog 24 #[.int .i64 a0, .int .i64 a1] w fun e w' => e = .returned (.agg #[.int .i64 r1, .int .i64 r2]) ∧ Below w.heap.size w w' := by
  have hu36 := Try.underlying36
  have HB := Aside0.mk (Below.refl w.heap.size w)
  have H : (some (a0, a1)) = some (r1, r2) := h
  clear h
  simp only [Option.some.injEq, Prod.mk.injEq] at H
  obtain ⟨rfl, rfl⟩ := H
  go_enter Try.func24, Try.ntmps24
  go_wp2_with (first | ((with_reducible refine gate_dst (N := 4) rfl ?_); refine box_event ?hg (N := 4) ?hd (cs := #[.int .i64 0, .int .i64 0]) (t := 36) ?hr ?_; (case hd => rfl); (case hg => rfl); (case hr => first | (go_simp; done) | (go_simp; rfl)); intro gb137 hg w3 hbox hb; have n0_ := Aside0.mk (below_step (by repeat (first | (with_reducible first | exact HB.out | apply below_alloc | apply pw_below_drewN | apply below_drew1) | exact HB.out)) hb); have n1_ := Aside0.mk (hbox); have n2_ := Aside0.mk ((by rw [hg]; exact (below_size (by repeat (first | (with_reducible first | exact HB.out | apply below_alloc | apply pw_below_drewN | apply below_drew1) | exact HB.out))) : w.heap.size ≤ gb137)); have n3_ := Aside0.mk ((by rw [hg]; exact (below_size (by repeat (first | (with_reducible first | exact HB.out | apply below_alloc | apply pw_below_drewN | apply below_drew1) | exact HB.out))) : w.heap.size ≤ gb137)); clear HB; have HB := n0_; have BK137 := n1_; have GW137 := n2_; have GE137 := n3_; clear n0_ n1_ n2_ n3_; clear hb hbox hg; have hcz4_0 : w3.cell? ⟨gb137, 0, none⟩ = some (.int .i64 0) := (blk_cell BK137.out 0).trans rfl; have hcz4_1 : w3.cell? ⟨gb137, 1, none⟩ = some (.int .i64 0) := (blk_cell BK137.out 1).trans rfl; have hfz4_0 := blk_frozen BK137.out 0; have hfz4_1 := blk_frozen BK137.out 1))
  refine bodyPost_ret (results_cell_row rfl _ _ gb137 36 #[.int .i64 a0, .int .i64 a1] (0, 0) _ rfl (by (with_reducible repeat (first | refine blk_drewN ?_ _ | refine blk_drew ?_ | refine blk_alloc ?_ _)); refine blk_put (cs := #[.int .i64 a0, .int .i64 0]) ?_ 1 _ rfl; (with_reducible repeat (first | refine blk_drewN ?_ _ | refine blk_drew ?_ | refine blk_alloc ?_ _)); refine blk_put (cs := #[.int .i64 0, .int .i64 0]) ?_ 0 _ rfl; (with_reducible repeat (first | refine blk_drewN ?_ _ | refine blk_drew ?_ | refine blk_alloc ?_ _)); exact BK137.out) Try.underlying36 rfl (by kernel_rfl)) rfl ?_
  exact ⟨by first | rfl | (simp [errW_none, errW_some] <;> rfl) | (simp [*, errW_none, errW_some] <;> rfl), by repeat (first | (with_reducible first | exact HB.out | apply below_alloc | apply pw_below_drewN | apply below_drew1 | refine below_set ?_ GE137.out) | exact HB.out)⟩
def tailraceref10_numbers.f (a0_0 : Int) (a0_1 : Int) (a0_2 : Int) (a0_3 : Int) (l0_4 : List Int) : Option (Bool) := if a0_0 = 2 then (if a0_1 ≤ 3 then (if a0_1 = 3 then (some (decide (a0_2 > 0))) else (some true)) else (some false)) else (if a0_0 = 3 then (if a0_1 ≤ 2 then (if a0_1 = 1 then (some (decide (a0_2 > 0))) else (some true)) else (some false)) else (if a0_0 = 5 then (if a0_1 ≤ 3 then (some (a0_2 == 0)) else (some false)) else (if a0_0 = 9 then (if a0_1 = 0 then (if a0_2 ≥ 1 then (some (decide (a0_2 ≤ 16))) else (some false)) else (some false)) else (if a0_0 ≥ 1 then (if a0_0 ≤ 10 then (if a0_1 = 0 then (some (a0_2 == 0)) else (some false)) else (some false)) else (some false)))))
mutual
def tailraceref10_ports.j0 : Nat → List (S24) → Int → Int → Int → Int → Int → List Int → Option (Bool)
  | 0, _, _, _, _, _, _, _ => none
  | k + 1, x0, x5, x148000, x148001, x148002, x148003, x148004 => tailraceref10_ports.l0 k x0 x5 0 x148000 x148001 x148002 x148003 x148004
def tailraceref10_ports.l0 : Nat → List (S24) → Int → Int → Int → Int → Int → Int → List Int → Option (Bool)
  | 0, _, _, _, _, _, _, _, _ => none
  | k + 1, x0, x5, x6, x148000, x148001, x148002, x148003, x148004 => if x6 < (x148004.length : Int) then (if 0 ≤ x6 then (if (rd x148004 x6) < 0 then (some false) else (if (rd x148004 x6) ≥ (x0.length : Int) then (some false) else (if 0 ≤ (rd x148004 x6) then (if (rd x148004 x6) < (x0.length : Int) then (if ((rd_T24 x0 (rd x148004 x6)).f0) = 10 then (some false) else (tailraceref10_ports.l0 k x0 x5 (wrap64 (x6 + 1)) x148000 x148001 x148002 x148003 x148004)) else (none)) else (none)))) else (none)) else (some ((x148004.length : Int) == x5))
end
def tailraceref10_ports.f (k : Nat) (l0 : List (S24)) (a1_0 : Int) (a1_1 : Int) (a1_2 : Int) (a1_3 : Int) (l1_4 : List Int) : Option (Bool) := if a1_0 = 1 then (tailraceref10_ports.j0 k l0 0 a1_0 a1_1 a1_2 a1_3 l1_4) else (if a1_0 = 4 then (tailraceref10_ports.j0 k l0 2 a1_0 a1_1 a1_2 a1_3 l1_4) else (if a1_0 = 6 then (tailraceref10_ports.j0 k l0 2 a1_0 a1_1 a1_2 a1_3 l1_4) else (tailraceref10_ports.j0 k l0 1 a1_0 a1_1 a1_2 a1_3 l1_4)))
end Go.Proofs.Ytcihpjkjodhdpaa.X
namespace Go.Proofs.Ytcihpjkjodhdpaa.X
set_option linter.unusedVariables false
set_option linter.unusedSimpArgs false
open Go.RowKit Go.Proofs.YtcihpjkjodhdpaaW.PrintWords Go.Proofs.YtcihpjkjodhdpaaW.PrintLast Go.Proofs.YtcihpjkjodhdpaaW.PrintMore
theorem flat_encR_at (l : List S36) (j i : Nat) (p : S36) (u : Value) (hj : l[j]? = some p) (hu : (encR p)[i]? = some u) : (l.flatMap encR)[j * 2 + i]? = some u := by
  have hlt : j < l.length := (List.getElem?_eq_some_iff.1 hj).1
  have hi : i < 2 := by
    have := (List.getElem?_eq_some_iff.1 hu).1
    simpa [encR] using this
  rw [flat_encR_get l _ (by omega)]
  have e1 : (j * 2 + i) / 2 = j := by omega
  have e2 : (j * 2 + i) % 2 = i := by omega
  rw [e1, e2, List.getD_eq_getElem?_getD, hj]
  exact hu
theorem reads_row (W : World) (l : List S36) (hl : l.length ≤ 9223372036854775807) :
    Kd.C k36 (W.alloc (.cells (l.flatMap encR).toArray 36)) (some ⟨W.heap.size, 0, none⟩) l.length l := by
  refine ⟨rfl, hl, fun _ => ⟨_, rfl, fun j p hj => ⟨encR p, rfl, k36_mk _ p, fun i u hu => ?_⟩⟩⟩
  rw [add_plain]
  have h := flat_encR_at l j i p u hj hu
  show (W.alloc (.cells (l.flatMap encR).toArray 36)).cell? ⟨W.heap.size, j * 2 + i, none⟩ = some u
  simp [go_sem, h]
theorem reads_rows2 (W : World) (A B : Option Addr) (c d : Nat) (l m : List S36) (hl : Kd.C k36 W A l.length l) (hc : l.length ≤ c) (hm : Kd.C k36 W B m.length m) (hd : m.length ≤ d) :
    Kd.C (Kd.slice 36 k36) (W.alloc (.cells #[.slice A l.length c, .slice B m.length d] 28)) (some ⟨W.heap.size, 0, none⟩) ([l, m] : List (List S36)).length [l, m] := by
  refine ⟨rfl, by simp, fun _ => ⟨_, rfl, fun j p hj => ?_⟩⟩
  match j, hj with
  | 0, hj =>
    simp at hj; subst hj
    refine ⟨[.slice A l.length c], rfl, ⟨A, c, rfl, hc, Kd.C_alloc hl _⟩, fun i u hu => ?_⟩
    match i, hu with
    | 0, hu =>
      simp at hu; subst hu
      rw [add_plain]
      simp [Kd.slice, go_sem]
    | i + 1, hu => simp at hu
  | 1, hj =>
    simp at hj; subst hj
    refine ⟨[.slice B m.length d], rfl, ⟨B, d, rfl, hd, Kd.C_alloc hm _⟩, fun i u hu => ?_⟩
    match i, hu with
    | 0, hu =>
      simp at hu; subst hu
      rw [add_plain]
      simp [Kd.slice, go_sem]
    | i + 1, hu => simp at hu
  | j + 2, hj => simp at hj
theorem size_al (W : World) (o : Obj) : (W.alloc o).heap.size = W.heap.size + 1 := by simp [go_sem]
def TK (w : World) (L : List (Option Addr × List S36)) (M : List (Addr × Value)) (W : World) : Prop :=
  Below w.heap.size w W ∧ (∀ x ∈ L, Kd.C k36 W x.1 x.2.length x.2) ∧ ∀ y ∈ M, W.cell? y.1 = some y.2
section
variable {w W W' : World} {L : List (Option Addr × List S36)} {M : List (Addr × Value)}
theorem TK.step (h : TK w L M W) (hb : Below W.heap.size W W') : TK w L M W' :=
  ⟨below_step h.1 hb, fun x hx => Kd.C_below (h.2.1 x hx) hb, fun y hy => pw_cell_below hb (h.2.2 y hy)⟩
theorem TK.alloc (h : TK w L M W) (o : Obj) : TK w L M (W.alloc o) := h.step (below_alloc (Below.refl W.heap.size W) o)
theorem TK.addL {A : Option Addr} {l : List S36} (h : TK w L M W) (hr : Kd.C k36 W A l.length l) : TK w ((A, l) :: L) M W :=
  ⟨h.1, fun x hx => by rcases List.mem_cons.1 hx with rfl | hx; exact hr; exact h.2.1 x hx, h.2.2⟩
theorem TK.addM {a : Addr} {v : Value} (h : TK w L M W) (hr : W.cell? a = some v) : TK w L ((a, v) :: M) W :=
  ⟨h.1, h.2.1, fun x hx => by rcases List.mem_cons.1 hx with rfl | hx; exact hr; exact h.2.2 x hx⟩
end
theorem srt_one (x : S36) : srt [x] = [x] := (srt_unique (by simp) (List.Perm.refl _)).symm
theorem srt_two (x y : S36) (h : (!(ltOf cmpR) y x) = true) : srt [x, y] = [x, y] := (srt_unique (by simpa using h) (List.Perm.refl _)).symm
theorem wf_run1 : opers_Run.f 2 3 4 0 [] [[⟨9, -3⟩]] = some ([⟨1, -3⟩], 0) := by
  have h : opers_Run.f 2 3 4 0 [] [[⟨9, -3⟩]] = some (srt [⟨1, -3⟩], 0) := by kernel_rfl
  rw [h, srt_one]
theorem wf_run2 : opers_Run.f 5 0 0 0 [] [[⟨1, 2⟩, ⟨2, 7⟩, ⟨1, 3⟩]] = some ([⟨1, 5⟩, ⟨2, 7⟩], 0) := by
  have h : opers_Run.f 5 0 0 0 [] [[⟨1, 2⟩, ⟨2, 7⟩, ⟨1, 3⟩]] = some (srt [⟨1, 5⟩, ⟨2, 7⟩], 0) := by kernel_rfl
  rw [h, srt_two _ _ (by rw [ltOf_cmpR]; decide)]
theorem wf_run3 : opers_Run.f 6 0 0 0 [] [[⟨1, 2⟩, ⟨1, 3⟩, ⟨2, 9⟩], [⟨1, 10⟩]] = some ([⟨1, 12⟩, ⟨1, 13⟩], 0) := by
  have h : opers_Run.f 6 0 0 0 [] [[⟨1, 2⟩, ⟨1, 3⟩, ⟨2, 9⟩], [⟨1, 10⟩]] = some (srt [⟨1, 12⟩, ⟨1, 13⟩], 0) := by kernel_rfl
  rw [h, srt_two _ _ (by rw [ltOf_cmpR]; decide)]
theorem wf_time1 : timeC 9 2 ⟨1, 4, 0, 0, 0⟩ = (⟨1, 4, 1, 0, 0⟩, true) := by kernel_rfl
theorem wf_time2 : timeC 9 2 ⟨1, 4, 1, 0, 0⟩ = (St.zero, false) := by kernel_rfl
theorem wf_of1 : opers_Of.f 3 5 0 0 0 [] (-3) 0 1 4 = some 1 := by kernel_rfl
theorem wf_of2 : opers_Of.f 3 2 0 0 0 [] (-3) 0 1 4 = some 1 := by kernel_rfl
theorem wf_al1 : tailraceref12_Alike.f 5 [⟨1, -3⟩] [⟨1, -3⟩] = some true := by kernel_rfl
theorem wf_al2 : tailraceref12_Alike.f 5 [⟨1, 5⟩, ⟨2, 7⟩] [⟨1, 5⟩, ⟨2, 7⟩] = some true := by kernel_rfl
theorem wf_al3 : tailraceref12_Alike.f 5 [⟨1, 12⟩, ⟨1, 13⟩] [⟨1, 12⟩, ⟨1, 13⟩] = some true := by kernel_rfl
theorem nil_ints (W : World) : Kd.C (Kd.int .i64) W none ([] : List Int).length [] := Kd.C_nil _ _
theorem run1_calls (W : World) :
    Calls Try.prog 12 #[.agg #[.int .u8 2, .int .u8 3, .int .i64 4, .int .i64 0, .slice none 0 0], .slice (some ⟨W.heap.size + 1, 0, none⟩) 1 1] ((W.alloc (.cells #[.int .i64 9, .int .i64 (-3)] 36)).alloc (.cells #[.slice (some ⟨W.heap.size, 0, none⟩) 1 1] 28))
      fun e w' => ∃ A c, e = .returned (.tuple #[.slice A 1 c, .int .i64 0]) ∧ 1 ≤ c ∧ Kd.C k36 w' A ([⟨1, -3⟩] : List S36).length [⟨1, -3⟩] ∧ Below ((W.alloc (.cells #[.int .i64 9, .int .i64 (-3)] 36)).alloc (.cells #[.slice (some ⟨W.heap.size, 0, none⟩) 1 1] 28)).heap.size ((W.alloc (.cells #[.int .i64 9, .int .i64 (-3)] 36)).alloc (.cells #[.slice (some ⟨W.heap.size, 0, none⟩) 1 1] 28)) w' := by
  have h1 := reads_row W [⟨9, -3⟩] (by simp)
  have h2 := reads_one _ _ 1 1 _ rfl h1 (Nat.le_refl _)
  rw [size_al] at h2
  refine (opers_Run.calls 2 3 4 0 none 0 [] _ 1 _ _ _ _ (nil_ints _) (Nat.le_refl _) h2 (Nat.le_refl _) wf_run1).mono fun e w' ⟨v, he, hr, hb⟩ => ?_
  obtain ⟨A, c, rfl, hc, hr⟩ := Kd.R_reads hr
  exact ⟨A, c, he, hc, hr, hb⟩
theorem run2_calls (W : World) :
    Calls Try.prog 12 #[.agg #[.int .u8 5, .int .u8 0, .int .i64 0, .int .i64 0, .slice none 0 0], .slice (some ⟨W.heap.size + 1, 0, none⟩) 1 1] ((W.alloc (.cells #[.int .i64 1, .int .i64 2, .int .i64 2, .int .i64 7, .int .i64 1, .int .i64 3] 36)).alloc (.cells #[.slice (some ⟨W.heap.size, 0, none⟩) 3 3] 28))
      fun e w' => ∃ A c, e = .returned (.tuple #[.slice A 2 c, .int .i64 0]) ∧ 2 ≤ c ∧ Kd.C k36 w' A ([⟨1, 5⟩, ⟨2, 7⟩] : List S36).length [⟨1, 5⟩, ⟨2, 7⟩] ∧ Below ((W.alloc (.cells #[.int .i64 1, .int .i64 2, .int .i64 2, .int .i64 7, .int .i64 1, .int .i64 3] 36)).alloc (.cells #[.slice (some ⟨W.heap.size, 0, none⟩) 3 3] 28)).heap.size ((W.alloc (.cells #[.int .i64 1, .int .i64 2, .int .i64 2, .int .i64 7, .int .i64 1, .int .i64 3] 36)).alloc (.cells #[.slice (some ⟨W.heap.size, 0, none⟩) 3 3] 28)) w' := by
  have h1 := reads_row W [⟨1, 2⟩, ⟨2, 7⟩, ⟨1, 3⟩] (by simp)
  have h2 := reads_one _ _ 3 3 _ rfl h1 (Nat.le_refl _)
  rw [size_al] at h2
  refine (opers_Run.calls 5 0 0 0 none 0 [] _ 1 _ _ _ _ (nil_ints _) (Nat.le_refl _) h2 (Nat.le_refl _) wf_run2).mono fun e w' ⟨v, he, hr, hb⟩ => ?_
  obtain ⟨A, c, rfl, hc, hr⟩ := Kd.R_reads hr
  exact ⟨A, c, he, hc, hr, hb⟩
theorem run3_calls (W : World) (A : Option Addr) (h1 : Kd.C k36 W A ([⟨1, 2⟩, ⟨1, 3⟩, ⟨2, 9⟩] : List S36).length [⟨1, 2⟩, ⟨1, 3⟩, ⟨2, 9⟩]) :
    Calls Try.prog 12 #[.agg #[.int .u8 6, .int .u8 0, .int .i64 0, .int .i64 0, .slice none 0 0], .slice (some ⟨W.heap.size + 1, 0, none⟩) 2 2] ((W.alloc (.cells #[.int .i64 1, .int .i64 10] 36)).alloc (.cells #[.slice A 3 3, .slice (some ⟨W.heap.size, 0, none⟩) 1 1] 28))
      fun e w' => ∃ A' c, e = .returned (.tuple #[.slice A' 2 c, .int .i64 0]) ∧ 2 ≤ c ∧ Kd.C k36 w' A' ([⟨1, 12⟩, ⟨1, 13⟩] : List S36).length [⟨1, 12⟩, ⟨1, 13⟩] ∧ Below ((W.alloc (.cells #[.int .i64 1, .int .i64 10] 36)).alloc (.cells #[.slice A 3 3, .slice (some ⟨W.heap.size, 0, none⟩) 1 1] 28)).heap.size ((W.alloc (.cells #[.int .i64 1, .int .i64 10] 36)).alloc (.cells #[.slice A 3 3, .slice (some ⟨W.heap.size, 0, none⟩) 1 1] 28)) w' := by
  have h3 := reads_row W [⟨1, 10⟩] (by simp)
  have h2 := reads_rows2 _ _ _ 3 1 _ _ (Kd.C_alloc h1 (.cells (([⟨1, 10⟩] : List S36).flatMap encR).toArray 36)) (Nat.le_refl _) h3 (Nat.le_refl _)
  rw [size_al] at h2
  refine (opers_Run.calls 6 0 0 0 none 0 [] _ 2 _ _ _ _ (nil_ints _) (Nat.le_refl _) h2 (Nat.le_refl _) wf_run3).mono fun e w' ⟨v, he, hr, hb⟩ => ?_
  obtain ⟨A', c, rfl, hc, hr⟩ := Kd.R_reads hr
  exact ⟨A', c, he, hc, hr, hb⟩
theorem time1_calls (W : World) : Calls Try.prog 17 #[.agg #[.int .u8 9, .int .u8 0, .int .i64 2, .int .i64 0, .slice none 0 0], .agg #[.int .i64 1, .int .i64 4, .int .i64 0, .int .i64 0, .int .i64 0]] W fun e w' => e = .returned (.tuple #[.agg #[.int .i64 1, .int .i64 4, .int .i64 1, .int .i64 0, .int .i64 0], .bool true]) ∧ Below W.heap.size W w' := by
  have h := opers_Time_calls 9 0 2 0 none 0 0 ⟨1, 4, 0, 0, 0⟩ W
  rw [wf_time1] at h
  exact h
theorem time2_calls (W : World) : Calls Try.prog 17 #[.agg #[.int .u8 9, .int .u8 0, .int .i64 2, .int .i64 0, .slice none 0 0], .agg #[.int .i64 1, .int .i64 4, .int .i64 1, .int .i64 0, .int .i64 0]] W fun e w' => e = .returned (.tuple #[.agg #[.int .i64 0, .int .i64 0, .int .i64 0, .int .i64 0, .int .i64 0], .bool false]) ∧ Below W.heap.size W w' := by
  have h := opers_Time_calls 9 0 2 0 none 0 0 ⟨1, 4, 1, 0, 0⟩ W
  rw [wf_time2] at h
  exact h
class IsBelow (w w' : World) (p : Prop) : Prop where out : p → Below w.heap.size w w'
instance (w w' : World) : IsBelow w w' (Below w.heap.size w w') := ⟨id⟩
instance (w w' : World) : IsBelow w w' (Drawn0 w w') := ⟨Drawn0.below⟩
theorem AL {w w' : World} {p : Prop} [h : IsBelow w w' p] (hp : p) : Below w.heap.size w w' := h.out hp
theorem r_calls (a0 a1 : Int) (W : World) : Calls Try.prog 24 #[.int .i64 a0, .int .i64 a1] W fun e w' => e = .returned (.agg #[.int .i64 a0, .int .i64 a1]) ∧ Below W.heap.size W w' := tailracelaw13_r.calls a0 a1 a0 a1 W rfl
theorem TK.get {w W : World} {L : List (Option Addr × List S36)} {M : List (Addr × Value)} {A : Option Addr} {l : List S36} (h : TK w L M W) (hx : (A, l) ∈ L) : Kd.C k36 W A l.length l := h.2.1 _ hx
theorem TK.cell {w W : World} {L : List (Option Addr × List S36)} {M : List (Addr × Value)} {a : Addr} {v : Value} (h : TK w L ((a, v) :: M) W) : W.cell? a = some v := h.2.2 (a, v) (List.mem_cons_self ..)
theorem TK.bel {w W : World} {L : List (Option Addr × List S36)} {M : List (Addr × Value)} (h : TK w L M W) : Below w.heap.size w W := h.1
theorem alike1_calls (W : World) (A : Option Addr) (c : Nat) (hc : 1 ≤ c) (h : Kd.C k36 W A ([⟨1, -3⟩] : List S36).length [⟨1, -3⟩]) :
    Calls Try.prog 14 #[.slice A 1 c, .slice (some ⟨W.heap.size, 0, none⟩) 1 1] (W.alloc (.cells #[.int .i64 1, .int .i64 (-3)] 36)) fun e w' => e = .returned (.bool true) ∧ Below W.heap.size W w' :=
  (tailraceref12_Alike.calls 5 _ _ [⟨1, -3⟩] _ _ [⟨1, -3⟩] true _ (Kd.C_alloc h (.cells (([⟨1, -3⟩] : List S36).flatMap encR).toArray 36)) hc (reads_row _ [⟨1, -3⟩] (by simp)) (Nat.le_refl _) wf_al1).mono fun e w' ⟨he, hb⟩ => ⟨he, below_step (below_alloc (Below.refl _ _) _) hb.below⟩
theorem alike2_calls (W : World) (A : Option Addr) (c : Nat) (hc : 2 ≤ c) (h : Kd.C k36 W A ([⟨1, 5⟩, ⟨2, 7⟩] : List S36).length [⟨1, 5⟩, ⟨2, 7⟩]) :
    Calls Try.prog 14 #[.slice A 2 c, .slice (some ⟨W.heap.size, 0, none⟩) 2 2] (W.alloc (.cells #[.int .i64 1, .int .i64 5, .int .i64 2, .int .i64 7] 36)) fun e w' => e = .returned (.bool true) ∧ Below W.heap.size W w' :=
  (tailraceref12_Alike.calls 5 _ _ [⟨1, 5⟩, ⟨2, 7⟩] _ _ [⟨1, 5⟩, ⟨2, 7⟩] true _ (Kd.C_alloc h (.cells (([⟨1, 5⟩, ⟨2, 7⟩] : List S36).flatMap encR).toArray 36)) hc (reads_row _ [⟨1, 5⟩, ⟨2, 7⟩] (by simp)) (Nat.le_refl _) wf_al2).mono fun e w' ⟨he, hb⟩ => ⟨he, below_step (below_alloc (Below.refl _ _) _) hb.below⟩
theorem alike3_calls (W : World) (A : Option Addr) (c : Nat) (hc : 2 ≤ c) (h : Kd.C k36 W A ([⟨1, 12⟩, ⟨1, 13⟩] : List S36).length [⟨1, 12⟩, ⟨1, 13⟩]) :
    Calls Try.prog 14 #[.slice A 2 c, .slice (some ⟨W.heap.size, 0, none⟩) 2 2] (W.alloc (.cells #[.int .i64 1, .int .i64 12, .int .i64 1, .int .i64 13] 36)) fun e w' => e = .returned (.bool true) ∧ Below W.heap.size W w' :=
  (tailraceref12_Alike.calls 5 _ _ [⟨1, 12⟩, ⟨1, 13⟩] _ _ [⟨1, 12⟩, ⟨1, 13⟩] true _ (Kd.C_alloc h (.cells (([⟨1, 12⟩, ⟨1, 13⟩] : List S36).flatMap encR).toArray 36)) hc (reads_row _ [⟨1, 12⟩, ⟨1, 13⟩] (by simp)) (Nat.le_refl _) wf_al3).mono fun e w' ⟨he, hb⟩ => ⟨he, below_step (below_alloc (Below.refl _ _) _) hb.below⟩
theorem of1_calls (W : World) : Calls Try.prog 19 #[.agg #[.int .u8 5, .int .u8 0, .int .i64 0, .int .i64 0, .slice none 0 0], .agg #[.int .i64 (-3), .int .i64 0], .int .i64 1, .int .i64 4] W fun e w' => e = .returned (.int .i64 1) ∧ Below W.heap.size W w' :=
  (opers_Of.calls 3 5 0 0 0 none 0 [] (-3) 0 1 4 1 _ (nil_ints _) (Nat.le_refl _) wf_of1).mono fun e w' ⟨he, hb⟩ => ⟨he, AL hb⟩
theorem of2_calls (W : World) : Calls Try.prog 19 #[.agg #[.int .u8 2, .int .u8 0, .int .i64 0, .int .i64 0, .slice none 0 0], .agg #[.int .i64 (-3), .int .i64 0], .int .i64 1, .int .i64 4] W fun e w' => e = .returned (.int .i64 1) ∧ Below W.heap.size W w' :=
  (opers_Of.calls 3 2 0 0 0 none 0 [] (-3) 0 1 4 1 _ (nil_ints _) (Nat.le_refl _) wf_of2).mono fun e w' ⟨he, hb⟩ => ⟨he, AL hb⟩
theorem waits1_calls (W : World) : Calls Try.prog 15 #[.int .u8 6] W fun e w' => e = .returned (.bool true) ∧ Below W.heap.size W w' := (opers_Waits.calls 6 true _ rfl).mono fun e w' ⟨he, hb⟩ => ⟨he, AL hb⟩
theorem waits2_calls (W : World) : Calls Try.prog 15 #[.int .u8 4] W fun e w' => e = .returned (.bool false) ∧ Below W.heap.size W w' := (opers_Waits.calls 4 false _ rfl).mono fun e w' ⟨he, hb⟩ => ⟨he, AL hb⟩
theorem cell_t7 (W : World) : (W.alloc (.cells #[.int .i64 1, .int .i64 4, .int .i64 1, .int .i64 0, .int .i64 0] 40)).cell? ⟨W.heap.size, 2, none⟩ = some (.int .i64 1) := by simp [go_sem]
end Go.Proofs.Ytcihpjkjodhdpaa.X
namespace Go.Proofs.Ytcihpjkjodhdpaa.X
set_option linter.unusedVariables false
set_option linter.unusedSimpArgs false
open Go.RowKit Go.Proofs.YtcihpjkjodhdpaaW.PrintWords Go.Proofs.YtcihpjkjodhdpaaW.PrintLast Go.Proofs.YtcihpjkjodhdpaaW.PrintMore
def tailracelaw13_works.f : Option Bool := some true
set_option maxHeartbeats 16000000 in
set_option maxRecDepth 100000 in
theorem tailracelaw13_works.calls (r : Bool) (w : World) (h : tailracelaw13_works.f = some r) :
    Calls Try.prog 11 #[] w fun e w' => e = .returned (.bool r) ∧ Below w.heap.size w w' := by
  obtain rfl : true = r := Option.some.inj h
  have HS := Aside0.mk (show TK w [] [] w from ⟨Below.refl _ _, fun x hx => by simp at hx, fun x hx => by simp at hx⟩)
  go_enter Try.func11, Try.ntmps11
  go_wp2_with (first
    | (go_at_call 24; (with_reducible refine (r_calls 1 10 _).mono ?_); rintro e w4 ⟨rfl, hb⟩; replace HS := Aside0.mk (TK.step (TK.addL (TK.alloc HS.out _) (reads_row _ [⟨1, 2⟩, ⟨1, 3⟩, ⟨2, 9⟩] (by simp))) hb); clear hb)
    | (go_at_call 24; (with_reducible refine (r_calls _ _ _).mono ?_); rintro e w1 ⟨rfl, hb⟩; replace HS := Aside0.mk (TK.step (by first | exact HS.out | exact TK.alloc HS.out _) hb); clear hb)
    | (go_at_call 12; (with_reducible refine (run1_calls _).mono ?_); rintro e wr1 ⟨A1, c1, rfl, hc, hr, hb⟩; replace HS := Aside0.mk (TK.addL (TK.step (TK.alloc (TK.alloc HS.out _) _) hb) hr); have HC1 := Aside0.mk hc; clear hr hc; clear hb)
    | (go_at_call 12; (with_reducible refine (run2_calls _).mono ?_); rintro e wr3 ⟨A3, c3, rfl, hc, hr, hb⟩; replace HS := Aside0.mk (TK.addL (TK.step (TK.alloc (TK.alloc HS.out _) _) hb) hr); have HC3 := Aside0.mk hc; clear hr hc; clear hb)
    | (go_at_call 12; (with_reducible refine (run3_calls _ _ (TK.get HS.out (List.mem_cons_self ..))).mono ?_); rintro e wr5 ⟨A5, c5, rfl, hc, hr, hb⟩; replace HS := Aside0.mk (TK.addL (TK.step (TK.alloc (TK.alloc HS.out _) _) hb) hr); have HC5 := Aside0.mk hc; clear hr hc; clear hb)
    | (go_at_call 17; (with_reducible refine (time1_calls _).mono ?_); rintro e wt1 ⟨rfl, hb⟩; replace HS := Aside0.mk (TK.step HS.out hb); clear hb)
    | (go_at_call 17; (with_reducible refine (time2_calls _).mono ?_); rintro e wt2 ⟨rfl, hb⟩; replace HS := Aside0.mk (TK.step (TK.addM (TK.alloc HS.out _) (cell_t7 _)) hb); clear hb)
    | (go_at_call 14; (with_reducible refine (alike1_calls _ _ _ HC1.out (TK.get HS.out (by simp))).mono ?_); rintro e wa1 ⟨rfl, hb⟩; replace HS := Aside0.mk (TK.step HS.out hb); clear hb)
    | (go_at_call 14; (with_reducible refine (alike2_calls _ _ _ HC3.out (TK.get HS.out (by simp))).mono ?_); rintro e wa2 ⟨rfl, hb⟩; replace HS := Aside0.mk (TK.step HS.out hb); clear hb)
    | (go_at_call 14; (with_reducible refine (alike3_calls _ _ _ HC5.out (TK.get HS.out (by simp))).mono ?_); rintro e wa3 ⟨rfl, hb⟩; replace HS := Aside0.mk (TK.step HS.out hb); clear hb)
    | (go_at_call 19; (with_reducible refine (of1_calls _).mono ?_); rintro e wo1 ⟨rfl, hb⟩; replace HS := Aside0.mk (TK.step HS.out hb); clear hb)
    | (go_at_call 19; (with_reducible refine (of2_calls _).mono ?_); rintro e wo2 ⟨rfl, hb⟩; replace HS := Aside0.mk (TK.step HS.out hb); have pd := TK.cell HS.out; clear hb)
    | (go_at_call 15; (with_reducible refine (waits1_calls _).mono ?_); rintro e wv1 ⟨rfl, hb⟩; replace HS := Aside0.mk (TK.step HS.out hb); clear hb)
    | (go_at_call 15; (with_reducible refine (waits2_calls _).mono ?_); rintro e wv2 ⟨rfl, hb⟩; replace HS := Aside0.mk (TK.step HS.out hb); clear hb))
  go_ret
  exact ⟨rfl, TK.bel HS.out⟩
end Go.Proofs.Ytcihpjkjodhdpaa.X
namespace Go.Proofs.Ytcihpjkjodhdpaa.X
set_option linter.unusedVariables false
set_option linter.unusedSimpArgs false
open Go.RowKit Go.Proofs.YtcihpjkjodhdpaaW.PrintWords Go.Proofs.YtcihpjkjodhdpaaW.PrintLast Go.Proofs.YtcihpjkjodhdpaaW.PrintMore
def opers_Run1.f (a0 a1 a2 a3 : Int) (l : List Int) (l1 : List S36) : Option (List S36 × Int) := opers_Run.f a0 a1 a2 a3 l [l1]
def opers_Run2.f (a0 a1 a2 a3 : Int) (l : List Int) (l1 l2 : List S36) : Option (List S36 × Int) := opers_Run.f a0 a1 a2 a3 l [l1, l2]
theorem opers_Run2.calls {g_ : Nat} (a0_0 a0_1 a0_2 a0_3 : Int) (A0_4 : Option Addr) (c0_4 : Nat) (l0_4 : List Int) (A1 : Option Addr) (c1 : Nat) (l1 : List S36) (A2 : Option Addr) (c2 : Nat) (l2 : List S36) (r1 : List S36) (r2 : Int) (w : World) (hr0_4 : Kd.C (Kd.int .i64) w A0_4 l0_4.length l0_4) (hc0_4 : l0_4.length ≤ c0_4) (hr1 : Kd.C k36 w A1 l1.length l1) (hc1 : l1.length ≤ c1) (hr2 : Kd.C k36 w A2 l2.length l2) (hc2 : l2.length ≤ c2) (h : opers_Run2.f a0_0 a0_1 a0_2 a0_3 l0_4 l1 l2 = some (r1, r2)) (hg_ : g_ = w.heap.size := by first | rfl | (go_simp; done) | (simp [go_sem]; done)) :
    Calls Try.prog 12 #[.agg #[.int .u8 a0_0, .int .u8 a0_1, .int .i64 a0_2, .int .i64 a0_3, .slice A0_4 l0_4.length c0_4], .slice (some ⟨g_, 0, none⟩) 2 2] (w.alloc (.cells #[.slice A1 l1.length c1, .slice A2 l2.length c2] 28)) fun e w' => ∃ v0_ : Value, e = .returned (.tuple #[v0_, .int .i64 r2]) ∧ Kd.R k36 36 w' w.heap.size (fun _ => True) v0_ r1 ∧ Below w.heap.size w w' := by
  subst hg_
  have h2 := reads_rows2 w A1 A2 c1 c2 l1 l2 hr1 hc1 hr2 hc2
  refine (opers_Run.calls a0_0 a0_1 a0_2 a0_3 A0_4 c0_4 l0_4 _ 2 [l1, l2] r1 r2 _ (Kd.C_alloc hr0_4 _) hc0_4 h2 (Nat.le_refl _) h).mono fun e w' ⟨v, he, hr, hb⟩ => ?_
  exact ⟨v, he, Kd.R_lower hr (by rw [size_al]; omega), below_step (below_alloc (Below.refl _ _) _) hb⟩
def value_Add2.f (l1 l2 : List S36) : Option (List S36) := value_Add.f [l1, l2]
theorem value_Add2.calls {g_ : Nat} (A1 : Option Addr) (c1 : Nat) (l1 : List S36) (A2 : Option Addr) (c2 : Nat) (l2 : List S36) (r : List S36) (w : World) (hr1 : Kd.C k36 w A1 l1.length l1) (hc1 : l1.length ≤ c1) (hr2 : Kd.C k36 w A2 l2.length l2) (hc2 : l2.length ≤ c2) (h : value_Add2.f l1 l2 = some r) (hg_ : g_ = w.heap.size := by first | rfl | (go_simp; done) | (simp [go_sem]; done)) :
    Calls Try.prog 21 #[.slice (some ⟨g_, 0, none⟩) 2 2] (w.alloc (.cells #[.slice A1 l1.length c1, .slice A2 l2.length c2] 28)) fun e w' => ∃ v0_ : Value, e = .returned v0_ ∧ Kd.R k36 36 w' w.heap.size (fun _ => True) v0_ r ∧ Below w.heap.size w w' := by
  subst hg_
  have h2 := reads_rows2 w A1 A2 c1 c2 l1 l2 hr1 hc1 hr2 hc2
  refine (value_Add.calls _ 2 [l1, l2] r _ h2 (Nat.le_refl _) h).mono fun e w' ⟨v, he, hr, hb⟩ => ?_
  exact ⟨v, he, Kd.R_lower hr (by rw [size_al]; omega), below_step (below_alloc (Below.refl _ _) _) hb⟩
end Go.Proofs.Ytcihpjkjodhdpaa.X
namespace Go.Proofs.Ytcihpjkjodhdpaa.X
set_option linter.unusedVariables false
set_option linter.unusedSimpArgs false
open Go.RowKit Go.Proofs.YtcihpjkjodhdpaaW.PrintWords Go.Proofs.YtcihpjkjodhdpaaW.PrintLast Go.Proofs.YtcihpjkjodhdpaaW.PrintMore
theorem flatMap_app_perm {α β : Type} (f h : α → List β) : ∀ l : List α, (l.flatMap fun y => f y ++ h y).Perm (l.flatMap f ++ l.flatMap h)
  | [] => by simp
  | y :: t => by
    simp only [List.flatMap_cons]
    refine ((flatMap_app_perm f h t).append_left (f y ++ h y)).trans ?_
    rw [List.append_assoc, List.append_assoc]
    refine List.Perm.append_left _ ?_
    rw [← List.append_assoc, ← List.append_assoc]
    exact List.perm_append_comm.append_right _
theorem flatMap_swap {α β γ : Type} (g : α → β → List γ) (b : List β) : ∀ a : List α, (a.flatMap fun x => b.flatMap fun y => g x y).Perm (b.flatMap fun y => a.flatMap fun x => g x y)
  | [] => by
    have : (b.flatMap fun y => ([] : List α).flatMap fun x => g x y) = [] := by simp
    rw [this]; simp
  | x :: r => by
    simp only [List.flatMap_cons]
    exact ((flatMap_swap g b r).append_left _).trans (flatMap_app_perm _ _ b).symm
theorem grp_flat (r : S36) : ∀ b : List S36, (grp b r.f0).map (fun v => (⟨r.f0, wrap64 (r.f1 + v)⟩ : S36)) = b.flatMap fun s => if s.f0 = r.f0 then [⟨r.f0, wrap64 (r.f1 + s.f1)⟩] else []
  | [] => by simp [grp]
  | s :: t => by
    have ih := grp_flat r t
    unfold grp at *
    rw [List.filter_cons, List.flatMap_cons, ← ih]
    by_cases e : s.f0 = r.f0
    · rw [if_pos (by simpa using e), if_pos e]; simp
    · rw [if_neg (by simpa using e), if_neg e]; simp
theorem joinL_comm (a b : List S36) : (joinL a b).Perm (joinL b a) := by
  have e1 : joinL a b = a.flatMap fun r => b.flatMap fun s => if s.f0 = r.f0 then [⟨r.f0, wrap64 (r.f1 + s.f1)⟩] else [] := by
    unfold joinL; congr 1; funext r; exact grp_flat r b
  have e2 : joinL b a = b.flatMap fun s => a.flatMap fun r => if s.f0 = r.f0 then [⟨r.f0, wrap64 (r.f1 + s.f1)⟩] else [] := by
    unfold joinL; congr 1; funext s
    rw [grp_flat s a]; congr 1; funext r
    by_cases e : s.f0 = r.f0
    · rw [if_pos e.symm, if_pos e, e, Int.add_comm]
    · rw [if_neg (fun h => e h.symm), if_neg e]
  rw [e1, e2]
  exact flatMap_swap _ b a
theorem joinL_cut (a b : List S36) (k : Nat) : joinL a b = joinL (a.take k) b ++ joinL (a.drop k) b := by
  unfold joinL
  rw [← List.flatMap_append, List.take_append_drop]
theorem joinL_nil (a : List S36) : joinL a [] = [] := by
  unfold joinL grp; simp
theorem joinL_keys {a b : List S36} {x : S36} (h : x ∈ joinL a b) : x.f0 ∈ a.map S36.f0 ∧ x.f0 ∈ b.map S36.f0 := by
  unfold joinL at h
  obtain ⟨r, hr, h⟩ := List.mem_flatMap.1 h
  obtain ⟨v, hv, rfl⟩ := List.mem_map.1 h
  refine ⟨by show r.f0 ∈ _; exact List.mem_map_of_mem hr, ?_⟩
  unfold grp at hv
  obtain ⟨s, hs, _⟩ := List.mem_map.1 hv
  have h1 := List.mem_filter.1 hs
  have h2 : s.f0 = r.f0 := by simpa using h1.2
  show r.f0 ∈ _
  rw [← h2]
  exact List.mem_map_of_mem h1.1
theorem alike_l0 (l : List S36) (hl : l.length ≤ 100000) : ∀ (d i : Nat), i + d = l.length → Ev (fun k => tailraceref12_Alike.l0 k l l (i : Int)) true
  | 0, i, hi => Ev.step (f := fun _ => some true) (fun k => by rw [tailraceref12_Alike.l0, if_neg (by omega)]) (Ev.now _)
  | d + 1, i, hi => by
    refine Ev.step (fun k => ?_) (alike_l0 l hl d (i + 1) (by omega))
    rw [tailraceref12_Alike.l0, if_pos (by omega), if_pos (by omega), if_pos (by omega), if_neg (by simp), wrap_small (by omega) (by omega)]
    rfl
theorem alike_ev (l : List S36) (hl : l.length ≤ 100000) : Ev (fun k => tailraceref12_Alike.f k l l) true :=
  Ev.congr (fun k => by rw [tailraceref12_Alike.f, if_pos rfl]; rfl) (alike_l0 l hl l.length 0 (Nat.zero_add _))
theorem okRows_two {l m : List S36} (hl : l.length ≤ 1000) (hw : ∀ x ∈ l, wf36 x) (hm : m.length ≤ 1000) (hv : ∀ x ∈ m, wf36 x) : okRows [l, m] = true := by
  unfold okRows
  simp only [List.all_cons, List.all_nil, Bool.and_true, Bool.and_eq_true, decide_eq_true_eq, List.all_eq_true]
  exact ⟨⟨hl, fun x hx => (wfB_iff x).2 (hw x hx)⟩, hm, fun x hx => (wfB_iff x).2 (hv x hx)⟩
theorem run_join (a b : List S36) (ha : a.length ≤ 1000) (hw : ∀ x ∈ a, wf36 x) (hb : b.length ≤ 1000) (hv : ∀ x ∈ b, wf36 x) : opers_Run2.f 6 0 0 0 [] a b = some (srt (joinL a b), 0) := by
  unfold opers_Run2.f opers_Run.f
  have hn : numB 6 0 0 = true := rfl
  rw [if_neg (by rw [hn]; simp), if_neg (by show ¬ (2 : Int) ≠ arityI 6; decide), if_pos ⟨okRows_two ha hw hb hv, by omega⟩]
  rfl
theorem add_two (a b : List S36) (h : a.length + b.length ≤ 1000000) : value_Add2.f a b = some (srt (a ++ b)) := by
  unfold value_Add2.f value_Add.f
  rw [if_pos (by simp; omega)]
  simp
theorem srt_app (p q : List S36) : srt (srt p ++ srt q) = srt (p ++ q) := srt_perm ((List.mergeSort_perm _ _).append (List.mergeSort_perm _ _))
theorem srt_mem {l : List S36} {x : S36} : x ∈ srt l ↔ x ∈ l := (List.mergeSort_perm _ _).mem_iff
end Go.Proofs.Ytcihpjkjodhdpaa.X
namespace Go.Proofs.Ytcihpjkjodhdpaa.X
set_option linter.unusedVariables false
set_option linter.unusedSimpArgs false
open Go.RowKit Go.Proofs.YtcihpjkjodhdpaaW.PrintWords Go.Proofs.YtcihpjkjodhdpaaW.PrintLast Go.Proofs.YtcihpjkjodhdpaaW.PrintMore
theorem lit_ {P : Program} {ops : Array Oper} {Q : Exit → Act → World → Prop} {oi : Oper} {N : Option Tmp} {a : Act} {w w1 : World} {v : Value} {K : Act → World → Prop}
    (hw : Region.wanted oi (yielded ops a.tmps) = true) (hN : oi.dst = N) (hrun : (execOp a.eval oi).run P w = .ok (.value v) w1) (h : K (a.put N v) w1) : if Region.wanted oi (yielded ops a.tmps) = true then Oper.wp P oi a w K Q else K (a.put N undef) w := by
  rw [if_pos hw]
  unfold Oper.wp
  rw [hrun]
  subst hN
  exact h
end Go.Proofs.Ytcihpjkjodhdpaa.X
namespace Go.Proofs.Ytcihpjkjodhdpaa.X
open Go.RowKit Go.Proofs.YtcihpjkjodhdpaaW.PrintWords Go.Proofs.YtcihpjkjodhdpaaW.PrintLast Go.Proofs.YtcihpjkjodhdpaaW.PrintMore
attribute [local go_sem] max2_int min2_int max_two min_two
set_option linter.unusedVariables false
set_option linter.unusedSimpArgs false
mutual
def tailraceref10_depth.j0 : Nat → List (S24) → Bool → Int → Int → Int → Int → List Int → Option (Bool)
  | 0, _, _, _, _, _, _, _ => none
  | k + 1, x0, x39, x153000, x153001, x153002, x153003, x153004 => if x39 = true then (some false) else (if x153000 = 7 then (tailraceref10_depth.j1 k x0 1 x153000 x153001 x153002 x153003 x153004) else (tailraceref10_depth.j1 k x0 0 x153000 x153001 x153002 x153003 x153004))
def tailraceref10_depth.j1 : Nat → List (S24) → Int → Int → Int → Int → Int → List Int → Option (Bool)
  | 0, _, _, _, _, _, _, _ => none
  | k + 1, x0, x5, x153000, x153001, x153002, x153003, x153004 => if x153000 = 8 then (tailraceref10_depth.j2 k x0 (-1) x153000 x153001 x153002 x153003 x153004) else (tailraceref10_depth.j2 k x0 x5 x153000 x153001 x153002 x153003 x153004)
def tailraceref10_depth.j2 : Nat → List (S24) → Int → Int → Int → Int → Int → List Int → Option (Bool)
  | 0, _, _, _, _, _, _, _ => none
  | k + 1, x0, x5, x153000, x153001, x153002, x153003, x153004 => tailraceref10_depth.l0 k x0 x5 0 x153000 x153001 x153002 x153003 x153004
def tailraceref10_depth.l0 : Nat → List (S24) → Int → Int → Int → Int → Int → Int → List Int → Option (Bool)
  | 0, _, _, _, _, _, _, _, _ => none
  | k + 1, x0, x5, x6, x153000, x153001, x153002, x153003, x153004 => if x6 < (x153004.length : Int) then (if 0 ≤ x6 then (if 0 ≤ (rd x153004 x6) then (if (rd x153004 x6) < (x0.length : Int) then (if (wrap64 (x153003 - x5)) = ((rd_T24 x0 (rd x153004 x6)).f3) then (tailraceref10_depth.l0 k x0 x5 (wrap64 (x6 + 1)) x153000 x153001 x153002 x153003 x153004) else (some false)) else (none)) else (none)) else (none)) else (some true)
end
def tailraceref10_depth.f (k : Nat) (l0 : List (S24)) (a1_0 : Int) (a1_1 : Int) (a1_2 : Int) (a1_3 : Int) (l1_4 : List Int) : Option (Bool) := if a1_3 < 0 then (tailraceref10_depth.j0 k l0 true a1_0 a1_1 a1_2 a1_3 l1_4) else (if a1_3 > 3 then (tailraceref10_depth.j0 k l0 true a1_0 a1_1 a1_2 a1_3 l1_4) else (if a1_0 = 1 then (if a1_3 = 0 then (if a1_0 = 9 then (tailraceref10_depth.j0 k l0 (decide (a1_3 < 1)) a1_0 a1_1 a1_2 a1_3 l1_4) else (tailraceref10_depth.j0 k l0 false a1_0 a1_1 a1_2 a1_3 l1_4)) else (tailraceref10_depth.j0 k l0 true a1_0 a1_1 a1_2 a1_3 l1_4)) else (if a1_0 = 10 then (if a1_3 = 0 then (if a1_0 = 9 then (tailraceref10_depth.j0 k l0 (decide (a1_3 < 1)) a1_0 a1_1 a1_2 a1_3 l1_4) else (tailraceref10_depth.j0 k l0 false a1_0 a1_1 a1_2 a1_3 l1_4)) else (tailraceref10_depth.j0 k l0 true a1_0 a1_1 a1_2 a1_3 l1_4)) else (if a1_0 = 9 then (tailraceref10_depth.j0 k l0 (decide (a1_3 < 1)) a1_0 a1_1 a1_2 a1_3 l1_4) else (tailraceref10_depth.j0 k l0 false a1_0 a1_1 a1_2 a1_3 l1_4)))))
end Go.Proofs.Ytcihpjkjodhdpaa.X
namespace Go.Proofs.Ytcihpjkjodhdpaa.X
open Go.RowKit Go.Proofs.YtcihpjkjodhdpaaW.PrintWords Go.Proofs.YtcihpjkjodhdpaaW.PrintLast Go.Proofs.YtcihpjkjodhdpaaW.PrintMore
attribute [local go_sem] max2_int min2_int max_two min_two
set_option linter.unusedVariables false
set_option linter.unusedSimpArgs false
attribute [local go_sem high] eqA36
def tailraceref10_Node.j0 : Nat → List (S24) → Int → Bool → Option (Int)
  | 0, _, _, _ => none
  | k + 1, x0, x1, x12 => if x12 = true then (some 2) else (if 0 ≤ x1 then (if x1 < (x0.length : Int) then ((tailraceref10_numbers.f ((rd_T24 x0 x1).f0) ((rd_T24 x0 x1).f1) ((rd_T24 x0 x1).f2) ((rd_T24 x0 x1).f3) ((rd_T24 x0 x1).f4)).bind fun t156 => (if t156 = true then ((tailraceref10_ports.f k x0 ((rd_T24 x0 x1).f0) ((rd_T24 x0 x1).f1) ((rd_T24 x0 x1).f2) ((rd_T24 x0 x1).f3) ((rd_T24 x0 x1).f4)).bind fun t158 => (if t158 = true then ((tailraceref10_depth.f k x0 ((rd_T24 x0 x1).f0) ((rd_T24 x0 x1).f1) ((rd_T24 x0 x1).f2) ((rd_T24 x0 x1).f3) ((rd_T24 x0 x1).f4)).bind fun t160 => (if t160 = true then (some 0) else (some 101))) else (some 100))) else (some 130))) else (none)) else (none))
def tailraceref10_Node.f (k : Nat) (l0 : List (S24)) (a1 : Int) : Option (Int) := if a1 < 0 then (tailraceref10_Node.j0 k l0 a1 true) else (tailraceref10_Node.j0 k l0 a1 (decide (a1 ≥ (l0.length : Int))))
def tailraceref12_Compare.j0 : Nat → Bool → Int → Int → Int → Int → Option (Int)
  | 0, _, _, _, _, _ => none
  | k + 1, x23, x162000, x162001, x163000, x163001 => if x23 = true then (some (-1)) else (if (x162000 == x163000 && (x162001 == x163001)) = true then (some 0) else (some 1))
def tailraceref12_Compare.f (k : Nat) (a0_0 : Int) (a0_1 : Int) (a1_0 : Int) (a1_1 : Int) : Option (Int) := if a0_0 < a1_0 then (tailraceref12_Compare.j0 k true a0_0 a0_1 a1_0 a1_1) else (if a0_0 = a1_0 then (tailraceref12_Compare.j0 k (decide (a0_1 < a1_1)) a0_0 a0_1 a1_0 a1_1) else (tailraceref12_Compare.j0 k false a0_0 a0_1 a1_0 a1_1))
end Go.Proofs.Ytcihpjkjodhdpaa.X
namespace Go.Proofs.Ytcihpjkjodhdpaa.X
open Go.RowKit Go.Proofs.YtcihpjkjodhdpaaW.PrintWords Go.Proofs.YtcihpjkjodhdpaaW.PrintLast Go.Proofs.YtcihpjkjodhdpaaW.PrintMore
attribute [local go_sem] max2_int min2_int max_two min_two
set_option linter.unusedVariables false
set_option linter.unusedSimpArgs false
mutual
def tailraceref12_Sorted.l0 : Nat → List (S36) → List (S36) → Int → Option ((List (S36)))
  | 0, _, _, _ => none
  | k + 1, x0, x3, x4 => if x4 < (x0.length : Int) then (tailraceref12_Sorted.l1 k x0 x3 x4 (x3.length : Int)) else (some x3)
def tailraceref12_Sorted.j2 : Nat → List (S36) → List (S36) → Int → Int → Option ((List (S36)))
  | 0, _, _, _, _ => none
  | k + 1, x0, x3, x4, x5 => if 0 ≤ x4 then (if x4 < (x0.length : Int) then (if x3.length < 8796093022208 then ((some (x3 ++ [(⟨(rd_T36 x0 x4).f0, (rd_T36 x0 x4).f1⟩ : S36)] : List (S36))).bind fun y167 => (tailraceref12_Sorted.l2 k x0 y167 x4 x5 (wrap64 ((y167.length : Int) - 1)))) else (none)) else (none)) else (none)
def tailraceref12_Sorted.l2 : Nat → List (S36) → List (S36) → Int → Int → Int → Option ((List (S36)))
  | 0, _, _, _, _, _ => none
  | k + 1, x0, x3, x4, x5, x6 => if x6 > x5 then (if 0 ≤ (wrap64 (x6 - 1)) then (if (wrap64 (x6 - 1)) < (x3.length : Int) then (if 0 ≤ x6 then (if x6 < (x3.length : Int) then (tailraceref12_Sorted.l2 k x0 (x3.set (x6 : Int).toNat (⟨(rd_T36 x3 (wrap64 (x6 - 1))).f0, (rd_T36 x3 (wrap64 (x6 - 1))).f1⟩ : S36)) x4 x5 (wrap64 (x6 - 1))) else (none)) else (none)) else (none)) else (none)) else (if 0 ≤ x4 then (if x4 < (x0.length : Int) then (if 0 ≤ x5 then (if x5 < (x3.length : Int) then (tailraceref12_Sorted.l0 k x0 (x3.set (x5 : Int).toNat (⟨(rd_T36 x0 x4).f0, (rd_T36 x0 x4).f1⟩ : S36)) (wrap64 (x4 + 1))) else (none)) else (none)) else (none)) else (none))
def tailraceref12_Sorted.l1 : Nat → List (S36) → List (S36) → Int → Int → Option ((List (S36)))
  | 0, _, _, _, _ => none
  | k + 1, x0, x3, x4, x5 => if x5 > 0 then (if 0 ≤ (wrap64 (x5 - 1)) then (if (wrap64 (x5 - 1)) < (x3.length : Int) then (if 0 ≤ x4 then (if x4 < (x0.length : Int) then ((tailraceref12_Compare.f k ((rd_T36 x3 (wrap64 (x5 - 1))).f0) ((rd_T36 x3 (wrap64 (x5 - 1))).f1) ((rd_T36 x0 x4).f0) ((rd_T36 x0 x4).f1)).bind fun t165 => (if t165 > 0 then (tailraceref12_Sorted.l1 k x0 x3 x4 (wrap64 (x5 - 1))) else (tailraceref12_Sorted.j2 k x0 x3 x4 x5))) else (none)) else (none)) else (none)) else (none)) else (tailraceref12_Sorted.j2 k x0 x3 x4 x5)
end
def tailraceref12_Sorted.f (k : Nat) (l0 : List (S36)) : Option ((List (S36))) := tailraceref12_Sorted.l0 k l0 ([] : List (S36)) 0
end Go.Proofs.Ytcihpjkjodhdpaa.X
namespace Go.Proofs.Ytcihpjkjodhdpaa.X
open Go.RowKit Go.Proofs.YtcihpjkjodhdpaaW.PrintWords Go.Proofs.YtcihpjkjodhdpaaW.PrintLast Go.Proofs.YtcihpjkjodhdpaaW.PrintMore
attribute [local go_sem] max2_int min2_int max_two min_two
set_option linter.unusedVariables false
set_option linter.unusedSimpArgs false
def tailraceref13_modulo.f (a0 : Int) (a1 : Int) : Option (Int) := if a1 = 0 then (none) else (if (Int.tmod a0 a1) < 0 then (some (wrap64 ((Int.tmod a0 a1) + a1))) else (some (Int.tmod a0 a1)))
def tailraceref13_mapped.f (a0_0 : Int) (a0_1 : Int) (a0_2 : Int) (a0_3 : Int) (l0_4 : List Int) (a1_0 : Int) (a1_1 : Int) : Option (Int × Int) := if a0_1 = 0 then (some (a1_0, wrap64 (a1_1 + a0_2))) else (if a0_1 = 1 then (some (a1_0, wrap64 (a1_1 * a0_2))) else (if a0_1 = 2 then (some (a1_1, a1_0)) else ((tailraceref13_modulo.f a1_1 a0_2).bind fun t177 => (some (t177, a1_1)))))
def tailraceref13_passes.f (a0_0 : Int) (a0_1 : Int) (a0_2 : Int) (a0_3 : Int) (l0_4 : List Int) (a1_0 : Int) (a1_1 : Int) : Option (Bool) := if a0_1 = 0 then (some (decide (a1_1 < a0_2))) else (if a0_1 = 1 then (if a0_2 = 0 then (none) else (some ((Int.tmod a1_1 a0_2) == 0))) else (some (decide (a1_0 < a0_2))))
def tailraceref13_first.l0 : Nat → List (S36) → Int → Int → Option (Bool)
  | 0, _, _, _ => none
  | k + 1, x0, x1, x5 => if x5 < x1 then (if 0 ≤ x5 then (if x5 < (x0.length : Int) then (if 0 ≤ x1 then (if x1 < (x0.length : Int) then (if ((rd_T36 x0 x5).f0) = ((rd_T36 x0 x1).f0) then (some false) else (tailraceref13_first.l0 k x0 x1 (wrap64 (x5 + 1)))) else (none)) else (none)) else (none)) else (none)) else (some true)
def tailraceref13_first.f (k : Nat) (l0 : List (S36)) (a1 : Int) : Option (Bool) := tailraceref13_first.l0 k l0 a1 0
end Go.Proofs.Ytcihpjkjodhdpaa.X
namespace Go.Proofs.Ytcihpjkjodhdpaa.X
open Go.RowKit Go.Proofs.YtcihpjkjodhdpaaW.PrintWords Go.Proofs.YtcihpjkjodhdpaaW.PrintLast Go.Proofs.YtcihpjkjodhdpaaW.PrintMore
attribute [local go_sem] max2_int min2_int max_two min_two
set_option linter.unusedVariables false
set_option linter.unusedSimpArgs false
def tailraceref13_reduced.l0 : Nat → Int → List (S36) → Int → Int → Int → Int → Int → Int → List Int → Int → Int → Option (Int × Int)
  | 0, _, _, _, _, _, _, _, _, _, _, _ => none
  | k + 1, x1, x2, x8, x9, x183000, x183001, x183002, x183003, x183004, x185000, x185001 => if x9 < (x2.length : Int) then (if 0 ≤ x9 then (if ((rd_T36 x2 x9).f0) = x1 then (if x183001 = 0 then (tailraceref13_reduced.l0 k x1 x2 (wrap64 (x8 + 1)) (wrap64 (x9 + 1)) x183000 x183001 x183002 x183003 x183004 x185000 (wrap64 (x185001 + ((rd_T36 x2 x9).f1)))) else (if x183001 = 1 then (tailraceref13_reduced.l0 k x1 x2 (wrap64 (x8 + 1)) (wrap64 (x9 + 1)) x183000 x183001 x183002 x183003 x183004 x185000 (wrap64 (x185001 + 1))) else (if x183001 = 2 then (if x8 = 0 then (tailraceref13_reduced.l0 k x1 x2 (wrap64 (x8 + 1)) (wrap64 (x9 + 1)) x183000 x183001 x183002 x183003 x183004 x185000 ((rd_T36 x2 x9).f1)) else (if ((rd_T36 x2 x9).f1) < x185001 then (tailraceref13_reduced.l0 k x1 x2 (wrap64 (x8 + 1)) (wrap64 (x9 + 1)) x183000 x183001 x183002 x183003 x183004 x185000 ((rd_T36 x2 x9).f1)) else (tailraceref13_reduced.l0 k x1 x2 (wrap64 (x8 + 1)) (wrap64 (x9 + 1)) x183000 x183001 x183002 x183003 x183004 x185000 x185001))) else (if x8 = 0 then (tailraceref13_reduced.l0 k x1 x2 (wrap64 (x8 + 1)) (wrap64 (x9 + 1)) x183000 x183001 x183002 x183003 x183004 x185000 ((rd_T36 x2 x9).f1)) else (if ((rd_T36 x2 x9).f1) > x185001 then (tailraceref13_reduced.l0 k x1 x2 (wrap64 (x8 + 1)) (wrap64 (x9 + 1)) x183000 x183001 x183002 x183003 x183004 x185000 ((rd_T36 x2 x9).f1)) else (tailraceref13_reduced.l0 k x1 x2 (wrap64 (x8 + 1)) (wrap64 (x9 + 1)) x183000 x183001 x183002 x183003 x183004 x185000 x185001)))))) else (tailraceref13_reduced.l0 k x1 x2 x8 (wrap64 (x9 + 1)) x183000 x183001 x183002 x183003 x183004 x185000 x185001)) else (none)) else (some (x185000, x185001))
def tailraceref13_reduced.f (k : Nat) (a0_0 : Int) (a0_1 : Int) (a0_2 : Int) (a0_3 : Int) (l0_4 : List Int) (a1 : Int) (l2 : List (S36)) : Option (Int × Int) := tailraceref13_reduced.l0 k a1 l2 0 0 a0_0 a0_1 a0_2 a0_3 l0_4 a1 0
end Go.Proofs.Ytcihpjkjodhdpaa.X
namespace Go.Proofs.Ytcihpjkjodhdpaa.X
open Go.RowKit Go.Proofs.YtcihpjkjodhdpaaW.PrintWords Go.Proofs.YtcihpjkjodhdpaaW.PrintLast Go.Proofs.YtcihpjkjodhdpaaW.PrintMore
attribute [local go_sem] max2_int min2_int max_two min_two
set_option linter.unusedVariables false
set_option linter.unusedSimpArgs false
mutual
def tailraceref13_makes.l0 : Nat → List (List (S36)) → List (S36) → Int → Int → Int → Int → Int → List Int → Option ((List (S36)))
  | 0, _, _, _, _, _, _, _, _ => none
  | k + 1, x1, x5, x6, x188000, x188001, x188002, x188003, x188004 => if x6 < (x1.length : Int) then (tailraceref13_makes.l1 k x1 x5 x6 0 x188000 x188001 x188002 x188003 x188004) else (some x5)
def tailraceref13_makes.l1 : Nat → List (List (S36)) → List (S36) → Int → Int → Int → Int → Int → Int → List Int → Option ((List (S36)))
  | 0, _, _, _, _, _, _, _, _, _ => none
  | k + 1, x1, x5, x6, x7, x188000, x188001, x188002, x188003, x188004 => if 0 ≤ x6 then (if x6 < (x1.length : Int) then (if x7 < ((rd_L2 x1 x6).length : Int) then (if 0 ≤ x7 then (if x188000 = 2 then ((tailraceref13_mapped.f x188000 x188001 x188002 x188003 x188004 ((rd_T36 (rd_L2 x1 x6) x7).f0) ((rd_T36 (rd_L2 x1 x6) x7).f1)).bind fun bt192 => (if x5.length < 8796093022208 then (tailraceref13_makes.l1 k x1 (x5 ++ [(⟨bt192.1, bt192.2⟩ : S36)]) x6 (wrap64 (x7 + 1)) x188000 x188001 x188002 x188003 x188004) else (none))) else (if x188000 = 3 then ((tailraceref13_passes.f x188000 x188001 x188002 x188003 x188004 ((rd_T36 (rd_L2 x1 x6) x7).f0) ((rd_T36 (rd_L2 x1 x6) x7).f1)).bind fun t197 => (if t197 = true then (if x5.length < 8796093022208 then (tailraceref13_makes.l1 k x1 (x5 ++ [(⟨(rd_T36 (rd_L2 x1 x6) x7).f0, (rd_T36 (rd_L2 x1 x6) x7).f1⟩ : S36)]) x6 (wrap64 (x7 + 1)) x188000 x188001 x188002 x188003 x188004) else (none)) else (tailraceref13_makes.l1 k x1 x5 x6 (wrap64 (x7 + 1)) x188000 x188001 x188002 x188003 x188004))) else (if x188000 = 5 then ((tailraceref13_first.f k (rd_L2 x1 x6) x7).bind fun t202 => (if t202 = true then ((tailraceref13_reduced.f k x188000 x188001 x188002 x188003 x188004 ((rd_T36 (rd_L2 x1 x6) x7).f0) (rd_L2 x1 x6)).bind fun bt204 => (if x5.length < 8796093022208 then (tailraceref13_makes.l1 k x1 (x5 ++ [(⟨bt204.1, bt204.2⟩ : S36)]) x6 (wrap64 (x7 + 1)) x188000 x188001 x188002 x188003 x188004) else (none))) else (tailraceref13_makes.l1 k x1 x5 x6 (wrap64 (x7 + 1)) x188000 x188001 x188002 x188003 x188004))) else (if x188000 = 6 then (tailraceref13_makes.l2 k x1 x5 x6 x7 0 x188000 x188001 x188002 x188003 x188004 ((rd_T36 (rd_L2 x1 x6) x7).f0) ((rd_T36 (rd_L2 x1 x6) x7).f1)) else (if x5.length < 8796093022208 then (tailraceref13_makes.l1 k x1 (x5 ++ [(⟨(rd_T36 (rd_L2 x1 x6) x7).f0, (rd_T36 (rd_L2 x1 x6) x7).f1⟩ : S36)]) x6 (wrap64 (x7 + 1)) x188000 x188001 x188002 x188003 x188004) else (none)))))) else (none)) else (tailraceref13_makes.l0 k x1 x5 (wrap64 (x6 + 1)) x188000 x188001 x188002 x188003 x188004)) else (none)) else (none)
def tailraceref13_makes.l2 : Nat → List (List (S36)) → List (S36) → Int → Int → Int → Int → Int → Int → Int → List Int → Int → Int → Option ((List (S36)))
  | 0, _, _, _, _, _, _, _, _, _, _, _, _ => none
  | k + 1, x1, x5, x6, x7, x9, x188000, x188001, x188002, x188003, x188004, x192000, x192001 => if 1 < (x1.length : Int) then (if x9 < ((rd_L2 x1 1).length : Int) then (if x6 = 0 then (if 0 ≤ x9 then (if ((rd_T36 (rd_L2 x1 1) x9).f0) = x192000 then (if x5.length < 8796093022208 then (tailraceref13_makes.l2 k x1 (x5 ++ [(⟨x192000, wrap64 (x192001 + ((rd_T36 (rd_L2 x1 1) x9).f1))⟩ : S36)]) x6 x7 (wrap64 (x9 + 1)) x188000 x188001 x188002 x188003 x188004 x192000 x192001) else (none)) else (tailraceref13_makes.l2 k x1 x5 x6 x7 (wrap64 (x9 + 1)) x188000 x188001 x188002 x188003 x188004 x192000 x192001)) else (none)) else (tailraceref13_makes.l2 k x1 x5 x6 x7 (wrap64 (x9 + 1)) x188000 x188001 x188002 x188003 x188004 x192000 x192001)) else (tailraceref13_makes.l1 k x1 x5 x6 (wrap64 (x7 + 1)) x188000 x188001 x188002 x188003 x188004)) else (none)
end
def tailraceref13_makes.f (k : Nat) (a0_0 : Int) (a0_1 : Int) (a0_2 : Int) (a0_3 : Int) (l0_4 : List Int) (l1 : List (List (S36))) : Option ((List (S36))) := tailraceref13_makes.l0 k l1 ([] : List (S36)) 0 a0_0 a0_1 a0_2 a0_3 l0_4
end Go.Proofs.Ytcihpjkjodhdpaa.X
namespace Go.Proofs.Ytcihpjkjodhdpaa.X
open Go.RowKit Go.Proofs.YtcihpjkjodhdpaaW.PrintWords Go.Proofs.YtcihpjkjodhdpaaW.PrintLast Go.Proofs.YtcihpjkjodhdpaaW.PrintMore
attribute [local go_sem] max2_int min2_int max_two min_two
set_option linter.unusedVariables false
set_option linter.unusedSimpArgs false
attribute [local go_sem high] eqA36
def tailraceref13_Waits.f (a0 : Int) : Option (Bool) := if a0 = 5 then (some true) else (some (a0 == 6))
def tailraceref13_Of.j0 : Nat → Int → Int → Bool → Int → Int → Int → Int → List Int → Int → Int → Option (Int)
  | 0, _, _, _, _, _, _, _, _, _, _ => none
  | k + 1, x2, x3, x23, x235000, x235001, x235002, x235003, x235004, x236000, x236001 => if x23 = true then (some (-1)) else ((tailraceref13_Waits.f x235000).bind fun t236 => (if t236 = true then ((tailraceref13_modulo.f x236000 x3).bind fun t237 => (some t237)) else (some x2)))
def tailraceref13_Of.f (k : Nat) (a0_0 : Int) (a0_1 : Int) (a0_2 : Int) (a0_3 : Int) (l0_4 : List Int) (a1_0 : Int) (a1_1 : Int) (a2 : Int) (a3 : Int) : Option (Int) := if a3 < 1 then (tailraceref13_Of.j0 k a2 a3 true a0_0 a0_1 a0_2 a0_3 l0_4 a1_0 a1_1) else (if a3 > 64 then (tailraceref13_Of.j0 k a2 a3 true a0_0 a0_1 a0_2 a0_3 l0_4 a1_0 a1_1) else (if a2 < 0 then (tailraceref13_Of.j0 k a2 a3 true a0_0 a0_1 a0_2 a0_3 l0_4 a1_0 a1_1) else (tailraceref13_Of.j0 k a2 a3 (decide (a2 ≥ a3)) a0_0 a0_1 a0_2 a0_3 l0_4 a1_0 a1_1)))
def tailracelaw13_in.l0 : Nat → List (S36) → Int → Int → Int → Option (Bool)
  | 0, _, _, _, _ => none
  | k + 1, x0, x5, x249000, x249001 => if x5 < (x0.length : Int) then (if 0 ≤ x5 then (if (((rd_T36 x0 x5).f0) == x249000 && (((rd_T36 x0 x5).f1) == x249001)) = true then (some true) else (tailracelaw13_in.l0 k x0 (wrap64 (x5 + 1)) x249000 x249001)) else (none)) else (some false)
def tailracelaw13_in.f (k : Nat) (l0 : List (S36)) (a1_0 : Int) (a1_1 : Int) : Option (Bool) := tailracelaw13_in.l0 k l0 0 a1_0 a1_1
end Go.Proofs.Ytcihpjkjodhdpaa.X
