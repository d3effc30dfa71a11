/- A part of the proof. -/
import Derived.Test.YtcihpjkjodhdpaaOT1
import Derived.Sort.AtCall
namespace Go.Proofs.Ytcihpjkjodhdpaa.X
set_option linter.unusedVariables false
set_option linter.unusedSimpArgs false
open Go.RowKit Go.Proofs.YtcihpjkjodhdpaaW.PrintWords Go.Proofs.YtcihpjkjodhdpaaW.PrintLast Go.Proofs.YtcihpjkjodhdpaaW.PrintMore
def outC (t : St) : St × Bool :=
  if rightB t = false then (St.zero, false) else if t.d = 0 then (St.zero, false) else (⟨t.d - 1, t.e, if t.d = 1 then 0 else t.a, if t.d = 2 then 0 else t.b, if t.d = 3 then 0 else t.c⟩, true)
def stepped (t : St) : St := ⟨t.d, t.e, if t.d = 1 then t.a + 1 else t.a, if t.d = 2 then t.b + 1 else t.b, if t.d = 3 then t.c + 1 else t.c⟩
def stepC (t : St) : St × Bool :=
  if rightB t = false then (St.zero, false) else if t.d = 0 then (St.zero, false) else if rightB (stepped t) = false then (St.zero, false) else (stepped t, true)
def intoR (t : St) : St × Bool := if rightB t = false then (St.zero, false) else if t.d ≥ 3 then (St.zero, false) else (⟨t.d + 1, t.e, t.a, t.b, t.c⟩, true)
set_option maxHeartbeats 8000000 in
set_option maxRecDepth 100000 in
theorem stamp_Out_calls (t : St) (w : World) : Calls Try.prog 37 #[stV t] w fun e w' => e = .returned (.tuple #[stV (outC t).1, .bool (outC t).2]) ∧ Below w.heap.size w w' := by
  obtain ⟨d, e, a, b, c⟩ := t
  show Calls Try.prog 37 #[.agg #[.int .i64 d, .int .i64 e, .int .i64 a, .int .i64 b, .int .i64 c]] w _
  have hHB := Aside0.mk (Below.refl w.heap.size w)
  have HB1 := Aside0.mk (blk_alloc (blk_new w (.cells #[.int .i64 d, .int .i64 e, .int .i64 a, .int .i64 b, .int .i64 c] 40)) (.cells #[.int .i64 0, .int .i64 0, .int .i64 0, .int .i64 0, .int .i64 0] 40))
  have HB2 := Aside0.mk (show (((w.alloc (.cells #[.int .i64 d, .int .i64 e, .int .i64 a, .int .i64 b, .int .i64 c] 40)).alloc (.cells #[.int .i64 0, .int .i64 0, .int .i64 0, .int .i64 0, .int .i64 0] 40))).heap[w.heap.size + 1]? = some (.cells #[.int .i64 0, .int .i64 0, .int .i64 0, .int .i64 0, .int .i64 0] 40 (0, 0)) by simpa using heap_alloc_last (w.alloc (.cells #[.int .i64 d, .int .i64 e, .int .i64 a, .int .i64 b, .int .i64 c] 40)) (.cells #[.int .i64 0, .int .i64 0, .int .i64 0, .int .i64 0, .int .i64 0] 40))
  have hHB2 := Aside0.mk (below_alloc (below_alloc hHB.out (.cells #[.int .i64 d, .int .i64 e, .int .i64 a, .int .i64 b, .int .i64 c] 40)) (.cells #[.int .i64 0, .int .i64 0, .int .i64 0, .int .i64 0, .int .i64 0] 40))
  have HC0 := Aside0.mk (stamp_Right_calls ⟨d, e, a, b, c⟩ (((w.alloc (.cells #[.int .i64 d, .int .i64 e, .int .i64 a, .int .i64 b, .int .i64 c] 40)).alloc (.cells #[.int .i64 0, .int .i64 0, .int .i64 0, .int .i64 0, .int .i64 0] 40))))
  simp only [stV] at HC0
  obtain ⟨rb, hrb⟩ : ∃ rb, rb = rightB ⟨d, e, a, b, c⟩ := ⟨_, rfl⟩
  rw [← hrb] at HC0
  cases rb with
  | false =>
    have HF := Aside0.mk (show outC ⟨d, e, a, b, c⟩ = (St.zero, false) by unfold outC; rw [if_pos hrb.symm])
    clear hrb
    go_enter Try.func37, Try.ntmps37
    go_wp2_with (go_at_call 39; refine HC0.out.mono ?_; rintro e1 w1 ⟨rfl, hb⟩; have HX1 := Aside0.mk (blk_below HB1.out hb); have HX2 := Aside0.mk (blk_below HB2.out hb); have HBW := Aside0.mk (below_step hHB2.out hb); clear hb; have p1_0 := (blk_cell HX1.out 0).trans rfl; have p1_1 := (blk_cell HX1.out 1).trans rfl; have p1_2 := (blk_cell HX1.out 2).trans rfl; have p1_3 := (blk_cell HX1.out 3).trans rfl; have p1_4 := (blk_cell HX1.out 4).trans rfl; have r1_0 := (blk_cell HX2.out 0).trans rfl; have r1_1 := (blk_cell HX2.out 1).trans rfl; have r1_2 := (blk_cell HX2.out 2).trans rfl; have r1_3 := (blk_cell HX2.out 3).trans rfl; have r1_4 := (blk_cell HX2.out 4).trans rfl; have f1_0 := blk_frozen HX1.out 0; have f1_1 := blk_frozen HX1.out 1; have f1_2 := blk_frozen HX1.out 2; have f1_3 := blk_frozen HX1.out 3; have f1_4 := blk_frozen HX1.out 4; have g1_0 := blk_frozen HX2.out 0; have g1_1 := blk_frozen HX2.out 1; have g1_2 := blk_frozen HX2.out 2; have g1_3 := blk_frozen HX2.out 3; have g1_4 := blk_frozen HX2.out 4)
    refine bodyPost_ret (results_ct rfl _ _ (w.heap.size + 1) 40 #[.int .i64 0, .int .i64 0, .int .i64 0, .int .i64 0, .int .i64 0] (0, 0) _ rfl (by first | (rw [(blk_set (blk_set (blk_set (blk_set (blk_set HX2.out 0 (.int .i64 0)) 1 (.int .i64 0)) 2 (.int .i64 0)) 3 (.int .i64 0)) 4 (.int .i64 0))]; rfl) | (go_simp; done) | (simpa using heap_alloc_last (w.alloc _) _)) Try.underlying40 rfl (by kernel_rfl)) rfl ?_
    exact ⟨by rw [HF.out]; rfl, by first | exact (below_set (below_set (below_set (below_set (below_set HBW.out (by simp)) (by simp)) (by simp)) (by simp)) (by simp)) | (repeat (first | exact hHB.out | apply below_alloc | refine below_set ?_ (by first | exact Nat.le_refl _ | (simp; done) | (simp; omega))))⟩
  | true =>
    have hin := right_in hrb.symm
    simp only at hin
    obtain ⟨i0, i1, i2, i3, i4, i5, i6, i7, i8, i9⟩ := hin
    have hd : d = 0 ∨ d = 1 ∨ d = 2 ∨ d = 3 := by omega
    rcases hd with rfl | rfl | rfl | rfl
    · have HF := Aside0.mk (show outC ⟨0, e, a, b, c⟩ = (St.zero, false) by unfold outC; rw [if_neg (by rw [← hrb]; simp)]; simp)
      clear hrb
      go_enter Try.func37, Try.ntmps37
      go_wp2_with (go_at_call 39; refine HC0.out.mono ?_; rintro e1 w1 ⟨rfl, hb⟩; have HX1 := Aside0.mk (blk_below HB1.out hb); have HX2 := Aside0.mk (blk_below HB2.out hb); have HBW := Aside0.mk (below_step hHB2.out hb); clear hb; have p1_0 := (blk_cell HX1.out 0).trans rfl; have p1_1 := (blk_cell HX1.out 1).trans rfl; have p1_2 := (blk_cell HX1.out 2).trans rfl; have p1_3 := (blk_cell HX1.out 3).trans rfl; have p1_4 := (blk_cell HX1.out 4).trans rfl; have r1_0 := (blk_cell HX2.out 0).trans rfl; have r1_1 := (blk_cell HX2.out 1).trans rfl; have r1_2 := (blk_cell HX2.out 2).trans rfl; have r1_3 := (blk_cell HX2.out 3).trans rfl; have r1_4 := (blk_cell HX2.out 4).trans rfl; have f1_0 := blk_frozen HX1.out 0; have f1_1 := blk_frozen HX1.out 1; have f1_2 := blk_frozen HX1.out 2; have f1_3 := blk_frozen HX1.out 3; have f1_4 := blk_frozen HX1.out 4; have g1_0 := blk_frozen HX2.out 0; have g1_1 := blk_frozen HX2.out 1; have g1_2 := blk_frozen HX2.out 2; have g1_3 := blk_frozen HX2.out 3; have g1_4 := blk_frozen HX2.out 4)
      refine bodyPost_ret (results_ct rfl _ _ (w.heap.size + 1) 40 #[.int .i64 0, .int .i64 0, .int .i64 0, .int .i64 0, .int .i64 0] (0, 0) _ rfl (by first | (rw [(blk_set (blk_set (blk_set (blk_set (blk_set HX2.out 0 (.int .i64 0)) 1 (.int .i64 0)) 2 (.int .i64 0)) 3 (.int .i64 0)) 4 (.int .i64 0))]; rfl) | (go_simp; done) | (simpa using heap_alloc_last (w.alloc _) _)) Try.underlying40 rfl (by kernel_rfl)) rfl ?_
      exact ⟨by rw [HF.out]; rfl, by first | exact (below_set (below_set (below_set (below_set (below_set HBW.out (by simp)) (by simp)) (by simp)) (by simp)) (by simp)) | (repeat (first | exact hHB.out | apply below_alloc | refine below_set ?_ (by first | exact Nat.le_refl _ | (simp; done) | (simp; omega))))⟩
    · have HF := Aside0.mk (show outC ⟨1, e, a, b, c⟩ = (⟨0, e, 0, b, c⟩, true) by unfold outC; rw [if_neg (by rw [← hrb]; simp)]; simp)
      clear hrb
      go_enter Try.func37, Try.ntmps37
      go_wp2_with (go_at_call 39; refine HC0.out.mono ?_; rintro e1 w1 ⟨rfl, hb⟩; have HX1 := Aside0.mk (blk_below HB1.out hb); have HX2 := Aside0.mk (blk_below HB2.out hb); have HBW := Aside0.mk (below_step hHB2.out hb); clear hb; have p1_0 := (blk_cell HX1.out 0).trans rfl; have p1_1 := (blk_cell HX1.out 1).trans rfl; have p1_2 := (blk_cell HX1.out 2).trans rfl; have p1_3 := (blk_cell HX1.out 3).trans rfl; have p1_4 := (blk_cell HX1.out 4).trans rfl; have r1_0 := (blk_cell HX2.out 0).trans rfl; have r1_1 := (blk_cell HX2.out 1).trans rfl; have r1_2 := (blk_cell HX2.out 2).trans rfl; have r1_3 := (blk_cell HX2.out 3).trans rfl; have r1_4 := (blk_cell HX2.out 4).trans rfl; have f1_0 := blk_frozen HX1.out 0; have f1_1 := blk_frozen HX1.out 1; have f1_2 := blk_frozen HX1.out 2; have f1_3 := blk_frozen HX1.out 3; have f1_4 := blk_frozen HX1.out 4; have g1_0 := blk_frozen HX2.out 0; have g1_1 := blk_frozen HX2.out 1; have g1_2 := blk_frozen HX2.out 2; have g1_3 := blk_frozen HX2.out 3; have g1_4 := blk_frozen HX2.out 4)
      refine bodyPost_ret (results_ct rfl _ _ (w.heap.size + 1) 40 #[.int .i64 0, .int .i64 e, .int .i64 0, .int .i64 b, .int .i64 c] (0, 0) _ rfl (by first | (rw [(blk_set (blk_set (blk_set (blk_set (blk_set (blk_far (blk_far HX2.out (by simp) _) (by simp) _) 0 (.int .i64 0)) 1 (.int .i64 e)) 2 (.int .i64 0)) 3 (.int .i64 b)) 4 (.int .i64 c))]; rfl) | (go_simp; done) | (simpa using heap_alloc_last (w.alloc _) _)) Try.underlying40 rfl (by kernel_rfl)) rfl ?_
      exact ⟨by rw [HF.out]; rfl, by first | exact (below_set (below_set (below_set (below_set (below_set (below_set (below_set HBW.out (by simp)) (by simp)) (by simp)) (by simp)) (by simp)) (by simp)) (by simp)) | (repeat (first | exact hHB.out | apply below_alloc | refine below_set ?_ (by first | exact Nat.le_refl _ | (simp; done) | (simp; omega))))⟩
    · have HF := Aside0.mk (show outC ⟨2, e, a, b, c⟩ = (⟨1, e, a, 0, c⟩, true) by unfold outC; rw [if_neg (by rw [← hrb]; simp)]; simp)
      clear hrb
      go_enter Try.func37, Try.ntmps37
      go_wp2_with (go_at_call 39; refine HC0.out.mono ?_; rintro e1 w1 ⟨rfl, hb⟩; have HX1 := Aside0.mk (blk_below HB1.out hb); have HX2 := Aside0.mk (blk_below HB2.out hb); have HBW := Aside0.mk (below_step hHB2.out hb); clear hb; have p1_0 := (blk_cell HX1.out 0).trans rfl; have p1_1 := (blk_cell HX1.out 1).trans rfl; have p1_2 := (blk_cell HX1.out 2).trans rfl; have p1_3 := (blk_cell HX1.out 3).trans rfl; have p1_4 := (blk_cell HX1.out 4).trans rfl; have r1_0 := (blk_cell HX2.out 0).trans rfl; have r1_1 := (blk_cell HX2.out 1).trans rfl; have r1_2 := (blk_cell HX2.out 2).trans rfl; have r1_3 := (blk_cell HX2.out 3).trans rfl; have r1_4 := (blk_cell HX2.out 4).trans rfl; have f1_0 := blk_frozen HX1.out 0; have f1_1 := blk_frozen HX1.out 1; have f1_2 := blk_frozen HX1.out 2; have f1_3 := blk_frozen HX1.out 3; have f1_4 := blk_frozen HX1.out 4; have g1_0 := blk_frozen HX2.out 0; have g1_1 := blk_frozen HX2.out 1; have g1_2 := blk_frozen HX2.out 2; have g1_3 := blk_frozen HX2.out 3; have g1_4 := blk_frozen HX2.out 4)
      refine bodyPost_ret (results_ct rfl _ _ (w.heap.size + 1) 40 #[.int .i64 1, .int .i64 e, .int .i64 a, .int .i64 0, .int .i64 c] (0, 0) _ rfl (by first | (rw [(blk_set (blk_set (blk_set (blk_set (blk_set (blk_far (blk_far HX2.out (by simp) _) (by simp) _) 0 (.int .i64 1)) 1 (.int .i64 e)) 2 (.int .i64 a)) 3 (.int .i64 0)) 4 (.int .i64 c))]; rfl) | (go_simp; done) | (simpa using heap_alloc_last (w.alloc _) _)) Try.underlying40 rfl (by kernel_rfl)) rfl ?_
      exact ⟨by rw [HF.out]; rfl, by first | exact (below_set (below_set (below_set (below_set (below_set (below_set (below_set HBW.out (by simp)) (by simp)) (by simp)) (by simp)) (by simp)) (by simp)) (by simp)) | (repeat (first | exact hHB.out | apply below_alloc | refine below_set ?_ (by first | exact Nat.le_refl _ | (simp; done) | (simp; omega))))⟩
    · have HF := Aside0.mk (show outC ⟨3, e, a, b, c⟩ = (⟨2, e, a, b, 0⟩, true) by unfold outC; rw [if_neg (by rw [← hrb]; simp)]; simp)
      clear hrb
      go_enter Try.func37, Try.ntmps37
      go_wp2_with (go_at_call 39; refine HC0.out.mono ?_; rintro e1 w1 ⟨rfl, hb⟩; have HX1 := Aside0.mk (blk_below HB1.out hb); have HX2 := Aside0.mk (blk_below HB2.out hb); have HBW := Aside0.mk (below_step hHB2.out hb); clear hb; have p1_0 := (blk_cell HX1.out 0).trans rfl; have p1_1 := (blk_cell HX1.out 1).trans rfl; have p1_2 := (blk_cell HX1.out 2).trans rfl; have p1_3 := (blk_cell HX1.out 3).trans rfl; have p1_4 := (blk_cell HX1.out 4).trans rfl; have r1_0 := (blk_cell HX2.out 0).trans rfl; have r1_1 := (blk_cell HX2.out 1).trans rfl; have r1_2 := (blk_cell HX2.out 2).trans rfl; have r1_3 := (blk_cell HX2.out 3).trans rfl; have r1_4 := (blk_cell HX2.out 4).trans rfl; have f1_0 := blk_frozen HX1.out 0; have f1_1 := blk_frozen HX1.out 1; have f1_2 := blk_frozen HX1.out 2; have f1_3 := blk_frozen HX1.out 3; have f1_4 := blk_frozen HX1.out 4; have g1_0 := blk_frozen HX2.out 0; have g1_1 := blk_frozen HX2.out 1; have g1_2 := blk_frozen HX2.out 2; have g1_3 := blk_frozen HX2.out 3; have g1_4 := blk_frozen HX2.out 4)
      refine bodyPost_ret (results_ct rfl _ _ (w.heap.size + 1) 40 #[.int .i64 2, .int .i64 e, .int .i64 a, .int .i64 b, .int .i64 0] (0, 0) _ rfl (by first | (rw [(blk_set (blk_set (blk_set (blk_set (blk_set (blk_far (blk_far HX2.out (by simp) _) (by simp) _) 0 (.int .i64 2)) 1 (.int .i64 e)) 2 (.int .i64 a)) 3 (.int .i64 b)) 4 (.int .i64 0))]; rfl) | (go_simp; done) | (simpa using heap_alloc_last (w.alloc _) _)) Try.underlying40 rfl (by kernel_rfl)) rfl ?_
      exact ⟨by rw [HF.out]; rfl, by first | exact (below_set (below_set (below_set (below_set (below_set (below_set (below_set HBW.out (by simp)) (by simp)) (by simp)) (by simp)) (by simp)) (by simp)) (by simp)) | (repeat (first | exact hHB.out | apply below_alloc | refine below_set ?_ (by first | exact Nat.le_refl _ | (simp; done) | (simp; omega))))⟩
set_option maxHeartbeats 8000000 in
set_option maxRecDepth 100000 in
theorem stamp_Step_calls (t : St) (w : World) : Calls Try.prog 38 #[stV t] w fun e w' => e = .returned (.tuple #[stV (stepC t).1, .bool (stepC t).2]) ∧ Below w.heap.size w w' := by
  obtain ⟨d, e, a, b, c⟩ := t
  show Calls Try.prog 38 #[.agg #[.int .i64 d, .int .i64 e, .int .i64 a, .int .i64 b, .int .i64 c]] w _
  have hHB := Aside0.mk (Below.refl w.heap.size w)
  have HB1 := Aside0.mk (blk_alloc (blk_new w (.cells #[.int .i64 d, .int .i64 e, .int .i64 a, .int .i64 b, .int .i64 c] 40)) (.cells #[.int .i64 0, .int .i64 0, .int .i64 0, .int .i64 0, .int .i64 0] 40))
  have HB2 := Aside0.mk (show (((w.alloc (.cells #[.int .i64 d, .int .i64 e, .int .i64 a, .int .i64 b, .int .i64 c] 40)).alloc (.cells #[.int .i64 0, .int .i64 0, .int .i64 0, .int .i64 0, .int .i64 0] 40))).heap[w.heap.size + 1]? = some (.cells #[.int .i64 0, .int .i64 0, .int .i64 0, .int .i64 0, .int .i64 0] 40 (0, 0)) by simpa using heap_alloc_last (w.alloc (.cells #[.int .i64 d, .int .i64 e, .int .i64 a, .int .i64 b, .int .i64 c] 40)) (.cells #[.int .i64 0, .int .i64 0, .int .i64 0, .int .i64 0, .int .i64 0] 40))
  have hHB2 := Aside0.mk (below_alloc (below_alloc hHB.out (.cells #[.int .i64 d, .int .i64 e, .int .i64 a, .int .i64 b, .int .i64 c] 40)) (.cells #[.int .i64 0, .int .i64 0, .int .i64 0, .int .i64 0, .int .i64 0] 40))
  have HC0 := Aside0.mk (stamp_Right_calls ⟨d, e, a, b, c⟩ (((w.alloc (.cells #[.int .i64 d, .int .i64 e, .int .i64 a, .int .i64 b, .int .i64 c] 40)).alloc (.cells #[.int .i64 0, .int .i64 0, .int .i64 0, .int .i64 0, .int .i64 0] 40))))
  simp only [stV] at HC0
  obtain ⟨rb, hrb⟩ : ∃ rb, rb = rightB ⟨d, e, a, b, c⟩ := ⟨_, rfl⟩
  rw [← hrb] at HC0
  cases rb with
  | false =>
    have HF := Aside0.mk (show stepC ⟨d, e, a, b, c⟩ = (St.zero, false) by unfold stepC; rw [if_pos hrb.symm])
    clear hrb
    go_enter Try.func38, Try.ntmps38
    go_wp2_with (go_at_call 39; refine HC0.out.mono ?_; rintro e1 w1 ⟨rfl, hb⟩; have HX1 := Aside0.mk (blk_below HB1.out hb); have HX2 := Aside0.mk (blk_below HB2.out hb); have HBW := Aside0.mk (below_step hHB2.out hb); clear hb; have p1_0 := (blk_cell HX1.out 0).trans rfl; have p1_1 := (blk_cell HX1.out 1).trans rfl; have p1_2 := (blk_cell HX1.out 2).trans rfl; have p1_3 := (blk_cell HX1.out 3).trans rfl; have p1_4 := (blk_cell HX1.out 4).trans rfl; have r1_0 := (blk_cell HX2.out 0).trans rfl; have r1_1 := (blk_cell HX2.out 1).trans rfl; have r1_2 := (blk_cell HX2.out 2).trans rfl; have r1_3 := (blk_cell HX2.out 3).trans rfl; have r1_4 := (blk_cell HX2.out 4).trans rfl; have f1_0 := blk_frozen HX1.out 0; have f1_1 := blk_frozen HX1.out 1; have f1_2 := blk_frozen HX1.out 2; have f1_3 := blk_frozen HX1.out 3; have f1_4 := blk_frozen HX1.out 4; have g1_0 := blk_frozen HX2.out 0; have g1_1 := blk_frozen HX2.out 1; have g1_2 := blk_frozen HX2.out 2; have g1_3 := blk_frozen HX2.out 3; have g1_4 := blk_frozen HX2.out 4)
    refine bodyPost_ret (results_ct rfl _ _ (w.heap.size + 1) 40 #[.int .i64 0, .int .i64 0, .int .i64 0, .int .i64 0, .int .i64 0] (0, 0) _ rfl (by first | (rw [(blk_set (blk_set (blk_set (blk_set (blk_set HX2.out 0 (.int .i64 0)) 1 (.int .i64 0)) 2 (.int .i64 0)) 3 (.int .i64 0)) 4 (.int .i64 0))]; rfl) | (go_simp; done) | (simpa using heap_alloc_last (w.alloc _) _)) Try.underlying40 rfl (by kernel_rfl)) rfl ?_
    exact ⟨by rw [HF.out]; rfl, by first | exact (below_set (below_set (below_set (below_set (below_set HBW.out (by simp)) (by simp)) (by simp)) (by simp)) (by simp)) | (repeat (first | exact hHB.out | apply below_alloc | refine below_set ?_ (by first | exact Nat.le_refl _ | (simp; done) | (simp; omega))))⟩
  | true =>
    have hin := right_in hrb.symm
    simp only at hin
    obtain ⟨i0, i1, i2, i3, i4, i5, i6, i7, i8, i9⟩ := hin
    have hd : d = 0 ∨ d = 1 ∨ d = 2 ∨ d = 3 := by omega
    rcases hd with rfl | rfl | rfl | rfl
    · have HF := Aside0.mk (show stepC ⟨0, e, a, b, c⟩ = (St.zero, false) by unfold stepC; rw [if_neg (by rw [← hrb]; simp)]; simp)
      clear hrb
      go_enter Try.func38, Try.ntmps38
      go_wp2_with (go_at_call 39; refine HC0.out.mono ?_; rintro e1 w1 ⟨rfl, hb⟩; have HX1 := Aside0.mk (blk_below HB1.out hb); have HX2 := Aside0.mk (blk_below HB2.out hb); have HBW := Aside0.mk (below_step hHB2.out hb); clear hb; have p1_0 := (blk_cell HX1.out 0).trans rfl; have p1_1 := (blk_cell HX1.out 1).trans rfl; have p1_2 := (blk_cell HX1.out 2).trans rfl; have p1_3 := (blk_cell HX1.out 3).trans rfl; have p1_4 := (blk_cell HX1.out 4).trans rfl; have r1_0 := (blk_cell HX2.out 0).trans rfl; have r1_1 := (blk_cell HX2.out 1).trans rfl; have r1_2 := (blk_cell HX2.out 2).trans rfl; have r1_3 := (blk_cell HX2.out 3).trans rfl; have r1_4 := (blk_cell HX2.out 4).trans rfl; have f1_0 := blk_frozen HX1.out 0; have f1_1 := blk_frozen HX1.out 1; have f1_2 := blk_frozen HX1.out 2; have f1_3 := blk_frozen HX1.out 3; have f1_4 := blk_frozen HX1.out 4; have g1_0 := blk_frozen HX2.out 0; have g1_1 := blk_frozen HX2.out 1; have g1_2 := blk_frozen HX2.out 2; have g1_3 := blk_frozen HX2.out 3; have g1_4 := blk_frozen HX2.out 4)
      refine bodyPost_ret (results_ct rfl _ _ (w.heap.size + 1) 40 #[.int .i64 0, .int .i64 0, .int .i64 0, .int .i64 0, .int .i64 0] (0, 0) _ rfl (by first | (rw [(blk_set (blk_set (blk_set (blk_set (blk_set HX2.out 0 (.int .i64 0)) 1 (.int .i64 0)) 2 (.int .i64 0)) 3 (.int .i64 0)) 4 (.int .i64 0))]; rfl) | (go_simp; done) | (simpa using heap_alloc_last (w.alloc _) _)) Try.underlying40 rfl (by kernel_rfl)) rfl ?_
      exact ⟨by rw [HF.out]; rfl, by first | exact (below_set (below_set (below_set (below_set (below_set HBW.out (by simp)) (by simp)) (by simp)) (by simp)) (by simp)) | (repeat (first | exact hHB.out | apply below_alloc | refine below_set ?_ (by first | exact Nat.le_refl _ | (simp; done) | (simp; omega))))⟩
    · have HC1 := Aside0.mk (fun W => stamp_Right_calls ⟨1, e, a + 1, b, c⟩ W)
      simp only [stV] at HC1
      obtain ⟨rc, hrc⟩ : ∃ rc, rc = rightB ⟨1, e, a + 1, b, c⟩ := ⟨_, rfl⟩
      rw [← hrc] at HC1
      cases rc with
      | false =>
        have HF := Aside0.mk (show stepC ⟨1, e, a, b, c⟩ = (St.zero, false) by unfold stepC; rw [if_neg (by rw [← hrb]; simp)]; simp [stepped, ← hrc])
        clear hrb hrc
        go_enter Try.func38, Try.ntmps38
        go_wp2_with (first | (go_at_call_has 39 (Value.int .i64 (a + 1)); refine (HC1.out _).mono ?_; rintro e2 w2 ⟨rfl, hb⟩; have HY1 := Aside0.mk (blk_below (blk_set HX1.out 2 (.int .i64 (a + 1))) hb); have HY2 := Aside0.mk (blk_below (blk_far HX2.out (by simp) _) hb); have HBY := Aside0.mk (below_step (below_set HBW.out (by simp)) hb); clear hb; have p2_0 := (blk_cell HY1.out 0).trans rfl; have p2_1 := (blk_cell HY1.out 1).trans rfl; have p2_2 := (blk_cell HY1.out 2).trans rfl; have p2_3 := (blk_cell HY1.out 3).trans rfl; have p2_4 := (blk_cell HY1.out 4).trans rfl; have r2_0 := (blk_cell HY2.out 0).trans rfl; have r2_1 := (blk_cell HY2.out 1).trans rfl; have r2_2 := (blk_cell HY2.out 2).trans rfl; have r2_3 := (blk_cell HY2.out 3).trans rfl; have r2_4 := (blk_cell HY2.out 4).trans rfl; have f2_0 := blk_frozen HY1.out 0; have f2_1 := blk_frozen HY1.out 1; have f2_2 := blk_frozen HY1.out 2; have f2_3 := blk_frozen HY1.out 3; have f2_4 := blk_frozen HY1.out 4; have g2_0 := blk_frozen HY2.out 0; have g2_1 := blk_frozen HY2.out 1; have g2_2 := blk_frozen HY2.out 2; have g2_3 := blk_frozen HY2.out 3; have g2_4 := blk_frozen HY2.out 4) | (go_at_call 39; refine HC0.out.mono ?_; rintro e1 w1 ⟨rfl, hb⟩; have HX1 := Aside0.mk (blk_below HB1.out hb); have HX2 := Aside0.mk (blk_below HB2.out hb); have HBW := Aside0.mk (below_step hHB2.out hb); clear hb; have p1_0 := (blk_cell HX1.out 0).trans rfl; have p1_1 := (blk_cell HX1.out 1).trans rfl; have p1_2 := (blk_cell HX1.out 2).trans rfl; have p1_3 := (blk_cell HX1.out 3).trans rfl; have p1_4 := (blk_cell HX1.out 4).trans rfl; have r1_0 := (blk_cell HX2.out 0).trans rfl; have r1_1 := (blk_cell HX2.out 1).trans rfl; have r1_2 := (blk_cell HX2.out 2).trans rfl; have r1_3 := (blk_cell HX2.out 3).trans rfl; have r1_4 := (blk_cell HX2.out 4).trans rfl; have f1_0 := blk_frozen HX1.out 0; have f1_1 := blk_frozen HX1.out 1; have f1_2 := blk_frozen HX1.out 2; have f1_3 := blk_frozen HX1.out 3; have f1_4 := blk_frozen HX1.out 4; have g1_0 := blk_frozen HX2.out 0; have g1_1 := blk_frozen HX2.out 1; have g1_2 := blk_frozen HX2.out 2; have g1_3 := blk_frozen HX2.out 3; have g1_4 := blk_frozen HX2.out 4))
        refine bodyPost_ret (results_ct rfl _ _ (w.heap.size + 1) 40 #[.int .i64 0, .int .i64 0, .int .i64 0, .int .i64 0, .int .i64 0] (0, 0) _ rfl (by first | (rw [(blk_set (blk_set (blk_set (blk_set (blk_set HY2.out 0 (.int .i64 0)) 1 (.int .i64 0)) 2 (.int .i64 0)) 3 (.int .i64 0)) 4 (.int .i64 0))]; rfl) | (go_simp; done) | (simpa using heap_alloc_last (w.alloc _) _)) Try.underlying40 rfl (by kernel_rfl)) rfl ?_
        exact ⟨by rw [HF.out]; rfl, by first | exact (below_set (below_set (below_set (below_set (below_set HBY.out (by simp)) (by simp)) (by simp)) (by simp)) (by simp)) | (repeat (first | exact hHB.out | apply below_alloc | refine below_set ?_ (by first | exact Nat.le_refl _ | (simp; done) | (simp; omega))))⟩
      | true =>
        have HF := Aside0.mk (show stepC ⟨1, e, a, b, c⟩ = (⟨1, e, a + 1, b, c⟩, true) by unfold stepC; rw [if_neg (by rw [← hrb]; simp)]; simp [stepped, ← hrc])
        clear hrb hrc
        go_enter Try.func38, Try.ntmps38
        go_wp2_with (first | (go_at_call_has 39 (Value.int .i64 (a + 1)); refine (HC1.out _).mono ?_; rintro e2 w2 ⟨rfl, hb⟩; have HY1 := Aside0.mk (blk_below (blk_set HX1.out 2 (.int .i64 (a + 1))) hb); have HY2 := Aside0.mk (blk_below (blk_far HX2.out (by simp) _) hb); have HBY := Aside0.mk (below_step (below_set HBW.out (by simp)) hb); clear hb; have p2_0 := (blk_cell HY1.out 0).trans rfl; have p2_1 := (blk_cell HY1.out 1).trans rfl; have p2_2 := (blk_cell HY1.out 2).trans rfl; have p2_3 := (blk_cell HY1.out 3).trans rfl; have p2_4 := (blk_cell HY1.out 4).trans rfl; have r2_0 := (blk_cell HY2.out 0).trans rfl; have r2_1 := (blk_cell HY2.out 1).trans rfl; have r2_2 := (blk_cell HY2.out 2).trans rfl; have r2_3 := (blk_cell HY2.out 3).trans rfl; have r2_4 := (blk_cell HY2.out 4).trans rfl; have f2_0 := blk_frozen HY1.out 0; have f2_1 := blk_frozen HY1.out 1; have f2_2 := blk_frozen HY1.out 2; have f2_3 := blk_frozen HY1.out 3; have f2_4 := blk_frozen HY1.out 4; have g2_0 := blk_frozen HY2.out 0; have g2_1 := blk_frozen HY2.out 1; have g2_2 := blk_frozen HY2.out 2; have g2_3 := blk_frozen HY2.out 3; have g2_4 := blk_frozen HY2.out 4) | (go_at_call 39; refine HC0.out.mono ?_; rintro e1 w1 ⟨rfl, hb⟩; have HX1 := Aside0.mk (blk_below HB1.out hb); have HX2 := Aside0.mk (blk_below HB2.out hb); have HBW := Aside0.mk (below_step hHB2.out hb); clear hb; have p1_0 := (blk_cell HX1.out 0).trans rfl; have p1_1 := (blk_cell HX1.out 1).trans rfl; have p1_2 := (blk_cell HX1.out 2).trans rfl; have p1_3 := (blk_cell HX1.out 3).trans rfl; have p1_4 := (blk_cell HX1.out 4).trans rfl; have r1_0 := (blk_cell HX2.out 0).trans rfl; have r1_1 := (blk_cell HX2.out 1).trans rfl; have r1_2 := (blk_cell HX2.out 2).trans rfl; have r1_3 := (blk_cell HX2.out 3).trans rfl; have r1_4 := (blk_cell HX2.out 4).trans rfl; have f1_0 := blk_frozen HX1.out 0; have f1_1 := blk_frozen HX1.out 1; have f1_2 := blk_frozen HX1.out 2; have f1_3 := blk_frozen HX1.out 3; have f1_4 := blk_frozen HX1.out 4; have g1_0 := blk_frozen HX2.out 0; have g1_1 := blk_frozen HX2.out 1; have g1_2 := blk_frozen HX2.out 2; have g1_3 := blk_frozen HX2.out 3; have g1_4 := blk_frozen HX2.out 4))
        refine bodyPost_ret (results_ct rfl _ _ (w.heap.size + 1) 40 #[.int .i64 1, .int .i64 e, .int .i64 (a + 1), .int .i64 b, .int .i64 c] (0, 0) _ rfl (by first | (rw [(blk_set (blk_set (blk_set (blk_set (blk_set HY2.out 0 (.int .i64 1)) 1 (.int .i64 e)) 2 (.int .i64 (a + 1))) 3 (.int .i64 b)) 4 (.int .i64 c))]; rfl) | (go_simp; done) | (simpa using heap_alloc_last (w.alloc _) _)) Try.underlying40 rfl (by kernel_rfl)) rfl ?_
        exact ⟨by rw [HF.out]; rfl, by first | exact (below_set (below_set (below_set (below_set (below_set HBY.out (by simp)) (by simp)) (by simp)) (by simp)) (by simp)) | (repeat (first | exact hHB.out | apply below_alloc | refine below_set ?_ (by first | exact Nat.le_refl _ | (simp; done) | (simp; omega))))⟩
    · have HC1 := Aside0.mk (fun W => stamp_Right_calls ⟨2, e, a, b + 1, c⟩ W)
      simp only [stV] at HC1
      obtain ⟨rc, hrc⟩ : ∃ rc, rc = rightB ⟨2, e, a, b + 1, c⟩ := ⟨_, rfl⟩
      rw [← hrc] at HC1
      cases rc with
      | false =>
        have HF := Aside0.mk (show stepC ⟨2, e, a, b, c⟩ = (St.zero, false) by unfold stepC; rw [if_neg (by rw [← hrb]; simp)]; simp [stepped, ← hrc])
        clear hrb hrc
        go_enter Try.func38, Try.ntmps38
        go_wp2_with (first | (go_at_call_has 39 (Value.int .i64 (b + 1)); refine (HC1.out _).mono ?_; rintro e2 w2 ⟨rfl, hb⟩; have HY1 := Aside0.mk (blk_below (blk_set HX1.out 3 (.int .i64 (b + 1))) hb); have HY2 := Aside0.mk (blk_below (blk_far HX2.out (by simp) _) hb); have HBY := Aside0.mk (below_step (below_set HBW.out (by simp)) hb); clear hb; have p2_0 := (blk_cell HY1.out 0).trans rfl; have p2_1 := (blk_cell HY1.out 1).trans rfl; have p2_2 := (blk_cell HY1.out 2).trans rfl; have p2_3 := (blk_cell HY1.out 3).trans rfl; have p2_4 := (blk_cell HY1.out 4).trans rfl; have r2_0 := (blk_cell HY2.out 0).trans rfl; have r2_1 := (blk_cell HY2.out 1).trans rfl; have r2_2 := (blk_cell HY2.out 2).trans rfl; have r2_3 := (blk_cell HY2.out 3).trans rfl; have r2_4 := (blk_cell HY2.out 4).trans rfl; have f2_0 := blk_frozen HY1.out 0; have f2_1 := blk_frozen HY1.out 1; have f2_2 := blk_frozen HY1.out 2; have f2_3 := blk_frozen HY1.out 3; have f2_4 := blk_frozen HY1.out 4; have g2_0 := blk_frozen HY2.out 0; have g2_1 := blk_frozen HY2.out 1; have g2_2 := blk_frozen HY2.out 2; have g2_3 := blk_frozen HY2.out 3; have g2_4 := blk_frozen HY2.out 4) | (go_at_call 39; refine HC0.out.mono ?_; rintro e1 w1 ⟨rfl, hb⟩; have HX1 := Aside0.mk (blk_below HB1.out hb); have HX2 := Aside0.mk (blk_below HB2.out hb); have HBW := Aside0.mk (below_step hHB2.out hb); clear hb; have p1_0 := (blk_cell HX1.out 0).trans rfl; have p1_1 := (blk_cell HX1.out 1).trans rfl; have p1_2 := (blk_cell HX1.out 2).trans rfl; have p1_3 := (blk_cell HX1.out 3).trans rfl; have p1_4 := (blk_cell HX1.out 4).trans rfl; have r1_0 := (blk_cell HX2.out 0).trans rfl; have r1_1 := (blk_cell HX2.out 1).trans rfl; have r1_2 := (blk_cell HX2.out 2).trans rfl; have r1_3 := (blk_cell HX2.out 3).trans rfl; have r1_4 := (blk_cell HX2.out 4).trans rfl; have f1_0 := blk_frozen HX1.out 0; have f1_1 := blk_frozen HX1.out 1; have f1_2 := blk_frozen HX1.out 2; have f1_3 := blk_frozen HX1.out 3; have f1_4 := blk_frozen HX1.out 4; have g1_0 := blk_frozen HX2.out 0; have g1_1 := blk_frozen HX2.out 1; have g1_2 := blk_frozen HX2.out 2; have g1_3 := blk_frozen HX2.out 3; have g1_4 := blk_frozen HX2.out 4))
        refine bodyPost_ret (results_ct rfl _ _ (w.heap.size + 1) 40 #[.int .i64 0, .int .i64 0, .int .i64 0, .int .i64 0, .int .i64 0] (0, 0) _ rfl (by first | (rw [(blk_set (blk_set (blk_set (blk_set (blk_set HY2.out 0 (.int .i64 0)) 1 (.int .i64 0)) 2 (.int .i64 0)) 3 (.int .i64 0)) 4 (.int .i64 0))]; rfl) | (go_simp; done) | (simpa using heap_alloc_last (w.alloc _) _)) Try.underlying40 rfl (by kernel_rfl)) rfl ?_
        exact ⟨by rw [HF.out]; rfl, by first | exact (below_set (below_set (below_set (below_set (below_set HBY.out (by simp)) (by simp)) (by simp)) (by simp)) (by simp)) | (repeat (first | exact hHB.out | apply below_alloc | refine below_set ?_ (by first | exact Nat.le_refl _ | (simp; done) | (simp; omega))))⟩
      | true =>
        have HF := Aside0.mk (show stepC ⟨2, e, a, b, c⟩ = (⟨2, e, a, b + 1, c⟩, true) by unfold stepC; rw [if_neg (by rw [← hrb]; simp)]; simp [stepped, ← hrc])
        clear hrb hrc
        go_enter Try.func38, Try.ntmps38
        go_wp2_with (first | (go_at_call_has 39 (Value.int .i64 (b + 1)); refine (HC1.out _).mono ?_; rintro e2 w2 ⟨rfl, hb⟩; have HY1 := Aside0.mk (blk_below (blk_set HX1.out 3 (.int .i64 (b + 1))) hb); have HY2 := Aside0.mk (blk_below (blk_far HX2.out (by simp) _) hb); have HBY := Aside0.mk (below_step (below_set HBW.out (by simp)) hb); clear hb; have p2_0 := (blk_cell HY1.out 0).trans rfl; have p2_1 := (blk_cell HY1.out 1).trans rfl; have p2_2 := (blk_cell HY1.out 2).trans rfl; have p2_3 := (blk_cell HY1.out 3).trans rfl; have p2_4 := (blk_cell HY1.out 4).trans rfl; have r2_0 := (blk_cell HY2.out 0).trans rfl; have r2_1 := (blk_cell HY2.out 1).trans rfl; have r2_2 := (blk_cell HY2.out 2).trans rfl; have r2_3 := (blk_cell HY2.out 3).trans rfl; have r2_4 := (blk_cell HY2.out 4).trans rfl; have f2_0 := blk_frozen HY1.out 0; have f2_1 := blk_frozen HY1.out 1; have f2_2 := blk_frozen HY1.out 2; have f2_3 := blk_frozen HY1.out 3; have f2_4 := blk_frozen HY1.out 4; have g2_0 := blk_frozen HY2.out 0; have g2_1 := blk_frozen HY2.out 1; have g2_2 := blk_frozen HY2.out 2; have g2_3 := blk_frozen HY2.out 3; have g2_4 := blk_frozen HY2.out 4) | (go_at_call 39; refine HC0.out.mono ?_; rintro e1 w1 ⟨rfl, hb⟩; have HX1 := Aside0.mk (blk_below HB1.out hb); have HX2 := Aside0.mk (blk_below HB2.out hb); have HBW := Aside0.mk (below_step hHB2.out hb); clear hb; have p1_0 := (blk_cell HX1.out 0).trans rfl; have p1_1 := (blk_cell HX1.out 1).trans rfl; have p1_2 := (blk_cell HX1.out 2).trans rfl; have p1_3 := (blk_cell HX1.out 3).trans rfl; have p1_4 := (blk_cell HX1.out 4).trans rfl; have r1_0 := (blk_cell HX2.out 0).trans rfl; have r1_1 := (blk_cell HX2.out 1).trans rfl; have r1_2 := (blk_cell HX2.out 2).trans rfl; have r1_3 := (blk_cell HX2.out 3).trans rfl; have r1_4 := (blk_cell HX2.out 4).trans rfl; have f1_0 := blk_frozen HX1.out 0; have f1_1 := blk_frozen HX1.out 1; have f1_2 := blk_frozen HX1.out 2; have f1_3 := blk_frozen HX1.out 3; have f1_4 := blk_frozen HX1.out 4; have g1_0 := blk_frozen HX2.out 0; have g1_1 := blk_frozen HX2.out 1; have g1_2 := blk_frozen HX2.out 2; have g1_3 := blk_frozen HX2.out 3; have g1_4 := blk_frozen HX2.out 4))
        refine bodyPost_ret (results_ct rfl _ _ (w.heap.size + 1) 40 #[.int .i64 2, .int .i64 e, .int .i64 a, .int .i64 (b + 1), .int .i64 c] (0, 0) _ rfl (by first | (rw [(blk_set (blk_set (blk_set (blk_set (blk_set HY2.out 0 (.int .i64 2)) 1 (.int .i64 e)) 2 (.int .i64 a)) 3 (.int .i64 (b + 1))) 4 (.int .i64 c))]; rfl) | (go_simp; done) | (simpa using heap_alloc_last (w.alloc _) _)) Try.underlying40 rfl (by kernel_rfl)) rfl ?_
        exact ⟨by rw [HF.out]; rfl, by first | exact (below_set (below_set (below_set (below_set (below_set HBY.out (by simp)) (by simp)) (by simp)) (by simp)) (by simp)) | (repeat (first | exact hHB.out | apply below_alloc | refine below_set ?_ (by first | exact Nat.le_refl _ | (simp; done) | (simp; omega))))⟩
    · have HC1 := Aside0.mk (fun W => stamp_Right_calls ⟨3, e, a, b, c + 1⟩ W)
      simp only [stV] at HC1
      obtain ⟨rc, hrc⟩ : ∃ rc, rc = rightB ⟨3, e, a, b, c + 1⟩ := ⟨_, rfl⟩
      rw [← hrc] at HC1
      cases rc with
      | false =>
        have HF := Aside0.mk (show stepC ⟨3, e, a, b, c⟩ = (St.zero, false) by unfold stepC; rw [if_neg (by rw [← hrb]; simp)]; simp [stepped, ← hrc])
        clear hrb hrc
        go_enter Try.func38, Try.ntmps38
        go_wp2_with (first | (go_at_call_has 39 (Value.int .i64 (c + 1)); refine (HC1.out _).mono ?_; rintro e2 w2 ⟨rfl, hb⟩; have HY1 := Aside0.mk (blk_below (blk_set HX1.out 4 (.int .i64 (c + 1))) hb); have HY2 := Aside0.mk (blk_below (blk_far HX2.out (by simp) _) hb); have HBY := Aside0.mk (below_step (below_set HBW.out (by simp)) hb); clear hb; have p2_0 := (blk_cell HY1.out 0).trans rfl; have p2_1 := (blk_cell HY1.out 1).trans rfl; have p2_2 := (blk_cell HY1.out 2).trans rfl; have p2_3 := (blk_cell HY1.out 3).trans rfl; have p2_4 := (blk_cell HY1.out 4).trans rfl; have r2_0 := (blk_cell HY2.out 0).trans rfl; have r2_1 := (blk_cell HY2.out 1).trans rfl; have r2_2 := (blk_cell HY2.out 2).trans rfl; have r2_3 := (blk_cell HY2.out 3).trans rfl; have r2_4 := (blk_cell HY2.out 4).trans rfl; have f2_0 := blk_frozen HY1.out 0; have f2_1 := blk_frozen HY1.out 1; have f2_2 := blk_frozen HY1.out 2; have f2_3 := blk_frozen HY1.out 3; have f2_4 := blk_frozen HY1.out 4; have g2_0 := blk_frozen HY2.out 0; have g2_1 := blk_frozen HY2.out 1; have g2_2 := blk_frozen HY2.out 2; have g2_3 := blk_frozen HY2.out 3; have g2_4 := blk_frozen HY2.out 4) | (go_at_call 39; refine HC0.out.mono ?_; rintro e1 w1 ⟨rfl, hb⟩; have HX1 := Aside0.mk (blk_below HB1.out hb); have HX2 := Aside0.mk (blk_below HB2.out hb); have HBW := Aside0.mk (below_step hHB2.out hb); clear hb; have p1_0 := (blk_cell HX1.out 0).trans rfl; have p1_1 := (blk_cell HX1.out 1).trans rfl; have p1_2 := (blk_cell HX1.out 2).trans rfl; have p1_3 := (blk_cell HX1.out 3).trans rfl; have p1_4 := (blk_cell HX1.out 4).trans rfl; have r1_0 := (blk_cell HX2.out 0).trans rfl; have r1_1 := (blk_cell HX2.out 1).trans rfl; have r1_2 := (blk_cell HX2.out 2).trans rfl; have r1_3 := (blk_cell HX2.out 3).trans rfl; have r1_4 := (blk_cell HX2.out 4).trans rfl; have f1_0 := blk_frozen HX1.out 0; have f1_1 := blk_frozen HX1.out 1; have f1_2 := blk_frozen HX1.out 2; have f1_3 := blk_frozen HX1.out 3; have f1_4 := blk_frozen HX1.out 4; have g1_0 := blk_frozen HX2.out 0; have g1_1 := blk_frozen HX2.out 1; have g1_2 := blk_frozen HX2.out 2; have g1_3 := blk_frozen HX2.out 3; have g1_4 := blk_frozen HX2.out 4))
        refine bodyPost_ret (results_ct rfl _ _ (w.heap.size + 1) 40 #[.int .i64 0, .int .i64 0, .int .i64 0, .int .i64 0, .int .i64 0] (0, 0) _ rfl (by first | (rw [(blk_set (blk_set (blk_set (blk_set (blk_set HY2.out 0 (.int .i64 0)) 1 (.int .i64 0)) 2 (.int .i64 0)) 3 (.int .i64 0)) 4 (.int .i64 0))]; rfl) | (go_simp; done) | (simpa using heap_alloc_last (w.alloc _) _)) Try.underlying40 rfl (by kernel_rfl)) rfl ?_
        exact ⟨by rw [HF.out]; rfl, by first | exact (below_set (below_set (below_set (below_set (below_set HBY.out (by simp)) (by simp)) (by simp)) (by simp)) (by simp)) | (repeat (first | exact hHB.out | apply below_alloc | refine below_set ?_ (by first | exact Nat.le_refl _ | (simp; done) | (simp; omega))))⟩
      | true =>
        have HF := Aside0.mk (show stepC ⟨3, e, a, b, c⟩ = (⟨3, e, a, b, c + 1⟩, true) by unfold stepC; rw [if_neg (by rw [← hrb]; simp)]; simp [stepped, ← hrc])
        clear hrb hrc
        go_enter Try.func38, Try.ntmps38
        go_wp2_with (first | (go_at_call_has 39 (Value.int .i64 (c + 1)); refine (HC1.out _).mono ?_; rintro e2 w2 ⟨rfl, hb⟩; have HY1 := Aside0.mk (blk_below (blk_set HX1.out 4 (.int .i64 (c + 1))) hb); have HY2 := Aside0.mk (blk_below (blk_far HX2.out (by simp) _) hb); have HBY := Aside0.mk (below_step (below_set HBW.out (by simp)) hb); clear hb; have p2_0 := (blk_cell HY1.out 0).trans rfl; have p2_1 := (blk_cell HY1.out 1).trans rfl; have p2_2 := (blk_cell HY1.out 2).trans rfl; have p2_3 := (blk_cell HY1.out 3).trans rfl; have p2_4 := (blk_cell HY1.out 4).trans rfl; have r2_0 := (blk_cell HY2.out 0).trans rfl; have r2_1 := (blk_cell HY2.out 1).trans rfl; have r2_2 := (blk_cell HY2.out 2).trans rfl; have r2_3 := (blk_cell HY2.out 3).trans rfl; have r2_4 := (blk_cell HY2.out 4).trans rfl; have f2_0 := blk_frozen HY1.out 0; have f2_1 := blk_frozen HY1.out 1; have f2_2 := blk_frozen HY1.out 2; have f2_3 := blk_frozen HY1.out 3; have f2_4 := blk_frozen HY1.out 4; have g2_0 := blk_frozen HY2.out 0; have g2_1 := blk_frozen HY2.out 1; have g2_2 := blk_frozen HY2.out 2; have g2_3 := blk_frozen HY2.out 3; have g2_4 := blk_frozen HY2.out 4) | (go_at_call 39; refine HC0.out.mono ?_; rintro e1 w1 ⟨rfl, hb⟩; have HX1 := Aside0.mk (blk_below HB1.out hb); have HX2 := Aside0.mk (blk_below HB2.out hb); have HBW := Aside0.mk (below_step hHB2.out hb); clear hb; have p1_0 := (blk_cell HX1.out 0).trans rfl; have p1_1 := (blk_cell HX1.out 1).trans rfl; have p1_2 := (blk_cell HX1.out 2).trans rfl; have p1_3 := (blk_cell HX1.out 3).trans rfl; have p1_4 := (blk_cell HX1.out 4).trans rfl; have r1_0 := (blk_cell HX2.out 0).trans rfl; have r1_1 := (blk_cell HX2.out 1).trans rfl; have r1_2 := (blk_cell HX2.out 2).trans rfl; have r1_3 := (blk_cell HX2.out 3).trans rfl; have r1_4 := (blk_cell HX2.out 4).trans rfl; have f1_0 := blk_frozen HX1.out 0; have f1_1 := blk_frozen HX1.out 1; have f1_2 := blk_frozen HX1.out 2; have f1_3 := blk_frozen HX1.out 3; have f1_4 := blk_frozen HX1.out 4; have g1_0 := blk_frozen HX2.out 0; have g1_1 := blk_frozen HX2.out 1; have g1_2 := blk_frozen HX2.out 2; have g1_3 := blk_frozen HX2.out 3; have g1_4 := blk_frozen HX2.out 4))
        refine bodyPost_ret (results_ct rfl _ _ (w.heap.size + 1) 40 #[.int .i64 3, .int .i64 e, .int .i64 a, .int .i64 b, .int .i64 (c + 1)] (0, 0) _ rfl (by first | (rw [(blk_set (blk_set (blk_set (blk_set (blk_set HY2.out 0 (.int .i64 3)) 1 (.int .i64 e)) 2 (.int .i64 a)) 3 (.int .i64 b)) 4 (.int .i64 (c + 1)))]; rfl) | (go_simp; done) | (simpa using heap_alloc_last (w.alloc _) _)) Try.underlying40 rfl (by kernel_rfl)) rfl ?_
        exact ⟨by rw [HF.out]; rfl, by first | exact (below_set (below_set (below_set (below_set (below_set HBY.out (by simp)) (by simp)) (by simp)) (by simp)) (by simp)) | (repeat (first | exact hHB.out | apply below_alloc | refine below_set ?_ (by first | exact Nat.le_refl _ | (simp; done) | (simp; omega))))⟩
end Go.Proofs.Ytcihpjkjodhdpaa.X
namespace Go.Proofs.Ytcihpjkjodhdpaa.X
set_option linter.unusedVariables false
set_option linter.unusedSimpArgs false
open Go.RowKit Go.Proofs.YtcihpjkjodhdpaaW.PrintWords Go.Proofs.YtcihpjkjodhdpaaW.PrintLast Go.Proofs.YtcihpjkjodhdpaaW.PrintMore
theorem step_ok (t : St) (h : (stepC t).2 = true) : (stepC t).1.d = 1 ∨ (stepC t).1.d = 2 ∨ (stepC t).1.d = 3 := by
  unfold stepC at *
  by_cases h1 : rightB t = false
  · rw [if_pos h1] at h; cases h
  rw [if_neg h1] at h ⊢
  by_cases h2 : t.d = 0
  · rw [if_pos h2] at h; cases h
  rw [if_neg h2] at h ⊢
  by_cases h3 : rightB (stepped t) = false
  · rw [if_pos h3] at h; cases h
  rw [if_neg h3]
  have h4 := right_in (t := t) (by simpa using h1)
  show t.d = 1 ∨ t.d = 2 ∨ t.d = 3
  omega
def timeC (k b : Int) (t : St) : St × Bool :=
  if k = 7 then intoC t else if k = 8 then outC t else if k = 9 then (if (stepC t).2 = false then (St.zero, false) else if (stepC t).1.loop ((stepC t).1.d - 1).toNat ≥ b then (St.zero, false) else ((stepC t).1, true))
  else if rightB t = false then (St.zero, false) else (t, true)
def otime.T8 : Bool × List (List Nat × List Nat) := (true, [([], []), ([0], [0]), ([1], [1]), ([2], [2]), ([3, 2], [2, 3]), ([4, 2], [2, 4]), ([2], [2]), ([6, 5, 2], [2, 5, 6]), ([7, 2], [2, 7]), ([2], [2]), ([9, 2], [2, 9]), ([8, 10, 2], [2, 8, 10]), ([2, 11], [2, 11])])
def otime.B8 : List Nat := [0, 1, 3, 7, 15, 31, 7, 127, 255, 7, 519, 2047, 4095]
theorem otime.tab8 : rtab .any (opsOf Try.f17 8) = otime.T8 := by kernel_rfl
theorem otime.bits8 : waitsOk otime.T8.2 otime.B8 = true := by kernel_rfl
set_option maxHeartbeats 8000000 in
set_option maxRecDepth 100000 in
theorem opers_Time_calls (n0 n1 n2 n3 : Int) (A4 : Option Addr) (m4 c4 : Nat) (t : St) (w : World) : Calls Try.prog 17 #[.agg #[.int .u8 n0, .int .u8 n1, .int .i64 n2, .int .i64 n3, .slice A4 m4 c4], stV t] w fun e w' => e = .returned (.tuple #[stV (timeC n0 n2 t).1, .bool (timeC n0 n2 t).2]) ∧ Below w.heap.size w w' := by
  obtain ⟨d, e, a, b, c⟩ := t
  show Calls Try.prog 17 #[.agg #[.int .u8 n0, .int .u8 n1, .int .i64 n2, .int .i64 n3, .slice A4 m4 c4], .agg #[.int .i64 d, .int .i64 e, .int .i64 a, .int .i64 b, .int .i64 c]] w _
  by_cases k7 : n0 = 7
  · subst k7
    have HBN := Aside0.mk (blk_alloc (blk_alloc (blk_new w (.cells #[.int .u8 7, .int .u8 n1, .int .i64 n2, .int .i64 n3, .slice A4 m4 c4] 24)) (.cells #[.int .i64 d, .int .i64 e, .int .i64 a, .int .i64 b, .int .i64 c] 40)) (.cells #[.int .i64 0, .int .i64 0, .int .i64 0, .int .i64 0, .int .i64 0] 40))
    have HB1 := Aside0.mk (show ((((w.alloc (.cells #[.int .u8 7, .int .u8 n1, .int .i64 n2, .int .i64 n3, .slice A4 m4 c4] 24)).alloc (.cells #[.int .i64 d, .int .i64 e, .int .i64 a, .int .i64 b, .int .i64 c] 40)).alloc (.cells #[.int .i64 0, .int .i64 0, .int .i64 0, .int .i64 0, .int .i64 0] 40))).heap[w.heap.size + 1]? = some (.cells #[.int .i64 d, .int .i64 e, .int .i64 a, .int .i64 b, .int .i64 c] 40 (0, 0)) from blk_alloc (by simpa using heap_alloc_last (w.alloc (.cells #[.int .u8 7, .int .u8 n1, .int .i64 n2, .int .i64 n3, .slice A4 m4 c4] 24)) (.cells #[.int .i64 d, .int .i64 e, .int .i64 a, .int .i64 b, .int .i64 c] 40)) _)
    have HB2 := Aside0.mk (show ((((w.alloc (.cells #[.int .u8 7, .int .u8 n1, .int .i64 n2, .int .i64 n3, .slice A4 m4 c4] 24)).alloc (.cells #[.int .i64 d, .int .i64 e, .int .i64 a, .int .i64 b, .int .i64 c] 40)).alloc (.cells #[.int .i64 0, .int .i64 0, .int .i64 0, .int .i64 0, .int .i64 0] 40))).heap[w.heap.size + 2]? = some (.cells #[.int .i64 0, .int .i64 0, .int .i64 0, .int .i64 0, .int .i64 0] 40 (0, 0)) by simpa using heap_alloc_last ((w.alloc (.cells #[.int .u8 7, .int .u8 n1, .int .i64 n2, .int .i64 n3, .slice A4 m4 c4] 24)).alloc (.cells #[.int .i64 d, .int .i64 e, .int .i64 a, .int .i64 b, .int .i64 c] 40)) (.cells #[.int .i64 0, .int .i64 0, .int .i64 0, .int .i64 0, .int .i64 0] 40))
    have hHB2 := Aside0.mk (below_alloc (below_alloc (below_alloc (Below.refl w.heap.size w) (.cells #[.int .u8 7, .int .u8 n1, .int .i64 n2, .int .i64 n3, .slice A4 m4 c4] 24)) (.cells #[.int .i64 d, .int .i64 e, .int .i64 a, .int .i64 b, .int .i64 c] 40)) (.cells #[.int .i64 0, .int .i64 0, .int .i64 0, .int .i64 0, .int .i64 0] 40))
    have HC0 := Aside0.mk (stamp_Into_calls ⟨d, e, a, b, c⟩ ((((w.alloc (.cells #[.int .u8 7, .int .u8 n1, .int .i64 n2, .int .i64 n3, .slice A4 m4 c4] 24)).alloc (.cells #[.int .i64 d, .int .i64 e, .int .i64 a, .int .i64 b, .int .i64 c] 40)).alloc (.cells #[.int .i64 0, .int .i64 0, .int .i64 0, .int .i64 0, .int .i64 0] 40))))
    have HF := Aside0.mk (show timeC 7 n2 ⟨d, e, a, b, c⟩ = intoC ⟨d, e, a, b, c⟩ by simp [timeC])
    generalize intoC ⟨d, e, a, b, c⟩ = u at HC0 HF
    obtain ⟨⟨u0, u1, u2, u3, u4⟩, r⟩ := u
    simp only [stV] at HC0
    go_enter Try.func17, Try.ntmps17
    go_wp2_with (go_at_call 36; refine HC0.out.mono ?_; rintro e1 w1 ⟨rfl, hb⟩; have HX1 := Aside0.mk (blk_below HB1.out hb); have HX2 := Aside0.mk (blk_below HB2.out hb); have HBW := Aside0.mk (below_step hHB2.out hb); clear hb; have p1_0 := (blk_cell HX1.out 0).trans rfl; have p1_1 := (blk_cell HX1.out 1).trans rfl; have p1_2 := (blk_cell HX1.out 2).trans rfl; have p1_3 := (blk_cell HX1.out 3).trans rfl; have p1_4 := (blk_cell HX1.out 4).trans rfl; have r1_0 := (blk_cell HX2.out 0).trans rfl; have r1_1 := (blk_cell HX2.out 1).trans rfl; have r1_2 := (blk_cell HX2.out 2).trans rfl; have r1_3 := (blk_cell HX2.out 3).trans rfl; have r1_4 := (blk_cell HX2.out 4).trans rfl; have f1_0 := blk_frozen HX1.out 0; have f1_1 := blk_frozen HX1.out 1; have f1_2 := blk_frozen HX1.out 2; have f1_3 := blk_frozen HX1.out 3; have f1_4 := blk_frozen HX1.out 4; have g1_0 := blk_frozen HX2.out 0; have g1_1 := blk_frozen HX2.out 1; have g1_2 := blk_frozen HX2.out 2; have g1_3 := blk_frozen HX2.out 3; have g1_4 := blk_frozen HX2.out 4)
    refine bodyPost_ret (results_ct rfl _ _ (w.heap.size + 2) 40 #[.int .i64 u0, .int .i64 u1, .int .i64 u2, .int .i64 u3, .int .i64 u4] (0, 0) _ rfl (by rw [(blk_set (blk_set (blk_set (blk_set (blk_set HX2.out 0 (.int .i64 u0)) 1 (.int .i64 u1)) 2 (.int .i64 u2)) 3 (.int .i64 u3)) 4 (.int .i64 u4))]; rfl) Try.underlying40 rfl (by kernel_rfl)) rfl ?_
    exact ⟨by rw [HF.out]; rfl, (below_set (below_set (below_set (below_set (below_set HBW.out (by show w.heap.size ≤ w.heap.size + 2; omega)) (by show w.heap.size ≤ w.heap.size + 2; omega)) (by show w.heap.size ≤ w.heap.size + 2; omega)) (by show w.heap.size ≤ w.heap.size + 2; omega)) (by show w.heap.size ≤ w.heap.size + 2; omega))⟩
  by_cases k8 : n0 = 8
  · subst k8
    have HBN := Aside0.mk (blk_alloc (blk_alloc (blk_new w (.cells #[.int .u8 8, .int .u8 n1, .int .i64 n2, .int .i64 n3, .slice A4 m4 c4] 24)) (.cells #[.int .i64 d, .int .i64 e, .int .i64 a, .int .i64 b, .int .i64 c] 40)) (.cells #[.int .i64 0, .int .i64 0, .int .i64 0, .int .i64 0, .int .i64 0] 40))
    have HB1 := Aside0.mk (show ((((w.alloc (.cells #[.int .u8 8, .int .u8 n1, .int .i64 n2, .int .i64 n3, .slice A4 m4 c4] 24)).alloc (.cells #[.int .i64 d, .int .i64 e, .int .i64 a, .int .i64 b, .int .i64 c] 40)).alloc (.cells #[.int .i64 0, .int .i64 0, .int .i64 0, .int .i64 0, .int .i64 0] 40))).heap[w.heap.size + 1]? = some (.cells #[.int .i64 d, .int .i64 e, .int .i64 a, .int .i64 b, .int .i64 c] 40 (0, 0)) from blk_alloc (by simpa using heap_alloc_last (w.alloc (.cells #[.int .u8 8, .int .u8 n1, .int .i64 n2, .int .i64 n3, .slice A4 m4 c4] 24)) (.cells #[.int .i64 d, .int .i64 e, .int .i64 a, .int .i64 b, .int .i64 c] 40)) _)
    have HB2 := Aside0.mk (show ((((w.alloc (.cells #[.int .u8 8, .int .u8 n1, .int .i64 n2, .int .i64 n3, .slice A4 m4 c4] 24)).alloc (.cells #[.int .i64 d, .int .i64 e, .int .i64 a, .int .i64 b, .int .i64 c] 40)).alloc (.cells #[.int .i64 0, .int .i64 0, .int .i64 0, .int .i64 0, .int .i64 0] 40))).heap[w.heap.size + 2]? = some (.cells #[.int .i64 0, .int .i64 0, .int .i64 0, .int .i64 0, .int .i64 0] 40 (0, 0)) by simpa using heap_alloc_last ((w.alloc (.cells #[.int .u8 8, .int .u8 n1, .int .i64 n2, .int .i64 n3, .slice A4 m4 c4] 24)).alloc (.cells #[.int .i64 d, .int .i64 e, .int .i64 a, .int .i64 b, .int .i64 c] 40)) (.cells #[.int .i64 0, .int .i64 0, .int .i64 0, .int .i64 0, .int .i64 0] 40))
    have hHB2 := Aside0.mk (below_alloc (below_alloc (below_alloc (Below.refl w.heap.size w) (.cells #[.int .u8 8, .int .u8 n1, .int .i64 n2, .int .i64 n3, .slice A4 m4 c4] 24)) (.cells #[.int .i64 d, .int .i64 e, .int .i64 a, .int .i64 b, .int .i64 c] 40)) (.cells #[.int .i64 0, .int .i64 0, .int .i64 0, .int .i64 0, .int .i64 0] 40))
    have HC0 := Aside0.mk (stamp_Out_calls ⟨d, e, a, b, c⟩ ((((w.alloc (.cells #[.int .u8 8, .int .u8 n1, .int .i64 n2, .int .i64 n3, .slice A4 m4 c4] 24)).alloc (.cells #[.int .i64 d, .int .i64 e, .int .i64 a, .int .i64 b, .int .i64 c] 40)).alloc (.cells #[.int .i64 0, .int .i64 0, .int .i64 0, .int .i64 0, .int .i64 0] 40))))
    have HF := Aside0.mk (show timeC 8 n2 ⟨d, e, a, b, c⟩ = outC ⟨d, e, a, b, c⟩ by simp [timeC])
    generalize outC ⟨d, e, a, b, c⟩ = u at HC0 HF
    obtain ⟨⟨u0, u1, u2, u3, u4⟩, r⟩ := u
    simp only [stV] at HC0
    go_enter Try.func17, Try.ntmps17
    go_wp2_with (go_at_call 37; refine HC0.out.mono ?_; rintro e1 w1 ⟨rfl, hb⟩; have HX1 := Aside0.mk (blk_below HB1.out hb); have HX2 := Aside0.mk (blk_below HB2.out hb); have HBW := Aside0.mk (below_step hHB2.out hb); clear hb; have p1_0 := (blk_cell HX1.out 0).trans rfl; have p1_1 := (blk_cell HX1.out 1).trans rfl; have p1_2 := (blk_cell HX1.out 2).trans rfl; have p1_3 := (blk_cell HX1.out 3).trans rfl; have p1_4 := (blk_cell HX1.out 4).trans rfl; have r1_0 := (blk_cell HX2.out 0).trans rfl; have r1_1 := (blk_cell HX2.out 1).trans rfl; have r1_2 := (blk_cell HX2.out 2).trans rfl; have r1_3 := (blk_cell HX2.out 3).trans rfl; have r1_4 := (blk_cell HX2.out 4).trans rfl; have f1_0 := blk_frozen HX1.out 0; have f1_1 := blk_frozen HX1.out 1; have f1_2 := blk_frozen HX1.out 2; have f1_3 := blk_frozen HX1.out 3; have f1_4 := blk_frozen HX1.out 4; have g1_0 := blk_frozen HX2.out 0; have g1_1 := blk_frozen HX2.out 1; have g1_2 := blk_frozen HX2.out 2; have g1_3 := blk_frozen HX2.out 3; have g1_4 := blk_frozen HX2.out 4)
    refine bodyPost_ret (results_ct rfl _ _ (w.heap.size + 2) 40 #[.int .i64 u0, .int .i64 u1, .int .i64 u2, .int .i64 u3, .int .i64 u4] (0, 0) _ rfl (by rw [(blk_set (blk_set (blk_set (blk_set (blk_set HX2.out 0 (.int .i64 u0)) 1 (.int .i64 u1)) 2 (.int .i64 u2)) 3 (.int .i64 u3)) 4 (.int .i64 u4))]; rfl) Try.underlying40 rfl (by kernel_rfl)) rfl ?_
    exact ⟨by rw [HF.out]; rfl, (below_set (below_set (below_set (below_set (below_set HBW.out (by show w.heap.size ≤ w.heap.size + 2; omega)) (by show w.heap.size ≤ w.heap.size + 2; omega)) (by show w.heap.size ≤ w.heap.size + 2; omega)) (by show w.heap.size ≤ w.heap.size + 2; omega)) (by show w.heap.size ≤ w.heap.size + 2; omega))⟩
  by_cases k9 : n0 = 9
  · subst k9
    have HBN := Aside0.mk (blk_alloc (blk_alloc (blk_new w (.cells #[.int .u8 9, .int .u8 n1, .int .i64 n2, .int .i64 n3, .slice A4 m4 c4] 24)) (.cells #[.int .i64 d, .int .i64 e, .int .i64 a, .int .i64 b, .int .i64 c] 40)) (.cells #[.int .i64 0, .int .i64 0, .int .i64 0, .int .i64 0, .int .i64 0] 40))
    have HB1 := Aside0.mk (show ((((w.alloc (.cells #[.int .u8 9, .int .u8 n1, .int .i64 n2, .int .i64 n3, .slice A4 m4 c4] 24)).alloc (.cells #[.int .i64 d, .int .i64 e, .int .i64 a, .int .i64 b, .int .i64 c] 40)).alloc (.cells #[.int .i64 0, .int .i64 0, .int .i64 0, .int .i64 0, .int .i64 0] 40))).heap[w.heap.size + 1]? = some (.cells #[.int .i64 d, .int .i64 e, .int .i64 a, .int .i64 b, .int .i64 c] 40 (0, 0)) from blk_alloc (by simpa using heap_alloc_last (w.alloc (.cells #[.int .u8 9, .int .u8 n1, .int .i64 n2, .int .i64 n3, .slice A4 m4 c4] 24)) (.cells #[.int .i64 d, .int .i64 e, .int .i64 a, .int .i64 b, .int .i64 c] 40)) _)
    have HB2 := Aside0.mk (show ((((w.alloc (.cells #[.int .u8 9, .int .u8 n1, .int .i64 n2, .int .i64 n3, .slice A4 m4 c4] 24)).alloc (.cells #[.int .i64 d, .int .i64 e, .int .i64 a, .int .i64 b, .int .i64 c] 40)).alloc (.cells #[.int .i64 0, .int .i64 0, .int .i64 0, .int .i64 0, .int .i64 0] 40))).heap[w.heap.size + 2]? = some (.cells #[.int .i64 0, .int .i64 0, .int .i64 0, .int .i64 0, .int .i64 0] 40 (0, 0)) by simpa using heap_alloc_last ((w.alloc (.cells #[.int .u8 9, .int .u8 n1, .int .i64 n2, .int .i64 n3, .slice A4 m4 c4] 24)).alloc (.cells #[.int .i64 d, .int .i64 e, .int .i64 a, .int .i64 b, .int .i64 c] 40)) (.cells #[.int .i64 0, .int .i64 0, .int .i64 0, .int .i64 0, .int .i64 0] 40))
    have hHB2 := Aside0.mk (below_alloc (below_alloc (below_alloc (Below.refl w.heap.size w) (.cells #[.int .u8 9, .int .u8 n1, .int .i64 n2, .int .i64 n3, .slice A4 m4 c4] 24)) (.cells #[.int .i64 d, .int .i64 e, .int .i64 a, .int .i64 b, .int .i64 c] 40)) (.cells #[.int .i64 0, .int .i64 0, .int .i64 0, .int .i64 0, .int .i64 0] 40))
    have HC0 := Aside0.mk (stamp_Step_calls ⟨d, e, a, b, c⟩ ((((w.alloc (.cells #[.int .u8 9, .int .u8 n1, .int .i64 n2, .int .i64 n3, .slice A4 m4 c4] 24)).alloc (.cells #[.int .i64 d, .int .i64 e, .int .i64 a, .int .i64 b, .int .i64 c] 40)).alloc (.cells #[.int .i64 0, .int .i64 0, .int .i64 0, .int .i64 0, .int .i64 0] 40))))
    have hok := step_ok ⟨d, e, a, b, c⟩
    have hF : timeC 9 n2 ⟨d, e, a, b, c⟩ = (if (stepC ⟨d, e, a, b, c⟩).2 = false then (St.zero, false) else if (stepC ⟨d, e, a, b, c⟩).1.loop ((stepC ⟨d, e, a, b, c⟩).1.d - 1).toNat ≥ n2 then (St.zero, false) else ((stepC ⟨d, e, a, b, c⟩).1, true)) := by simp [timeC]
    generalize stepC ⟨d, e, a, b, c⟩ = u at HC0 hF hok
    obtain ⟨⟨u0, u1, u2, u3, u4⟩, r⟩ := u
    simp only [stV] at HC0
    simp only at hok
    cases r with
    | false =>
      have HF := Aside0.mk (show timeC 9 n2 ⟨d, e, a, b, c⟩ = (St.zero, false) by rw [hF]; simp)
      clear hF hok
      go_enter Try.func17, Try.ntmps17
      go_wp2_with (go_at_call 38; refine HC0.out.mono ?_; rintro e1 w1 ⟨rfl, hb⟩; have HXN := Aside0.mk (blk_below HBN.out hb); have HX2 := Aside0.mk (blk_below HB2.out hb); have HBW := Aside0.mk (below_step hHB2.out hb); clear hb)
      have HZN := Aside0.mk (blk_drew (blk_alloc HXN.out (.cells #[.int .i64 u0, .int .i64 u1, .int .i64 u2, .int .i64 u3, .int .i64 u4] 40)))
      have HZ2 := Aside0.mk (blk_drew (blk_alloc HX2.out (.cells #[.int .i64 u0, .int .i64 u1, .int .i64 u2, .int .i64 u3, .int .i64 u4] 40)))
      have HZ6 := Aside0.mk (blk_drew (blk_new w1 (.cells #[.int .i64 u0, .int .i64 u1, .int .i64 u2, .int .i64 u3, .int .i64 u4] 40)))
      have HZB := Aside0.mk ((below_alloc HBW.out (.cells #[.int .i64 u0, .int .i64 u1, .int .i64 u2, .int .i64 u3, .int .i64 u4] 40)).drew)
      have hS0 : (fun W => W.cell? ⟨w1.heap.size, 0, none⟩ = some (.int .i64 u0) ∧ W.cell? ⟨w1.heap.size, 1, none⟩ = some (.int .i64 u1) ∧ W.cell? ⟨w.heap.size, 2, none⟩ = some (.int .i64 n2)) (w1.alloc (.cells #[.int .i64 u0, .int .i64 u1, .int .i64 u2, .int .i64 u3, .int .i64 u4] 40)).drew := ⟨(blk_cell HZ6.out 0).trans rfl, (blk_cell HZ6.out 1).trans rfl, (blk_cell HZN.out 2).trans rfl⟩
      have z0 : wrap64 0 = 0 := by unfold wrap64; omega
      have z1 : wrap64 1 = 1 := by unfold wrap64; omega
      have z2 : wrap64 2 = 2 := by unfold wrap64; omega
      refine start_ (n := 13) (S := fun W => W.cell? ⟨w1.heap.size, 0, none⟩ = some (.int .i64 u0) ∧ W.cell? ⟨w1.heap.size, 1, none⟩ = some (.int .i64 u1) ∧ W.cell? ⟨w.heap.size, 2, none⟩ = some (.int .i64 n2)) (ds := []) #[false, false, false, false, false, false, false, false, false, false, false, false, false] (by kernel_rfl) rfl rfl hS0 (fun hHeld => ?_)
      refine with_tabW otime.tab8 otime.bits8 (fun HT_ HW_ => ?_)
      clear hS0
      generalize (w1.alloc (.cells #[.int .i64 u0, .int .i64 u1, .int .i64 u2, .int .i64 u3, .int .i64 u4] 40)).drew = wz at hHeld HZN HZ2 HZ6 HZB ⊢
      refine pure_ (i := 0) (N := (some 29)) (v := ?_) (a' := ?_) #[true, false, false, false, false, false, false, false, false, false, false, false, false] rfl rfl (any_of HT_.out (by kernel_rfl)) (fun _ _ _ h => h) (Or.inl ⟨by rfl, ?_⟩) ?_ ?_
      rotate_left
      · intro w'
        go_simp
        (try with_reducible rfl)
      rotate_left
      · simp only [Act.put, List.setIfInBounds_toArray, List.set_cons_zero, List.set_cons_succ, i64_w, i32_w]
        rfl
      refine pure_ (i := 1) (N := (some 30)) (v := ?_) (a' := ?_) #[true, true, false, false, false, false, false, false, false, false, false, false, false] rfl rfl (any_of HT_.out (by kernel_rfl)) (fun _ _ _ h => h) (Or.inl ⟨by rfl, ?_⟩) ?_ ?_
      rotate_left
      · intro w'
        go_simp
        (try with_reducible rfl)
      rotate_left
      · simp only [Act.put, List.setIfInBounds_toArray, List.set_cons_zero, List.set_cons_succ, i64_w, i32_w]
        rfl
      refine pure_ (i := 2) (N := (some 31)) (v := ?_) (a' := ?_) #[true, true, true, false, false, false, false, false, false, false, false, false, false] rfl rfl (any_of HT_.out (by kernel_rfl)) (fun _ _ _ h => h) (Or.inl ⟨by rfl, ?_⟩) ?_ ?_
      rotate_left
      · intro w'
        go_simp
        (try with_reducible rfl)
      rotate_left
      · simp only [Act.put, List.setIfInBounds_toArray, List.set_cons_zero, List.set_cons_succ, i64_w, i32_w]
        rfl
      refine pure_ (i := 3) (N := (some 32)) (v := undef) (a' := ?_) #[true, true, true, true, false, false, false, false, false, false, false, false, false] rfl rfl (any_of HT_.out (by kernel_rfl)) (fun _ _ _ h => h) (Or.inr ⟨by rfl, rfl⟩) ?_ ?_
      rotate_left
      · simp only [Act.put, List.setIfInBounds_toArray, List.set_cons_zero, List.set_cons_succ, i64_w, i32_w]
        rfl
      refine pure_ (i := 4) (N := (some 33)) (v := undef) (a' := ?_) #[true, true, true, true, true, false, false, false, false, false, false, false, false] rfl rfl (any_of HT_.out (by kernel_rfl)) (fun _ _ _ h => h) (Or.inr ⟨by rfl, rfl⟩) ?_ ?_
      rotate_left
      · simp only [Act.put, List.setIfInBounds_toArray, List.set_cons_zero, List.set_cons_succ, i64_w, i32_w]
        rfl
      refine pure_ (i := 5) (N := (some 34)) (v := undef) (a' := ?_) #[true, true, true, true, true, true, false, false, false, false, false, false, false] rfl rfl (any_of HT_.out (by kernel_rfl)) (fun _ _ _ h => h) (Or.inr ⟨by rfl, rfl⟩) ?_ ?_
      rotate_left
      · simp only [Act.put, List.setIfInBounds_toArray, List.set_cons_zero, List.set_cons_succ, i64_w, i32_w]
        rfl
      refine pure_ (i := 6) (N := (some 35)) (v := undef) (a' := ?_) #[true, true, true, true, true, true, true, false, false, false, false, false, false] rfl rfl (any_of HT_.out (by kernel_rfl)) (fun _ _ _ h => h) (Or.inr ⟨by rfl, rfl⟩) ?_ ?_
      rotate_left
      · simp only [Act.put, List.setIfInBounds_toArray, List.set_cons_zero, List.set_cons_succ, i64_w, i32_w]
        rfl
      refine pure_ (i := 7) (N := (some 36)) (v := undef) (a' := ?_) #[true, true, true, true, true, true, true, true, false, false, false, false, false] rfl rfl (any_of HT_.out (by kernel_rfl)) (fun _ _ _ h => h) (Or.inr ⟨by rfl, rfl⟩) ?_ ?_
      rotate_left
      · simp only [Act.put, List.setIfInBounds_toArray, List.set_cons_zero, List.set_cons_succ, i64_w, i32_w]
        rfl
      refine pure_ (i := 8) (N := (some 37)) (v := undef) (a' := ?_) #[true, true, true, true, true, true, true, true, true, false, false, false, false] rfl rfl (any_of HT_.out (by kernel_rfl)) (fun _ _ _ h => h) (Or.inr ⟨by rfl, rfl⟩) ?_ ?_
      rotate_left
      · simp only [Act.put, List.setIfInBounds_toArray, List.set_cons_zero, List.set_cons_succ, i64_w, i32_w]
        rfl
      refine pure_ (i := 9) (N := (some 38)) (v := undef) (a' := ?_) #[true, true, true, true, true, true, true, true, true, true, false, false, false] rfl rfl (any_of HT_.out (by kernel_rfl)) (fun _ _ _ h => h) (Or.inr ⟨by rfl, rfl⟩) ?_ ?_
      rotate_left
      · simp only [Act.put, List.setIfInBounds_toArray, List.set_cons_zero, List.set_cons_succ, i64_w, i32_w]
        rfl
      refine pure_ (i := 10) (N := (some 39)) (v := undef) (a' := ?_) #[true, true, true, true, true, true, true, true, true, true, true, false, false] rfl rfl (any_of HT_.out (by kernel_rfl)) (fun _ _ _ h => h) (Or.inr ⟨by rfl, rfl⟩) ?_ ?_
      rotate_left
      · simp only [Act.put, List.setIfInBounds_toArray, List.set_cons_zero, List.set_cons_succ, i64_w, i32_w]
        rfl
      refine pure_ (i := 11) (N := (some 40)) (v := undef) (a' := ?_) #[true, true, true, true, true, true, true, true, true, true, true, true, false] rfl rfl (any_of HT_.out (by kernel_rfl)) (fun _ _ _ h => h) (Or.inr ⟨by rfl, rfl⟩) ?_ ?_
      rotate_left
      · simp only [Act.put, List.setIfInBounds_toArray, List.set_cons_zero, List.set_cons_succ, i64_w, i32_w]
        rfl
      refine pure_ (i := 12) (N := (some 41)) (v := ?_) (a' := ?_) #[true, true, true, true, true, true, true, true, true, true, true, true, true] rfl rfl (any_of HT_.out (by kernel_rfl)) (fun _ _ _ h => h) (Or.inl ⟨by rfl, ?_⟩) ?_ ?_
      rotate_left
      · intro w'
        go_simp
        (try with_reducible rfl)
      rotate_left
      · simp only [Act.put, List.setIfInBounds_toArray, List.set_cons_zero, List.set_cons_succ, i64_w, i32_w]
        rfl
      refine done_ (done_of HT_.out (by kernel_rfl)) ?_
      have p0 := (blk_cell HZ6.out 0).trans rfl
      have r0 := (blk_cell HZ2.out 0).trans rfl
      have f0 := blk_frozen HZ2.out 0
      have p1 := (blk_cell HZ6.out 1).trans rfl
      have r1 := (blk_cell HZ2.out 1).trans rfl
      have f1 := blk_frozen HZ2.out 1
      have p2 := (blk_cell HZ6.out 2).trans rfl
      have r2 := (blk_cell HZ2.out 2).trans rfl
      have f2 := blk_frozen HZ2.out 2
      have p3 := (blk_cell HZ6.out 3).trans rfl
      have r3 := (blk_cell HZ2.out 3).trans rfl
      have f3 := blk_frozen HZ2.out 3
      have p4 := (blk_cell HZ6.out 4).trans rfl
      have r4 := (blk_cell HZ2.out 4).trans rfl
      have f4 := blk_frozen HZ2.out 4
      go_wp2
      refine bodyPost_ret (results_ct rfl _ _ (w.heap.size + 2) 40 #[.int .i64 0, .int .i64 0, .int .i64 0, .int .i64 0, .int .i64 0] (0, 0) _ rfl (by rw [(blk_set (blk_set (blk_set (blk_set (blk_set HZ2.out 0 (.int .i64 0)) 1 (.int .i64 0)) 2 (.int .i64 0)) 3 (.int .i64 0)) 4 (.int .i64 0))]; rfl) Try.underlying40 rfl (by kernel_rfl)) rfl ?_
      exact ⟨by rw [HF.out]; rfl, (below_set (below_set (below_set (below_set (below_set HZB.out (by show w.heap.size ≤ w.heap.size + 2; omega)) (by show w.heap.size ≤ w.heap.size + 2; omega)) (by show w.heap.size ≤ w.heap.size + 2; omega)) (by show w.heap.size ≤ w.heap.size + 2; omega)) (by show w.heap.size ≤ w.heap.size + 2; omega))⟩
    | true =>
      have hu := hok rfl
      rcases hu with rfl | rfl | rfl
      · by_cases kn : u2 ≥ n2
        · have HF := Aside0.mk (show timeC 9 n2 ⟨d, e, a, b, c⟩ = (St.zero, false) by rw [hF]; simp [St.loop]; omega)
          clear hF hok
          go_enter Try.func17, Try.ntmps17
          go_wp2_with (go_at_call 38; refine HC0.out.mono ?_; rintro e1 w1 ⟨rfl, hb⟩; have HXN := Aside0.mk (blk_below HBN.out hb); have HX2 := Aside0.mk (blk_below HB2.out hb); have HBW := Aside0.mk (below_step hHB2.out hb); clear hb)
          have HZN := Aside0.mk (blk_drew (blk_alloc HXN.out (.cells #[.int .i64 1, .int .i64 u1, .int .i64 u2, .int .i64 u3, .int .i64 u4] 40)))
          have HZ2 := Aside0.mk (blk_drew (blk_alloc HX2.out (.cells #[.int .i64 1, .int .i64 u1, .int .i64 u2, .int .i64 u3, .int .i64 u4] 40)))
          have HZ6 := Aside0.mk (blk_drew (blk_new w1 (.cells #[.int .i64 1, .int .i64 u1, .int .i64 u2, .int .i64 u3, .int .i64 u4] 40)))
          have HZB := Aside0.mk ((below_alloc HBW.out (.cells #[.int .i64 1, .int .i64 u1, .int .i64 u2, .int .i64 u3, .int .i64 u4] 40)).drew)
          have hS0 : (fun W => W.cell? ⟨w1.heap.size, 0, none⟩ = some (.int .i64 1) ∧ W.cell? ⟨w1.heap.size, 2, none⟩ = some (.int .i64 u2) ∧ W.cell? ⟨w.heap.size, 2, none⟩ = some (.int .i64 n2)) (w1.alloc (.cells #[.int .i64 1, .int .i64 u1, .int .i64 u2, .int .i64 u3, .int .i64 u4] 40)).drew := ⟨(blk_cell HZ6.out 0).trans rfl, (blk_cell HZ6.out 2).trans rfl, (blk_cell HZN.out 2).trans rfl⟩
          have z0 : wrap64 0 = 0 := by unfold wrap64; omega
          have z1 : wrap64 1 = 1 := by unfold wrap64; omega
          have z2 : wrap64 2 = 2 := by unfold wrap64; omega
          refine start_ (n := 13) (S := fun W => W.cell? ⟨w1.heap.size, 0, none⟩ = some (.int .i64 1) ∧ W.cell? ⟨w1.heap.size, 2, none⟩ = some (.int .i64 u2) ∧ W.cell? ⟨w.heap.size, 2, none⟩ = some (.int .i64 n2)) (ds := []) #[false, false, false, false, false, false, false, false, false, false, false, false, false] (by kernel_rfl) rfl rfl hS0 (fun hHeld => ?_)
          refine with_tabW otime.tab8 otime.bits8 (fun HT_ HW_ => ?_)
          clear hS0
          generalize (w1.alloc (.cells #[.int .i64 1, .int .i64 u1, .int .i64 u2, .int .i64 u3, .int .i64 u4] 40)).drew = wz at hHeld HZN HZ2 HZ6 HZB ⊢
          refine pure_ (i := 0) (N := (some 29)) (v := ?_) (a' := ?_) #[true, false, false, false, false, false, false, false, false, false, false, false, false] rfl rfl (any_of HT_.out (by kernel_rfl)) (fun _ _ _ h => h) (Or.inl ⟨by rfl, ?_⟩) ?_ ?_
          rotate_left
          · intro w'
            go_simp
            (try with_reducible rfl)
          rotate_left
          · simp only [Act.put, List.setIfInBounds_toArray, List.set_cons_zero, List.set_cons_succ, i64_w, i32_w]
            rfl
          refine pure_ (i := 1) (N := (some 30)) (v := ?_) (a' := ?_) #[true, true, false, false, false, false, false, false, false, false, false, false, false] rfl rfl (any_of HT_.out (by kernel_rfl)) (fun _ _ _ h => h) (Or.inl ⟨by rfl, ?_⟩) ?_ ?_
          rotate_left
          · intro w'
            go_simp
            (try with_reducible rfl)
          rotate_left
          · simp only [Act.put, List.setIfInBounds_toArray, List.set_cons_zero, List.set_cons_succ, i64_w, i32_w]
            rfl
          refine pure_ (i := 2) (N := (some 31)) (v := ?_) (a' := ?_) #[true, true, true, false, false, false, false, false, false, false, false, false, false] rfl rfl (any_of HT_.out (by kernel_rfl)) (fun _ _ _ h => h) (Or.inl ⟨by rfl, ?_⟩) ?_ ?_
          rotate_left
          · intro w'
            go_simp
            (try with_reducible rfl)
          rotate_left
          · simp only [Act.put, List.setIfInBounds_toArray, List.set_cons_zero, List.set_cons_succ, i64_w, i32_w]
            rfl
          refine pure_ (i := 3) (N := (some 32)) (v := ?_) (a' := ?_) #[true, true, true, true, false, false, false, false, false, false, false, false, false] rfl rfl (any_of HT_.out (by kernel_rfl)) (fun _ _ _ h => h) (Or.inl ⟨by rfl, ?_⟩) ?_ ?_
          rotate_left
          · intro w'
            go_simp
            (try with_reducible rfl)
          rotate_left
          · simp only [Act.put, List.setIfInBounds_toArray, List.set_cons_zero, List.set_cons_succ, i64_w, i32_w]
            rfl
          refine take_ (i := 4) (N := (some 33)) (v := ?_) (a' := ?_) #[true, true, true, true, true, false, false, false, false, false, false, false, false] rfl rfl (take_ofW HT_.out HW_.out (by kernel_rfl)) (fun _ _ _ h => h) (Or.inl ⟨by rfl, ?_⟩) hHeld ?_ ?_
          rotate_left
          · rintro w' ⟨sx0, sx1, sx2⟩
            go_simp
            (try with_reducible rfl)
          rotate_left
          · simp only [Act.put, List.setIfInBounds_toArray, List.set_cons_zero, List.set_cons_succ, i64_w, i32_w]
            rfl
          refine pure_ (i := 5) (N := (some 34)) (v := ?_) (a' := ?_) #[true, true, true, true, true, true, false, false, false, false, false, false, false] rfl rfl (any_of HT_.out (by kernel_rfl)) (fun _ _ _ h => h) (Or.inl ⟨by rfl, ?_⟩) ?_ ?_
          rotate_left
          · intro w'
            go_simp
            (try with_reducible rfl)
          rotate_left
          · simp only [Act.put, List.setIfInBounds_toArray, List.set_cons_zero, List.set_cons_succ, i64_w, i32_w]
            rfl
          refine pure_ (i := 6) (N := (some 35)) (v := ?_) (a' := ?_) #[true, true, true, true, true, true, true, false, false, false, false, false, false] rfl rfl (any_of HT_.out (by kernel_rfl)) (fun _ _ _ h => h) (Or.inl ⟨by rfl, ?_⟩) ?_ ?_
          rotate_left
          · intro w'
            go_simp
            (try with_reducible rfl)
          rotate_left
          · simp only [Act.put, List.setIfInBounds_toArray, List.set_cons_zero, List.set_cons_succ, i64_w, i32_w]
            rfl
          refine pure_ (i := 7) (N := (some 36)) (v := ?_) (a' := ?_) #[true, true, true, true, true, true, true, true, false, false, false, false, false] rfl rfl (any_of HT_.out (by kernel_rfl)) (fun _ _ _ h => h) (Or.inl ⟨by rfl, ?_⟩) ?_ ?_
          rotate_left
          · intro w'
            go_simp
            (try with_reducible rfl)
          rotate_left
          · simp only [Act.put, List.setIfInBounds_toArray, List.set_cons_zero, List.set_cons_succ, i64_w, i32_w]
            rfl
          refine take_ (i := 8) (N := (some 37)) (v := ?_) (a' := ?_) #[true, true, true, true, true, true, true, true, true, false, false, false, false] rfl rfl (take_ofW HT_.out HW_.out (by kernel_rfl)) (fun _ _ _ h => h) (Or.inl ⟨by rfl, ?_⟩) hHeld ?_ ?_
          rotate_left
          · rintro w' ⟨sx0, sx1, sx2⟩
            go_simp
            (try with_reducible rfl)
          rotate_left
          · simp only [Act.put, List.setIfInBounds_toArray, List.set_cons_zero, List.set_cons_succ, i64_w, i32_w]
            rfl
          refine pure_ (i := 9) (N := (some 38)) (v := ?_) (a' := ?_) #[true, true, true, true, true, true, true, true, true, true, false, false, false] rfl rfl (any_of HT_.out (by kernel_rfl)) (fun _ _ _ h => h) (Or.inl ⟨by rfl, ?_⟩) ?_ ?_
          rotate_left
          · intro w'
            go_simp
            (try with_reducible rfl)
          rotate_left
          · simp only [Act.put, List.setIfInBounds_toArray, List.set_cons_zero, List.set_cons_succ, i64_w, i32_w]
            rfl
          refine take_ (i := 10) (N := (some 39)) (v := ?_) (a' := ?_) #[true, true, true, true, true, true, true, true, true, true, true, false, false] rfl rfl (take_ofW HT_.out HW_.out (by kernel_rfl)) (fun _ _ _ h => h) (Or.inl ⟨by rfl, ?_⟩) hHeld ?_ ?_
          rotate_left
          · rintro w' ⟨sx0, sx1, sx2⟩
            go_simp
            (try with_reducible rfl)
          rotate_left
          · simp only [Act.put, List.setIfInBounds_toArray, List.set_cons_zero, List.set_cons_succ, i64_w, i32_w]
            rfl
          refine pure_ (i := 11) (N := (some 40)) (v := ?_) (a' := ?_) #[true, true, true, true, true, true, true, true, true, true, true, true, false] rfl rfl (any_of HT_.out (by kernel_rfl)) (fun _ _ _ h => h) (Or.inl ⟨by rfl, ?_⟩) ?_ ?_
          rotate_left
          · intro w'
            go_simp
            (try with_reducible rfl)
          rotate_left
          · simp only [Act.put, List.setIfInBounds_toArray, List.set_cons_zero, List.set_cons_succ, i64_w, i32_w]
            rfl
          refine pure_ (i := 12) (N := (some 41)) (v := ?_) (a' := ?_) #[true, true, true, true, true, true, true, true, true, true, true, true, true] rfl rfl (any_of HT_.out (by kernel_rfl)) (fun _ _ _ h => h) (Or.inl ⟨by rfl, ?_⟩) ?_ ?_
          rotate_left
          · intro w'
            go_simp
            (try with_reducible rfl)
          rotate_left
          · simp only [Act.put, List.setIfInBounds_toArray, List.set_cons_zero, List.set_cons_succ, i64_w, i32_w]
            rfl
          refine done_ (done_of HT_.out (by kernel_rfl)) ?_
          have p0 := (blk_cell HZ6.out 0).trans rfl
          have r0 := (blk_cell HZ2.out 0).trans rfl
          have f0 := blk_frozen HZ2.out 0
          have p1 := (blk_cell HZ6.out 1).trans rfl
          have r1 := (blk_cell HZ2.out 1).trans rfl
          have f1 := blk_frozen HZ2.out 1
          have p2 := (blk_cell HZ6.out 2).trans rfl
          have r2 := (blk_cell HZ2.out 2).trans rfl
          have f2 := blk_frozen HZ2.out 2
          have p3 := (blk_cell HZ6.out 3).trans rfl
          have r3 := (blk_cell HZ2.out 3).trans rfl
          have f3 := blk_frozen HZ2.out 3
          have p4 := (blk_cell HZ6.out 4).trans rfl
          have r4 := (blk_cell HZ2.out 4).trans rfl
          have f4 := blk_frozen HZ2.out 4
          go_wp2
          refine bodyPost_ret (results_ct rfl _ _ (w.heap.size + 2) 40 #[.int .i64 0, .int .i64 0, .int .i64 0, .int .i64 0, .int .i64 0] (0, 0) _ rfl (by rw [(blk_set (blk_set (blk_set (blk_set (blk_set HZ2.out 0 (.int .i64 0)) 1 (.int .i64 0)) 2 (.int .i64 0)) 3 (.int .i64 0)) 4 (.int .i64 0))]; rfl) Try.underlying40 rfl (by kernel_rfl)) rfl ?_
          exact ⟨by rw [HF.out]; rfl, (below_set (below_set (below_set (below_set (below_set HZB.out (by show w.heap.size ≤ w.heap.size + 2; omega)) (by show w.heap.size ≤ w.heap.size + 2; omega)) (by show w.heap.size ≤ w.heap.size + 2; omega)) (by show w.heap.size ≤ w.heap.size + 2; omega)) (by show w.heap.size ≤ w.heap.size + 2; omega))⟩
        · have HF := Aside0.mk (show timeC 9 n2 ⟨d, e, a, b, c⟩ = (⟨1, u1, u2, u3, u4⟩, true) by rw [hF]; simp [St.loop]; omega)
          clear hF hok
          go_enter Try.func17, Try.ntmps17
          go_wp2_with (go_at_call 38; refine HC0.out.mono ?_; rintro e1 w1 ⟨rfl, hb⟩; have HXN := Aside0.mk (blk_below HBN.out hb); have HX2 := Aside0.mk (blk_below HB2.out hb); have HBW := Aside0.mk (below_step hHB2.out hb); clear hb)
          have HZN := Aside0.mk (blk_drew (blk_alloc HXN.out (.cells #[.int .i64 1, .int .i64 u1, .int .i64 u2, .int .i64 u3, .int .i64 u4] 40)))
          have HZ2 := Aside0.mk (blk_drew (blk_alloc HX2.out (.cells #[.int .i64 1, .int .i64 u1, .int .i64 u2, .int .i64 u3, .int .i64 u4] 40)))
          have HZ6 := Aside0.mk (blk_drew (blk_new w1 (.cells #[.int .i64 1, .int .i64 u1, .int .i64 u2, .int .i64 u3, .int .i64 u4] 40)))
          have HZB := Aside0.mk ((below_alloc HBW.out (.cells #[.int .i64 1, .int .i64 u1, .int .i64 u2, .int .i64 u3, .int .i64 u4] 40)).drew)
          have hS0 : (fun W => W.cell? ⟨w1.heap.size, 0, none⟩ = some (.int .i64 1) ∧ W.cell? ⟨w1.heap.size, 2, none⟩ = some (.int .i64 u2) ∧ W.cell? ⟨w.heap.size, 2, none⟩ = some (.int .i64 n2)) (w1.alloc (.cells #[.int .i64 1, .int .i64 u1, .int .i64 u2, .int .i64 u3, .int .i64 u4] 40)).drew := ⟨(blk_cell HZ6.out 0).trans rfl, (blk_cell HZ6.out 2).trans rfl, (blk_cell HZN.out 2).trans rfl⟩
          have z0 : wrap64 0 = 0 := by unfold wrap64; omega
          have z1 : wrap64 1 = 1 := by unfold wrap64; omega
          have z2 : wrap64 2 = 2 := by unfold wrap64; omega
          refine start_ (n := 13) (S := fun W => W.cell? ⟨w1.heap.size, 0, none⟩ = some (.int .i64 1) ∧ W.cell? ⟨w1.heap.size, 2, none⟩ = some (.int .i64 u2) ∧ W.cell? ⟨w.heap.size, 2, none⟩ = some (.int .i64 n2)) (ds := []) #[false, false, false, false, false, false, false, false, false, false, false, false, false] (by kernel_rfl) rfl rfl hS0 (fun hHeld => ?_)
          refine with_tabW otime.tab8 otime.bits8 (fun HT_ HW_ => ?_)
          clear hS0
          generalize (w1.alloc (.cells #[.int .i64 1, .int .i64 u1, .int .i64 u2, .int .i64 u3, .int .i64 u4] 40)).drew = wz at hHeld HZN HZ2 HZ6 HZB ⊢
          refine pure_ (i := 0) (N := (some 29)) (v := ?_) (a' := ?_) #[true, false, false, false, false, false, false, false, false, false, false, false, false] rfl rfl (any_of HT_.out (by kernel_rfl)) (fun _ _ _ h => h) (Or.inl ⟨by rfl, ?_⟩) ?_ ?_
          rotate_left
          · intro w'
            go_simp
            (try with_reducible rfl)
          rotate_left
          · simp only [Act.put, List.setIfInBounds_toArray, List.set_cons_zero, List.set_cons_succ, i64_w, i32_w]
            rfl
          refine pure_ (i := 1) (N := (some 30)) (v := ?_) (a' := ?_) #[true, true, false, false, false, false, false, false, false, false, false, false, false] rfl rfl (any_of HT_.out (by kernel_rfl)) (fun _ _ _ h => h) (Or.inl ⟨by rfl, ?_⟩) ?_ ?_
          rotate_left
          · intro w'
            go_simp
            (try with_reducible rfl)
          rotate_left
          · simp only [Act.put, List.setIfInBounds_toArray, List.set_cons_zero, List.set_cons_succ, i64_w, i32_w]
            rfl
          refine pure_ (i := 2) (N := (some 31)) (v := ?_) (a' := ?_) #[true, true, true, false, false, false, false, false, false, false, false, false, false] rfl rfl (any_of HT_.out (by kernel_rfl)) (fun _ _ _ h => h) (Or.inl ⟨by rfl, ?_⟩) ?_ ?_
          rotate_left
          · intro w'
            go_simp
            (try with_reducible rfl)
          rotate_left
          · simp only [Act.put, List.setIfInBounds_toArray, List.set_cons_zero, List.set_cons_succ, i64_w, i32_w]
            rfl
          refine pure_ (i := 3) (N := (some 32)) (v := ?_) (a' := ?_) #[true, true, true, true, false, false, false, false, false, false, false, false, false] rfl rfl (any_of HT_.out (by kernel_rfl)) (fun _ _ _ h => h) (Or.inl ⟨by rfl, ?_⟩) ?_ ?_
          rotate_left
          · intro w'
            go_simp
            (try with_reducible rfl)
          rotate_left
          · simp only [Act.put, List.setIfInBounds_toArray, List.set_cons_zero, List.set_cons_succ, i64_w, i32_w]
            rfl
          refine take_ (i := 4) (N := (some 33)) (v := ?_) (a' := ?_) #[true, true, true, true, true, false, false, false, false, false, false, false, false] rfl rfl (take_ofW HT_.out HW_.out (by kernel_rfl)) (fun _ _ _ h => h) (Or.inl ⟨by rfl, ?_⟩) hHeld ?_ ?_
          rotate_left
          · rintro w' ⟨sx0, sx1, sx2⟩
            go_simp
            (try with_reducible rfl)
          rotate_left
          · simp only [Act.put, List.setIfInBounds_toArray, List.set_cons_zero, List.set_cons_succ, i64_w, i32_w]
            rfl
          refine pure_ (i := 5) (N := (some 34)) (v := ?_) (a' := ?_) #[true, true, true, true, true, true, false, false, false, false, false, false, false] rfl rfl (any_of HT_.out (by kernel_rfl)) (fun _ _ _ h => h) (Or.inl ⟨by rfl, ?_⟩) ?_ ?_
          rotate_left
          · intro w'
            go_simp
            (try with_reducible rfl)
          rotate_left
          · simp only [Act.put, List.setIfInBounds_toArray, List.set_cons_zero, List.set_cons_succ, i64_w, i32_w]
            rfl
          refine pure_ (i := 6) (N := (some 35)) (v := ?_) (a' := ?_) #[true, true, true, true, true, true, true, false, false, false, false, false, false] rfl rfl (any_of HT_.out (by kernel_rfl)) (fun _ _ _ h => h) (Or.inl ⟨by rfl, ?_⟩) ?_ ?_
          rotate_left
          · intro w'
            go_simp
            (try with_reducible rfl)
          rotate_left
          · simp only [Act.put, List.setIfInBounds_toArray, List.set_cons_zero, List.set_cons_succ, i64_w, i32_w]
            rfl
          refine pure_ (i := 7) (N := (some 36)) (v := ?_) (a' := ?_) #[true, true, true, true, true, true, true, true, false, false, false, false, false] rfl rfl (any_of HT_.out (by kernel_rfl)) (fun _ _ _ h => h) (Or.inl ⟨by rfl, ?_⟩) ?_ ?_
          rotate_left
          · intro w'
            go_simp
            (try with_reducible rfl)
          rotate_left
          · simp only [Act.put, List.setIfInBounds_toArray, List.set_cons_zero, List.set_cons_succ, i64_w, i32_w]
            rfl
          refine take_ (i := 8) (N := (some 37)) (v := ?_) (a' := ?_) #[true, true, true, true, true, true, true, true, true, false, false, false, false] rfl rfl (take_ofW HT_.out HW_.out (by kernel_rfl)) (fun _ _ _ h => h) (Or.inl ⟨by rfl, ?_⟩) hHeld ?_ ?_
          rotate_left
          · rintro w' ⟨sx0, sx1, sx2⟩
            go_simp
            (try with_reducible rfl)
          rotate_left
          · simp only [Act.put, List.setIfInBounds_toArray, List.set_cons_zero, List.set_cons_succ, i64_w, i32_w]
            rfl
          refine pure_ (i := 9) (N := (some 38)) (v := ?_) (a' := ?_) #[true, true, true, true, true, true, true, true, true, true, false, false, false] rfl rfl (any_of HT_.out (by kernel_rfl)) (fun _ _ _ h => h) (Or.inl ⟨by rfl, ?_⟩) ?_ ?_
          rotate_left
          · intro w'
            go_simp
            (try with_reducible rfl)
          rotate_left
          · simp only [Act.put, List.setIfInBounds_toArray, List.set_cons_zero, List.set_cons_succ, i64_w, i32_w]
            rfl
          refine take_ (i := 10) (N := (some 39)) (v := ?_) (a' := ?_) #[true, true, true, true, true, true, true, true, true, true, true, false, false] rfl rfl (take_ofW HT_.out HW_.out (by kernel_rfl)) (fun _ _ _ h => h) (Or.inl ⟨by rfl, ?_⟩) hHeld ?_ ?_
          rotate_left
          · rintro w' ⟨sx0, sx1, sx2⟩
            go_simp
            (try with_reducible rfl)
          rotate_left
          · simp only [Act.put, List.setIfInBounds_toArray, List.set_cons_zero, List.set_cons_succ, i64_w, i32_w]
            rfl
          refine pure_ (i := 11) (N := (some 40)) (v := ?_) (a' := ?_) #[true, true, true, true, true, true, true, true, true, true, true, true, false] rfl rfl (any_of HT_.out (by kernel_rfl)) (fun _ _ _ h => h) (Or.inl ⟨by rfl, ?_⟩) ?_ ?_
          rotate_left
          · intro w'
            go_simp
            (try with_reducible rfl)
          rotate_left
          · simp only [Act.put, List.setIfInBounds_toArray, List.set_cons_zero, List.set_cons_succ, i64_w, i32_w]
            rfl
          refine pure_ (i := 12) (N := (some 41)) (v := ?_) (a' := ?_) #[true, true, true, true, true, true, true, true, true, true, true, true, true] rfl rfl (any_of HT_.out (by kernel_rfl)) (fun _ _ _ h => h) (Or.inl ⟨by rfl, ?_⟩) ?_ ?_
          rotate_left
          · intro w'
            go_simp
            (try with_reducible rfl)
          rotate_left
          · simp only [Act.put, List.setIfInBounds_toArray, List.set_cons_zero, List.set_cons_succ, i64_w, i32_w]
            rfl
          refine done_ (done_of HT_.out (by kernel_rfl)) ?_
          have p0 := (blk_cell HZ6.out 0).trans rfl
          have r0 := (blk_cell HZ2.out 0).trans rfl
          have f0 := blk_frozen HZ2.out 0
          have p1 := (blk_cell HZ6.out 1).trans rfl
          have r1 := (blk_cell HZ2.out 1).trans rfl
          have f1 := blk_frozen HZ2.out 1
          have p2 := (blk_cell HZ6.out 2).trans rfl
          have r2 := (blk_cell HZ2.out 2).trans rfl
          have f2 := blk_frozen HZ2.out 2
          have p3 := (blk_cell HZ6.out 3).trans rfl
          have r3 := (blk_cell HZ2.out 3).trans rfl
          have f3 := blk_frozen HZ2.out 3
          have p4 := (blk_cell HZ6.out 4).trans rfl
          have r4 := (blk_cell HZ2.out 4).trans rfl
          have f4 := blk_frozen HZ2.out 4
          go_wp2
          refine bodyPost_ret (results_ct rfl _ _ (w.heap.size + 2) 40 #[.int .i64 1, .int .i64 u1, .int .i64 u2, .int .i64 u3, .int .i64 u4] (0, 0) _ rfl (by rw [(blk_set (blk_set (blk_set (blk_set (blk_set HZ2.out 0 (.int .i64 1)) 1 (.int .i64 u1)) 2 (.int .i64 u2)) 3 (.int .i64 u3)) 4 (.int .i64 u4))]; rfl) Try.underlying40 rfl (by kernel_rfl)) rfl ?_
          exact ⟨by rw [HF.out]; rfl, (below_set (below_set (below_set (below_set (below_set HZB.out (by show w.heap.size ≤ w.heap.size + 2; omega)) (by show w.heap.size ≤ w.heap.size + 2; omega)) (by show w.heap.size ≤ w.heap.size + 2; omega)) (by show w.heap.size ≤ w.heap.size + 2; omega)) (by show w.heap.size ≤ w.heap.size + 2; omega))⟩
      · by_cases kn : u3 ≥ n2
        · have HF := Aside0.mk (show timeC 9 n2 ⟨d, e, a, b, c⟩ = (St.zero, false) by rw [hF]; simp [St.loop]; omega)
          clear hF hok
          go_enter Try.func17, Try.ntmps17
          go_wp2_with (go_at_call 38; refine HC0.out.mono ?_; rintro e1 w1 ⟨rfl, hb⟩; have HXN := Aside0.mk (blk_below HBN.out hb); have HX2 := Aside0.mk (blk_below HB2.out hb); have HBW := Aside0.mk (below_step hHB2.out hb); clear hb)
          have HZN := Aside0.mk (blk_drew (blk_alloc HXN.out (.cells #[.int .i64 2, .int .i64 u1, .int .i64 u2, .int .i64 u3, .int .i64 u4] 40)))
          have HZ2 := Aside0.mk (blk_drew (blk_alloc HX2.out (.cells #[.int .i64 2, .int .i64 u1, .int .i64 u2, .int .i64 u3, .int .i64 u4] 40)))
          have HZ6 := Aside0.mk (blk_drew (blk_new w1 (.cells #[.int .i64 2, .int .i64 u1, .int .i64 u2, .int .i64 u3, .int .i64 u4] 40)))
          have HZB := Aside0.mk ((below_alloc HBW.out (.cells #[.int .i64 2, .int .i64 u1, .int .i64 u2, .int .i64 u3, .int .i64 u4] 40)).drew)
          have hS0 : (fun W => W.cell? ⟨w1.heap.size, 0, none⟩ = some (.int .i64 2) ∧ W.cell? ⟨w1.heap.size, 3, none⟩ = some (.int .i64 u3) ∧ W.cell? ⟨w.heap.size, 2, none⟩ = some (.int .i64 n2)) (w1.alloc (.cells #[.int .i64 2, .int .i64 u1, .int .i64 u2, .int .i64 u3, .int .i64 u4] 40)).drew := ⟨(blk_cell HZ6.out 0).trans rfl, (blk_cell HZ6.out 3).trans rfl, (blk_cell HZN.out 2).trans rfl⟩
          have z0 : wrap64 0 = 0 := by unfold wrap64; omega
          have z1 : wrap64 1 = 1 := by unfold wrap64; omega
          have z2 : wrap64 2 = 2 := by unfold wrap64; omega
          refine start_ (n := 13) (S := fun W => W.cell? ⟨w1.heap.size, 0, none⟩ = some (.int .i64 2) ∧ W.cell? ⟨w1.heap.size, 3, none⟩ = some (.int .i64 u3) ∧ W.cell? ⟨w.heap.size, 2, none⟩ = some (.int .i64 n2)) (ds := []) #[false, false, false, false, false, false, false, false, false, false, false, false, false] (by kernel_rfl) rfl rfl hS0 (fun hHeld => ?_)
          refine with_tabW otime.tab8 otime.bits8 (fun HT_ HW_ => ?_)
          clear hS0
          generalize (w1.alloc (.cells #[.int .i64 2, .int .i64 u1, .int .i64 u2, .int .i64 u3, .int .i64 u4] 40)).drew = wz at hHeld HZN HZ2 HZ6 HZB ⊢
          refine pure_ (i := 0) (N := (some 29)) (v := ?_) (a' := ?_) #[true, false, false, false, false, false, false, false, false, false, false, false, false] rfl rfl (any_of HT_.out (by kernel_rfl)) (fun _ _ _ h => h) (Or.inl ⟨by rfl, ?_⟩) ?_ ?_
          rotate_left
          · intro w'
            go_simp
            (try with_reducible rfl)
          rotate_left
          · simp only [Act.put, List.setIfInBounds_toArray, List.set_cons_zero, List.set_cons_succ, i64_w, i32_w]
            rfl
          refine pure_ (i := 1) (N := (some 30)) (v := ?_) (a' := ?_) #[true, true, false, false, false, false, false, false, false, false, false, false, false] rfl rfl (any_of HT_.out (by kernel_rfl)) (fun _ _ _ h => h) (Or.inl ⟨by rfl, ?_⟩) ?_ ?_
          rotate_left
          · intro w'
            go_simp
            (try with_reducible rfl)
          rotate_left
          · simp only [Act.put, List.setIfInBounds_toArray, List.set_cons_zero, List.set_cons_succ, i64_w, i32_w]
            rfl
          refine pure_ (i := 2) (N := (some 31)) (v := ?_) (a' := ?_) #[true, true, true, false, false, false, false, false, false, false, false, false, false] rfl rfl (any_of HT_.out (by kernel_rfl)) (fun _ _ _ h => h) (Or.inl ⟨by rfl, ?_⟩) ?_ ?_
          rotate_left
          · intro w'
            go_simp
            (try with_reducible rfl)
          rotate_left
          · simp only [Act.put, List.setIfInBounds_toArray, List.set_cons_zero, List.set_cons_succ, i64_w, i32_w]
            rfl
          refine pure_ (i := 3) (N := (some 32)) (v := ?_) (a' := ?_) #[true, true, true, true, false, false, false, false, false, false, false, false, false] rfl rfl (any_of HT_.out (by kernel_rfl)) (fun _ _ _ h => h) (Or.inl ⟨by rfl, ?_⟩) ?_ ?_
          rotate_left
          · intro w'
            go_simp
            (try with_reducible rfl)
          rotate_left
          · simp only [Act.put, List.setIfInBounds_toArray, List.set_cons_zero, List.set_cons_succ, i64_w, i32_w]
            rfl
          refine take_ (i := 4) (N := (some 33)) (v := ?_) (a' := ?_) #[true, true, true, true, true, false, false, false, false, false, false, false, false] rfl rfl (take_ofW HT_.out HW_.out (by kernel_rfl)) (fun _ _ _ h => h) (Or.inl ⟨by rfl, ?_⟩) hHeld ?_ ?_
          rotate_left
          · rintro w' ⟨sx0, sx1, sx2⟩
            go_simp
            (try with_reducible rfl)
          rotate_left
          · simp only [Act.put, List.setIfInBounds_toArray, List.set_cons_zero, List.set_cons_succ, i64_w, i32_w]
            rfl
          refine pure_ (i := 5) (N := (some 34)) (v := ?_) (a' := ?_) #[true, true, true, true, true, true, false, false, false, false, false, false, false] rfl rfl (any_of HT_.out (by kernel_rfl)) (fun _ _ _ h => h) (Or.inl ⟨by rfl, ?_⟩) ?_ ?_
          rotate_left
          · intro w'
            go_simp
            (try with_reducible rfl)
          rotate_left
          · simp only [Act.put, List.setIfInBounds_toArray, List.set_cons_zero, List.set_cons_succ, i64_w, i32_w]
            rfl
          refine pure_ (i := 6) (N := (some 35)) (v := ?_) (a' := ?_) #[true, true, true, true, true, true, true, false, false, false, false, false, false] rfl rfl (any_of HT_.out (by kernel_rfl)) (fun _ _ _ h => h) (Or.inl ⟨by rfl, ?_⟩) ?_ ?_
          rotate_left
          · intro w'
            go_simp
            (try with_reducible rfl)
          rotate_left
          · simp only [Act.put, List.setIfInBounds_toArray, List.set_cons_zero, List.set_cons_succ, i64_w, i32_w]
            rfl
          refine pure_ (i := 7) (N := (some 36)) (v := ?_) (a' := ?_) #[true, true, true, true, true, true, true, true, false, false, false, false, false] rfl rfl (any_of HT_.out (by kernel_rfl)) (fun _ _ _ h => h) (Or.inl ⟨by rfl, ?_⟩) ?_ ?_
          rotate_left
          · intro w'
            go_simp
            (try with_reducible rfl)
          rotate_left
          · simp only [Act.put, List.setIfInBounds_toArray, List.set_cons_zero, List.set_cons_succ, i64_w, i32_w]
            rfl
          refine take_ (i := 8) (N := (some 37)) (v := ?_) (a' := ?_) #[true, true, true, true, true, true, true, true, true, false, false, false, false] rfl rfl (take_ofW HT_.out HW_.out (by kernel_rfl)) (fun _ _ _ h => h) (Or.inl ⟨by rfl, ?_⟩) hHeld ?_ ?_
          rotate_left
          · rintro w' ⟨sx0, sx1, sx2⟩
            go_simp
            (try with_reducible rfl)
          rotate_left
          · simp only [Act.put, List.setIfInBounds_toArray, List.set_cons_zero, List.set_cons_succ, i64_w, i32_w]
            rfl
          refine pure_ (i := 9) (N := (some 38)) (v := ?_) (a' := ?_) #[true, true, true, true, true, true, true, true, true, true, false, false, false] rfl rfl (any_of HT_.out (by kernel_rfl)) (fun _ _ _ h => h) (Or.inl ⟨by rfl, ?_⟩) ?_ ?_
          rotate_left
          · intro w'
            go_simp
            (try with_reducible rfl)
          rotate_left
          · simp only [Act.put, List.setIfInBounds_toArray, List.set_cons_zero, List.set_cons_succ, i64_w, i32_w]
            rfl
          refine take_ (i := 10) (N := (some 39)) (v := ?_) (a' := ?_) #[true, true, true, true, true, true, true, true, true, true, true, false, false] rfl rfl (take_ofW HT_.out HW_.out (by kernel_rfl)) (fun _ _ _ h => h) (Or.inl ⟨by rfl, ?_⟩) hHeld ?_ ?_
          rotate_left
          · rintro w' ⟨sx0, sx1, sx2⟩
            go_simp
            (try with_reducible rfl)
          rotate_left
          · simp only [Act.put, List.setIfInBounds_toArray, List.set_cons_zero, List.set_cons_succ, i64_w, i32_w]
            rfl
          refine pure_ (i := 11) (N := (some 40)) (v := ?_) (a' := ?_) #[true, true, true, true, true, true, true, true, true, true, true, true, false] rfl rfl (any_of HT_.out (by kernel_rfl)) (fun _ _ _ h => h) (Or.inl ⟨by rfl, ?_⟩) ?_ ?_
          rotate_left
          · intro w'
            go_simp
            (try with_reducible rfl)
          rotate_left
          · simp only [Act.put, List.setIfInBounds_toArray, List.set_cons_zero, List.set_cons_succ, i64_w, i32_w]
            rfl
          refine pure_ (i := 12) (N := (some 41)) (v := ?_) (a' := ?_) #[true, true, true, true, true, true, true, true, true, true, true, true, true] rfl rfl (any_of HT_.out (by kernel_rfl)) (fun _ _ _ h => h) (Or.inl ⟨by rfl, ?_⟩) ?_ ?_
          rotate_left
          · intro w'
            go_simp
            (try with_reducible rfl)
          rotate_left
          · simp only [Act.put, List.setIfInBounds_toArray, List.set_cons_zero, List.set_cons_succ, i64_w, i32_w]
            rfl
          refine done_ (done_of HT_.out (by kernel_rfl)) ?_
          have p0 := (blk_cell HZ6.out 0).trans rfl
          have r0 := (blk_cell HZ2.out 0).trans rfl
          have f0 := blk_frozen HZ2.out 0
          have p1 := (blk_cell HZ6.out 1).trans rfl
          have r1 := (blk_cell HZ2.out 1).trans rfl
          have f1 := blk_frozen HZ2.out 1
          have p2 := (blk_cell HZ6.out 2).trans rfl
          have r2 := (blk_cell HZ2.out 2).trans rfl
          have f2 := blk_frozen HZ2.out 2
          have p3 := (blk_cell HZ6.out 3).trans rfl
          have r3 := (blk_cell HZ2.out 3).trans rfl
          have f3 := blk_frozen HZ2.out 3
          have p4 := (blk_cell HZ6.out 4).trans rfl
          have r4 := (blk_cell HZ2.out 4).trans rfl
          have f4 := blk_frozen HZ2.out 4
          go_wp2
          refine bodyPost_ret (results_ct rfl _ _ (w.heap.size + 2) 40 #[.int .i64 0, .int .i64 0, .int .i64 0, .int .i64 0, .int .i64 0] (0, 0) _ rfl (by rw [(blk_set (blk_set (blk_set (blk_set (blk_set HZ2.out 0 (.int .i64 0)) 1 (.int .i64 0)) 2 (.int .i64 0)) 3 (.int .i64 0)) 4 (.int .i64 0))]; rfl) Try.underlying40 rfl (by kernel_rfl)) rfl ?_
          exact ⟨by rw [HF.out]; rfl, (below_set (below_set (below_set (below_set (below_set HZB.out (by show w.heap.size ≤ w.heap.size + 2; omega)) (by show w.heap.size ≤ w.heap.size + 2; omega)) (by show w.heap.size ≤ w.heap.size + 2; omega)) (by show w.heap.size ≤ w.heap.size + 2; omega)) (by show w.heap.size ≤ w.heap.size + 2; omega))⟩
        · have HF := Aside0.mk (show timeC 9 n2 ⟨d, e, a, b, c⟩ = (⟨2, u1, u2, u3, u4⟩, true) by rw [hF]; simp [St.loop]; omega)
          clear hF hok
          go_enter Try.func17, Try.ntmps17
          go_wp2_with (go_at_call 38; refine HC0.out.mono ?_; rintro e1 w1 ⟨rfl, hb⟩; have HXN := Aside0.mk (blk_below HBN.out hb); have HX2 := Aside0.mk (blk_below HB2.out hb); have HBW := Aside0.mk (below_step hHB2.out hb); clear hb)
          have HZN := Aside0.mk (blk_drew (blk_alloc HXN.out (.cells #[.int .i64 2, .int .i64 u1, .int .i64 u2, .int .i64 u3, .int .i64 u4] 40)))
          have HZ2 := Aside0.mk (blk_drew (blk_alloc HX2.out (.cells #[.int .i64 2, .int .i64 u1, .int .i64 u2, .int .i64 u3, .int .i64 u4] 40)))
          have HZ6 := Aside0.mk (blk_drew (blk_new w1 (.cells #[.int .i64 2, .int .i64 u1, .int .i64 u2, .int .i64 u3, .int .i64 u4] 40)))
          have HZB := Aside0.mk ((below_alloc HBW.out (.cells #[.int .i64 2, .int .i64 u1, .int .i64 u2, .int .i64 u3, .int .i64 u4] 40)).drew)
          have hS0 : (fun W => W.cell? ⟨w1.heap.size, 0, none⟩ = some (.int .i64 2) ∧ W.cell? ⟨w1.heap.size, 3, none⟩ = some (.int .i64 u3) ∧ W.cell? ⟨w.heap.size, 2, none⟩ = some (.int .i64 n2)) (w1.alloc (.cells #[.int .i64 2, .int .i64 u1, .int .i64 u2, .int .i64 u3, .int .i64 u4] 40)).drew := ⟨(blk_cell HZ6.out 0).trans rfl, (blk_cell HZ6.out 3).trans rfl, (blk_cell HZN.out 2).trans rfl⟩
          have z0 : wrap64 0 = 0 := by unfold wrap64; omega
          have z1 : wrap64 1 = 1 := by unfold wrap64; omega
          have z2 : wrap64 2 = 2 := by unfold wrap64; omega
          refine start_ (n := 13) (S := fun W => W.cell? ⟨w1.heap.size, 0, none⟩ = some (.int .i64 2) ∧ W.cell? ⟨w1.heap.size, 3, none⟩ = some (.int .i64 u3) ∧ W.cell? ⟨w.heap.size, 2, none⟩ = some (.int .i64 n2)) (ds := []) #[false, false, false, false, false, false, false, false, false, false, false, false, false] (by kernel_rfl) rfl rfl hS0 (fun hHeld => ?_)
          refine with_tabW otime.tab8 otime.bits8 (fun HT_ HW_ => ?_)
          clear hS0
          generalize (w1.alloc (.cells #[.int .i64 2, .int .i64 u1, .int .i64 u2, .int .i64 u3, .int .i64 u4] 40)).drew = wz at hHeld HZN HZ2 HZ6 HZB ⊢
          refine pure_ (i := 0) (N := (some 29)) (v := ?_) (a' := ?_) #[true, false, false, false, false, false, false, false, false, false, false, false, false] rfl rfl (any_of HT_.out (by kernel_rfl)) (fun _ _ _ h => h) (Or.inl ⟨by rfl, ?_⟩) ?_ ?_
          rotate_left
          · intro w'
            go_simp
            (try with_reducible rfl)
          rotate_left
          · simp only [Act.put, List.setIfInBounds_toArray, List.set_cons_zero, List.set_cons_succ, i64_w, i32_w]
            rfl
          refine pure_ (i := 1) (N := (some 30)) (v := ?_) (a' := ?_) #[true, true, false, false, false, false, false, false, false, false, false, false, false] rfl rfl (any_of HT_.out (by kernel_rfl)) (fun _ _ _ h => h) (Or.inl ⟨by rfl, ?_⟩) ?_ ?_
          rotate_left
          · intro w'
            go_simp
            (try with_reducible rfl)
          rotate_left
          · simp only [Act.put, List.setIfInBounds_toArray, List.set_cons_zero, List.set_cons_succ, i64_w, i32_w]
            rfl
          refine pure_ (i := 2) (N := (some 31)) (v := ?_) (a' := ?_) #[true, true, true, false, false, false, false, false, false, false, false, false, false] rfl rfl (any_of HT_.out (by kernel_rfl)) (fun _ _ _ h => h) (Or.inl ⟨by rfl, ?_⟩) ?_ ?_
          rotate_left
          · intro w'
            go_simp
            (try with_reducible rfl)
          rotate_left
          · simp only [Act.put, List.setIfInBounds_toArray, List.set_cons_zero, List.set_cons_succ, i64_w, i32_w]
            rfl
          refine pure_ (i := 3) (N := (some 32)) (v := ?_) (a' := ?_) #[true, true, true, true, false, false, false, false, false, false, false, false, false] rfl rfl (any_of HT_.out (by kernel_rfl)) (fun _ _ _ h => h) (Or.inl ⟨by rfl, ?_⟩) ?_ ?_
          rotate_left
          · intro w'
            go_simp
            (try with_reducible rfl)
          rotate_left
          · simp only [Act.put, List.setIfInBounds_toArray, List.set_cons_zero, List.set_cons_succ, i64_w, i32_w]
            rfl
          refine take_ (i := 4) (N := (some 33)) (v := ?_) (a' := ?_) #[true, true, true, true, true, false, false, false, false, false, false, false, false] rfl rfl (take_ofW HT_.out HW_.out (by kernel_rfl)) (fun _ _ _ h => h) (Or.inl ⟨by rfl, ?_⟩) hHeld ?_ ?_
          rotate_left
          · rintro w' ⟨sx0, sx1, sx2⟩
            go_simp
            (try with_reducible rfl)
          rotate_left
          · simp only [Act.put, List.setIfInBounds_toArray, List.set_cons_zero, List.set_cons_succ, i64_w, i32_w]
            rfl
          refine pure_ (i := 5) (N := (some 34)) (v := ?_) (a' := ?_) #[true, true, true, true, true, true, false, false, false, false, false, false, false] rfl rfl (any_of HT_.out (by kernel_rfl)) (fun _ _ _ h => h) (Or.inl ⟨by rfl, ?_⟩) ?_ ?_
          rotate_left
          · intro w'
            go_simp
            (try with_reducible rfl)
          rotate_left
          · simp only [Act.put, List.setIfInBounds_toArray, List.set_cons_zero, List.set_cons_succ, i64_w, i32_w]
            rfl
          refine pure_ (i := 6) (N := (some 35)) (v := ?_) (a' := ?_) #[true, true, true, true, true, true, true, false, false, false, false, false, false] rfl rfl (any_of HT_.out (by kernel_rfl)) (fun _ _ _ h => h) (Or.inl ⟨by rfl, ?_⟩) ?_ ?_
          rotate_left
          · intro w'
            go_simp
            (try with_reducible rfl)
          rotate_left
          · simp only [Act.put, List.setIfInBounds_toArray, List.set_cons_zero, List.set_cons_succ, i64_w, i32_w]
            rfl
          refine pure_ (i := 7) (N := (some 36)) (v := ?_) (a' := ?_) #[true, true, true, true, true, true, true, true, false, false, false, false, false] rfl rfl (any_of HT_.out (by kernel_rfl)) (fun _ _ _ h => h) (Or.inl ⟨by rfl, ?_⟩) ?_ ?_
          rotate_left
          · intro w'
            go_simp
            (try with_reducible rfl)
          rotate_left
          · simp only [Act.put, List.setIfInBounds_toArray, List.set_cons_zero, List.set_cons_succ, i64_w, i32_w]
            rfl
          refine take_ (i := 8) (N := (some 37)) (v := ?_) (a' := ?_) #[true, true, true, true, true, true, true, true, true, false, false, false, false] rfl rfl (take_ofW HT_.out HW_.out (by kernel_rfl)) (fun _ _ _ h => h) (Or.inl ⟨by rfl, ?_⟩) hHeld ?_ ?_
          rotate_left
          · rintro w' ⟨sx0, sx1, sx2⟩
            go_simp
            (try with_reducible rfl)
          rotate_left
          · simp only [Act.put, List.setIfInBounds_toArray, List.set_cons_zero, List.set_cons_succ, i64_w, i32_w]
            rfl
          refine pure_ (i := 9) (N := (some 38)) (v := ?_) (a' := ?_) #[true, true, true, true, true, true, true, true, true, true, false, false, false] rfl rfl (any_of HT_.out (by kernel_rfl)) (fun _ _ _ h => h) (Or.inl ⟨by rfl, ?_⟩) ?_ ?_
          rotate_left
          · intro w'
            go_simp
            (try with_reducible rfl)
          rotate_left
          · simp only [Act.put, List.setIfInBounds_toArray, List.set_cons_zero, List.set_cons_succ, i64_w, i32_w]
            rfl
          refine take_ (i := 10) (N := (some 39)) (v := ?_) (a' := ?_) #[true, true, true, true, true, true, true, true, true, true, true, false, false] rfl rfl (take_ofW HT_.out HW_.out (by kernel_rfl)) (fun _ _ _ h => h) (Or.inl ⟨by rfl, ?_⟩) hHeld ?_ ?_
          rotate_left
          · rintro w' ⟨sx0, sx1, sx2⟩
            go_simp
            (try with_reducible rfl)
          rotate_left
          · simp only [Act.put, List.setIfInBounds_toArray, List.set_cons_zero, List.set_cons_succ, i64_w, i32_w]
            rfl
          refine pure_ (i := 11) (N := (some 40)) (v := ?_) (a' := ?_) #[true, true, true, true, true, true, true, true, true, true, true, true, false] rfl rfl (any_of HT_.out (by kernel_rfl)) (fun _ _ _ h => h) (Or.inl ⟨by rfl, ?_⟩) ?_ ?_
          rotate_left
          · intro w'
            go_simp
            (try with_reducible rfl)
          rotate_left
          · simp only [Act.put, List.setIfInBounds_toArray, List.set_cons_zero, List.set_cons_succ, i64_w, i32_w]
            rfl
          refine pure_ (i := 12) (N := (some 41)) (v := ?_) (a' := ?_) #[true, true, true, true, true, true, true, true, true, true, true, true, true] rfl rfl (any_of HT_.out (by kernel_rfl)) (fun _ _ _ h => h) (Or.inl ⟨by rfl, ?_⟩) ?_ ?_
          rotate_left
          · intro w'
            go_simp
            (try with_reducible rfl)
          rotate_left
          · simp only [Act.put, List.setIfInBounds_toArray, List.set_cons_zero, List.set_cons_succ, i64_w, i32_w]
            rfl
          refine done_ (done_of HT_.out (by kernel_rfl)) ?_
          have p0 := (blk_cell HZ6.out 0).trans rfl
          have r0 := (blk_cell HZ2.out 0).trans rfl
          have f0 := blk_frozen HZ2.out 0
          have p1 := (blk_cell HZ6.out 1).trans rfl
          have r1 := (blk_cell HZ2.out 1).trans rfl
          have f1 := blk_frozen HZ2.out 1
          have p2 := (blk_cell HZ6.out 2).trans rfl
          have r2 := (blk_cell HZ2.out 2).trans rfl
          have f2 := blk_frozen HZ2.out 2
          have p3 := (blk_cell HZ6.out 3).trans rfl
          have r3 := (blk_cell HZ2.out 3).trans rfl
          have f3 := blk_frozen HZ2.out 3
          have p4 := (blk_cell HZ6.out 4).trans rfl
          have r4 := (blk_cell HZ2.out 4).trans rfl
          have f4 := blk_frozen HZ2.out 4
          go_wp2
          refine bodyPost_ret (results_ct rfl _ _ (w.heap.size + 2) 40 #[.int .i64 2, .int .i64 u1, .int .i64 u2, .int .i64 u3, .int .i64 u4] (0, 0) _ rfl (by rw [(blk_set (blk_set (blk_set (blk_set (blk_set HZ2.out 0 (.int .i64 2)) 1 (.int .i64 u1)) 2 (.int .i64 u2)) 3 (.int .i64 u3)) 4 (.int .i64 u4))]; rfl) Try.underlying40 rfl (by kernel_rfl)) rfl ?_
          exact ⟨by rw [HF.out]; rfl, (below_set (below_set (below_set (below_set (below_set HZB.out (by show w.heap.size ≤ w.heap.size + 2; omega)) (by show w.heap.size ≤ w.heap.size + 2; omega)) (by show w.heap.size ≤ w.heap.size + 2; omega)) (by show w.heap.size ≤ w.heap.size + 2; omega)) (by show w.heap.size ≤ w.heap.size + 2; omega))⟩
      · by_cases kn : u4 ≥ n2
        · have HF := Aside0.mk (show timeC 9 n2 ⟨d, e, a, b, c⟩ = (St.zero, false) by rw [hF]; simp [St.loop]; omega)
          clear hF hok
          go_enter Try.func17, Try.ntmps17
          go_wp2_with (go_at_call 38; refine HC0.out.mono ?_; rintro e1 w1 ⟨rfl, hb⟩; have HXN := Aside0.mk (blk_below HBN.out hb); have HX2 := Aside0.mk (blk_below HB2.out hb); have HBW := Aside0.mk (below_step hHB2.out hb); clear hb)
          have HZN := Aside0.mk (blk_drew (blk_alloc HXN.out (.cells #[.int .i64 3, .int .i64 u1, .int .i64 u2, .int .i64 u3, .int .i64 u4] 40)))
          have HZ2 := Aside0.mk (blk_drew (blk_alloc HX2.out (.cells #[.int .i64 3, .int .i64 u1, .int .i64 u2, .int .i64 u3, .int .i64 u4] 40)))
          have HZ6 := Aside0.mk (blk_drew (blk_new w1 (.cells #[.int .i64 3, .int .i64 u1, .int .i64 u2, .int .i64 u3, .int .i64 u4] 40)))
          have HZB := Aside0.mk ((below_alloc HBW.out (.cells #[.int .i64 3, .int .i64 u1, .int .i64 u2, .int .i64 u3, .int .i64 u4] 40)).drew)
          have hS0 : (fun W => W.cell? ⟨w1.heap.size, 0, none⟩ = some (.int .i64 3) ∧ W.cell? ⟨w1.heap.size, 4, none⟩ = some (.int .i64 u4) ∧ W.cell? ⟨w.heap.size, 2, none⟩ = some (.int .i64 n2)) (w1.alloc (.cells #[.int .i64 3, .int .i64 u1, .int .i64 u2, .int .i64 u3, .int .i64 u4] 40)).drew := ⟨(blk_cell HZ6.out 0).trans rfl, (blk_cell HZ6.out 4).trans rfl, (blk_cell HZN.out 2).trans rfl⟩
          have z0 : wrap64 0 = 0 := by unfold wrap64; omega
          have z1 : wrap64 1 = 1 := by unfold wrap64; omega
          have z2 : wrap64 2 = 2 := by unfold wrap64; omega
          refine start_ (n := 13) (S := fun W => W.cell? ⟨w1.heap.size, 0, none⟩ = some (.int .i64 3) ∧ W.cell? ⟨w1.heap.size, 4, none⟩ = some (.int .i64 u4) ∧ W.cell? ⟨w.heap.size, 2, none⟩ = some (.int .i64 n2)) (ds := []) #[false, false, false, false, false, false, false, false, false, false, false, false, false] (by kernel_rfl) rfl rfl hS0 (fun hHeld => ?_)
          refine with_tabW otime.tab8 otime.bits8 (fun HT_ HW_ => ?_)
          clear hS0
          generalize (w1.alloc (.cells #[.int .i64 3, .int .i64 u1, .int .i64 u2, .int .i64 u3, .int .i64 u4] 40)).drew = wz at hHeld HZN HZ2 HZ6 HZB ⊢
          refine pure_ (i := 0) (N := (some 29)) (v := ?_) (a' := ?_) #[true, false, false, false, false, false, false, false, false, false, false, false, false] rfl rfl (any_of HT_.out (by kernel_rfl)) (fun _ _ _ h => h) (Or.inl ⟨by rfl, ?_⟩) ?_ ?_
          rotate_left
          · intro w'
            go_simp
            (try with_reducible rfl)
          rotate_left
          · simp only [Act.put, List.setIfInBounds_toArray, List.set_cons_zero, List.set_cons_succ, i64_w, i32_w]
            rfl
          refine pure_ (i := 1) (N := (some 30)) (v := ?_) (a' := ?_) #[true, true, false, false, false, false, false, false, false, false, false, false, false] rfl rfl (any_of HT_.out (by kernel_rfl)) (fun _ _ _ h => h) (Or.inl ⟨by rfl, ?_⟩) ?_ ?_
          rotate_left
          · intro w'
            go_simp
            (try with_reducible rfl)
          rotate_left
          · simp only [Act.put, List.setIfInBounds_toArray, List.set_cons_zero, List.set_cons_succ, i64_w, i32_w]
            rfl
          refine pure_ (i := 2) (N := (some 31)) (v := ?_) (a' := ?_) #[true, true, true, false, false, false, false, false, false, false, false, false, false] rfl rfl (any_of HT_.out (by kernel_rfl)) (fun _ _ _ h => h) (Or.inl ⟨by rfl, ?_⟩) ?_ ?_
          rotate_left
          · intro w'
            go_simp
            (try with_reducible rfl)
          rotate_left
          · simp only [Act.put, List.setIfInBounds_toArray, List.set_cons_zero, List.set_cons_succ, i64_w, i32_w]
            rfl
          refine pure_ (i := 3) (N := (some 32)) (v := ?_) (a' := ?_) #[true, true, true, true, false, false, false, false, false, false, false, false, false] rfl rfl (any_of HT_.out (by kernel_rfl)) (fun _ _ _ h => h) (Or.inl ⟨by rfl, ?_⟩) ?_ ?_
          rotate_left
          · intro w'
            go_simp
            (try with_reducible rfl)
          rotate_left
          · simp only [Act.put, List.setIfInBounds_toArray, List.set_cons_zero, List.set_cons_succ, i64_w, i32_w]
            rfl
          refine take_ (i := 4) (N := (some 33)) (v := ?_) (a' := ?_) #[true, true, true, true, true, false, false, false, false, false, false, false, false] rfl rfl (take_ofW HT_.out HW_.out (by kernel_rfl)) (fun _ _ _ h => h) (Or.inl ⟨by rfl, ?_⟩) hHeld ?_ ?_
          rotate_left
          · rintro w' ⟨sx0, sx1, sx2⟩
            go_simp
            (try with_reducible rfl)
          rotate_left
          · simp only [Act.put, List.setIfInBounds_toArray, List.set_cons_zero, List.set_cons_succ, i64_w, i32_w]
            rfl
          refine pure_ (i := 5) (N := (some 34)) (v := ?_) (a' := ?_) #[true, true, true, true, true, true, false, false, false, false, false, false, false] rfl rfl (any_of HT_.out (by kernel_rfl)) (fun _ _ _ h => h) (Or.inl ⟨by rfl, ?_⟩) ?_ ?_
          rotate_left
          · intro w'
            go_simp
            (try with_reducible rfl)
          rotate_left
          · simp only [Act.put, List.setIfInBounds_toArray, List.set_cons_zero, List.set_cons_succ, i64_w, i32_w]
            rfl
          refine pure_ (i := 6) (N := (some 35)) (v := ?_) (a' := ?_) #[true, true, true, true, true, true, true, false, false, false, false, false, false] rfl rfl (any_of HT_.out (by kernel_rfl)) (fun _ _ _ h => h) (Or.inl ⟨by rfl, ?_⟩) ?_ ?_
          rotate_left
          · intro w'
            go_simp
            (try with_reducible rfl)
          rotate_left
          · simp only [Act.put, List.setIfInBounds_toArray, List.set_cons_zero, List.set_cons_succ, i64_w, i32_w]
            rfl
          refine pure_ (i := 7) (N := (some 36)) (v := ?_) (a' := ?_) #[true, true, true, true, true, true, true, true, false, false, false, false, false] rfl rfl (any_of HT_.out (by kernel_rfl)) (fun _ _ _ h => h) (Or.inl ⟨by rfl, ?_⟩) ?_ ?_
          rotate_left
          · intro w'
            go_simp
            (try with_reducible rfl)
          rotate_left
          · simp only [Act.put, List.setIfInBounds_toArray, List.set_cons_zero, List.set_cons_succ, i64_w, i32_w]
            rfl
          refine take_ (i := 8) (N := (some 37)) (v := ?_) (a' := ?_) #[true, true, true, true, true, true, true, true, true, false, false, false, false] rfl rfl (take_ofW HT_.out HW_.out (by kernel_rfl)) (fun _ _ _ h => h) (Or.inl ⟨by rfl, ?_⟩) hHeld ?_ ?_
          rotate_left
          · rintro w' ⟨sx0, sx1, sx2⟩
            go_simp
            (try with_reducible rfl)
          rotate_left
          · simp only [Act.put, List.setIfInBounds_toArray, List.set_cons_zero, List.set_cons_succ, i64_w, i32_w]
            rfl
          refine pure_ (i := 9) (N := (some 38)) (v := ?_) (a' := ?_) #[true, true, true, true, true, true, true, true, true, true, false, false, false] rfl rfl (any_of HT_.out (by kernel_rfl)) (fun _ _ _ h => h) (Or.inl ⟨by rfl, ?_⟩) ?_ ?_
          rotate_left
          · intro w'
            go_simp
            (try with_reducible rfl)
          rotate_left
          · simp only [Act.put, List.setIfInBounds_toArray, List.set_cons_zero, List.set_cons_succ, i64_w, i32_w]
            rfl
          refine take_ (i := 10) (N := (some 39)) (v := ?_) (a' := ?_) #[true, true, true, true, true, true, true, true, true, true, true, false, false] rfl rfl (take_ofW HT_.out HW_.out (by kernel_rfl)) (fun _ _ _ h => h) (Or.inl ⟨by rfl, ?_⟩) hHeld ?_ ?_
          rotate_left
          · rintro w' ⟨sx0, sx1, sx2⟩
            go_simp
            (try with_reducible rfl)
          rotate_left
          · simp only [Act.put, List.setIfInBounds_toArray, List.set_cons_zero, List.set_cons_succ, i64_w, i32_w]
            rfl
          refine pure_ (i := 11) (N := (some 40)) (v := ?_) (a' := ?_) #[true, true, true, true, true, true, true, true, true, true, true, true, false] rfl rfl (any_of HT_.out (by kernel_rfl)) (fun _ _ _ h => h) (Or.inl ⟨by rfl, ?_⟩) ?_ ?_
          rotate_left
          · intro w'
            go_simp
            (try with_reducible rfl)
          rotate_left
          · simp only [Act.put, List.setIfInBounds_toArray, List.set_cons_zero, List.set_cons_succ, i64_w, i32_w]
            rfl
          refine pure_ (i := 12) (N := (some 41)) (v := ?_) (a' := ?_) #[true, true, true, true, true, true, true, true, true, true, true, true, true] rfl rfl (any_of HT_.out (by kernel_rfl)) (fun _ _ _ h => h) (Or.inl ⟨by rfl, ?_⟩) ?_ ?_
          rotate_left
          · intro w'
            go_simp
            (try with_reducible rfl)
          rotate_left
          · simp only [Act.put, List.setIfInBounds_toArray, List.set_cons_zero, List.set_cons_succ, i64_w, i32_w]
            rfl
          refine done_ (done_of HT_.out (by kernel_rfl)) ?_
          have p0 := (blk_cell HZ6.out 0).trans rfl
          have r0 := (blk_cell HZ2.out 0).trans rfl
          have f0 := blk_frozen HZ2.out 0
          have p1 := (blk_cell HZ6.out 1).trans rfl
          have r1 := (blk_cell HZ2.out 1).trans rfl
          have f1 := blk_frozen HZ2.out 1
          have p2 := (blk_cell HZ6.out 2).trans rfl
          have r2 := (blk_cell HZ2.out 2).trans rfl
          have f2 := blk_frozen HZ2.out 2
          have p3 := (blk_cell HZ6.out 3).trans rfl
          have r3 := (blk_cell HZ2.out 3).trans rfl
          have f3 := blk_frozen HZ2.out 3
          have p4 := (blk_cell HZ6.out 4).trans rfl
          have r4 := (blk_cell HZ2.out 4).trans rfl
          have f4 := blk_frozen HZ2.out 4
          go_wp2
          refine bodyPost_ret (results_ct rfl _ _ (w.heap.size + 2) 40 #[.int .i64 0, .int .i64 0, .int .i64 0, .int .i64 0, .int .i64 0] (0, 0) _ rfl (by rw [(blk_set (blk_set (blk_set (blk_set (blk_set HZ2.out 0 (.int .i64 0)) 1 (.int .i64 0)) 2 (.int .i64 0)) 3 (.int .i64 0)) 4 (.int .i64 0))]; rfl) Try.underlying40 rfl (by kernel_rfl)) rfl ?_
          exact ⟨by rw [HF.out]; rfl, (below_set (below_set (below_set (below_set (below_set HZB.out (by show w.heap.size ≤ w.heap.size + 2; omega)) (by show w.heap.size ≤ w.heap.size + 2; omega)) (by show w.heap.size ≤ w.heap.size + 2; omega)) (by show w.heap.size ≤ w.heap.size + 2; omega)) (by show w.heap.size ≤ w.heap.size + 2; omega))⟩
        · have HF := Aside0.mk (show timeC 9 n2 ⟨d, e, a, b, c⟩ = (⟨3, u1, u2, u3, u4⟩, true) by rw [hF]; simp [St.loop]; omega)
          clear hF hok
          go_enter Try.func17, Try.ntmps17
          go_wp2_with (go_at_call 38; refine HC0.out.mono ?_; rintro e1 w1 ⟨rfl, hb⟩; have HXN := Aside0.mk (blk_below HBN.out hb); have HX2 := Aside0.mk (blk_below HB2.out hb); have HBW := Aside0.mk (below_step hHB2.out hb); clear hb)
          have HZN := Aside0.mk (blk_drew (blk_alloc HXN.out (.cells #[.int .i64 3, .int .i64 u1, .int .i64 u2, .int .i64 u3, .int .i64 u4] 40)))
          have HZ2 := Aside0.mk (blk_drew (blk_alloc HX2.out (.cells #[.int .i64 3, .int .i64 u1, .int .i64 u2, .int .i64 u3, .int .i64 u4] 40)))
          have HZ6 := Aside0.mk (blk_drew (blk_new w1 (.cells #[.int .i64 3, .int .i64 u1, .int .i64 u2, .int .i64 u3, .int .i64 u4] 40)))
          have HZB := Aside0.mk ((below_alloc HBW.out (.cells #[.int .i64 3, .int .i64 u1, .int .i64 u2, .int .i64 u3, .int .i64 u4] 40)).drew)
          have hS0 : (fun W => W.cell? ⟨w1.heap.size, 0, none⟩ = some (.int .i64 3) ∧ W.cell? ⟨w1.heap.size, 4, none⟩ = some (.int .i64 u4) ∧ W.cell? ⟨w.heap.size, 2, none⟩ = some (.int .i64 n2)) (w1.alloc (.cells #[.int .i64 3, .int .i64 u1, .int .i64 u2, .int .i64 u3, .int .i64 u4] 40)).drew := ⟨(blk_cell HZ6.out 0).trans rfl, (blk_cell HZ6.out 4).trans rfl, (blk_cell HZN.out 2).trans rfl⟩
          have z0 : wrap64 0 = 0 := by unfold wrap64; omega
          have z1 : wrap64 1 = 1 := by unfold wrap64; omega
          have z2 : wrap64 2 = 2 := by unfold wrap64; omega
          refine start_ (n := 13) (S := fun W => W.cell? ⟨w1.heap.size, 0, none⟩ = some (.int .i64 3) ∧ W.cell? ⟨w1.heap.size, 4, none⟩ = some (.int .i64 u4) ∧ W.cell? ⟨w.heap.size, 2, none⟩ = some (.int .i64 n2)) (ds := []) #[false, false, false, false, false, false, false, false, false, false, false, false, false] (by kernel_rfl) rfl rfl hS0 (fun hHeld => ?_)
          refine with_tabW otime.tab8 otime.bits8 (fun HT_ HW_ => ?_)
          clear hS0
          generalize (w1.alloc (.cells #[.int .i64 3, .int .i64 u1, .int .i64 u2, .int .i64 u3, .int .i64 u4] 40)).drew = wz at hHeld HZN HZ2 HZ6 HZB ⊢
          refine pure_ (i := 0) (N := (some 29)) (v := ?_) (a' := ?_) #[true, false, false, false, false, false, false, false, false, false, false, false, false] rfl rfl (any_of HT_.out (by kernel_rfl)) (fun _ _ _ h => h) (Or.inl ⟨by rfl, ?_⟩) ?_ ?_
          rotate_left
          · intro w'
            go_simp
            (try with_reducible rfl)
          rotate_left
          · simp only [Act.put, List.setIfInBounds_toArray, List.set_cons_zero, List.set_cons_succ, i64_w, i32_w]
            rfl
          refine pure_ (i := 1) (N := (some 30)) (v := ?_) (a' := ?_) #[true, true, false, false, false, false, false, false, false, false, false, false, false] rfl rfl (any_of HT_.out (by kernel_rfl)) (fun _ _ _ h => h) (Or.inl ⟨by rfl, ?_⟩) ?_ ?_
          rotate_left
          · intro w'
            go_simp
            (try with_reducible rfl)
          rotate_left
          · simp only [Act.put, List.setIfInBounds_toArray, List.set_cons_zero, List.set_cons_succ, i64_w, i32_w]
            rfl
          refine pure_ (i := 2) (N := (some 31)) (v := ?_) (a' := ?_) #[true, true, true, false, false, false, false, false, false, false, false, false, false] rfl rfl (any_of HT_.out (by kernel_rfl)) (fun _ _ _ h => h) (Or.inl ⟨by rfl, ?_⟩) ?_ ?_
          rotate_left
          · intro w'
            go_simp
            (try with_reducible rfl)
          rotate_left
          · simp only [Act.put, List.setIfInBounds_toArray, List.set_cons_zero, List.set_cons_succ, i64_w, i32_w]
            rfl
          refine pure_ (i := 3) (N := (some 32)) (v := ?_) (a' := ?_) #[true, true, true, true, false, false, false, false, false, false, false, false, false] rfl rfl (any_of HT_.out (by kernel_rfl)) (fun _ _ _ h => h) (Or.inl ⟨by rfl, ?_⟩) ?_ ?_
          rotate_left
          · intro w'
            go_simp
            (try with_reducible rfl)
          rotate_left
          · simp only [Act.put, List.setIfInBounds_toArray, List.set_cons_zero, List.set_cons_succ, i64_w, i32_w]
            rfl
          refine take_ (i := 4) (N := (some 33)) (v := ?_) (a' := ?_) #[true, true, true, true, true, false, false, false, false, false, false, false, false] rfl rfl (take_ofW HT_.out HW_.out (by kernel_rfl)) (fun _ _ _ h => h) (Or.inl ⟨by rfl, ?_⟩) hHeld ?_ ?_
          rotate_left
          · rintro w' ⟨sx0, sx1, sx2⟩
            go_simp
            (try with_reducible rfl)
          rotate_left
          · simp only [Act.put, List.setIfInBounds_toArray, List.set_cons_zero, List.set_cons_succ, i64_w, i32_w]
            rfl
          refine pure_ (i := 5) (N := (some 34)) (v := ?_) (a' := ?_) #[true, true, true, true, true, true, false, false, false, false, false, false, false] rfl rfl (any_of HT_.out (by kernel_rfl)) (fun _ _ _ h => h) (Or.inl ⟨by rfl, ?_⟩) ?_ ?_
          rotate_left
          · intro w'
            go_simp
            (try with_reducible rfl)
          rotate_left
          · simp only [Act.put, List.setIfInBounds_toArray, List.set_cons_zero, List.set_cons_succ, i64_w, i32_w]
            rfl
          refine pure_ (i := 6) (N := (some 35)) (v := ?_) (a' := ?_) #[true, true, true, true, true, true, true, false, false, false, false, false, false] rfl rfl (any_of HT_.out (by kernel_rfl)) (fun _ _ _ h => h) (Or.inl ⟨by rfl, ?_⟩) ?_ ?_
          rotate_left
          · intro w'
            go_simp
            (try with_reducible rfl)
          rotate_left
          · simp only [Act.put, List.setIfInBounds_toArray, List.set_cons_zero, List.set_cons_succ, i64_w, i32_w]
            rfl
          refine pure_ (i := 7) (N := (some 36)) (v := ?_) (a' := ?_) #[true, true, true, true, true, true, true, true, false, false, false, false, false] rfl rfl (any_of HT_.out (by kernel_rfl)) (fun _ _ _ h => h) (Or.inl ⟨by rfl, ?_⟩) ?_ ?_
          rotate_left
          · intro w'
            go_simp
            (try with_reducible rfl)
          rotate_left
          · simp only [Act.put, List.setIfInBounds_toArray, List.set_cons_zero, List.set_cons_succ, i64_w, i32_w]
            rfl
          refine take_ (i := 8) (N := (some 37)) (v := ?_) (a' := ?_) #[true, true, true, true, true, true, true, true, true, false, false, false, false] rfl rfl (take_ofW HT_.out HW_.out (by kernel_rfl)) (fun _ _ _ h => h) (Or.inl ⟨by rfl, ?_⟩) hHeld ?_ ?_
          rotate_left
          · rintro w' ⟨sx0, sx1, sx2⟩
            go_simp
            (try with_reducible rfl)
          rotate_left
          · simp only [Act.put, List.setIfInBounds_toArray, List.set_cons_zero, List.set_cons_succ, i64_w, i32_w]
            rfl
          refine pure_ (i := 9) (N := (some 38)) (v := ?_) (a' := ?_) #[true, true, true, true, true, true, true, true, true, true, false, false, false] rfl rfl (any_of HT_.out (by kernel_rfl)) (fun _ _ _ h => h) (Or.inl ⟨by rfl, ?_⟩) ?_ ?_
          rotate_left
          · intro w'
            go_simp
            (try with_reducible rfl)
          rotate_left
          · simp only [Act.put, List.setIfInBounds_toArray, List.set_cons_zero, List.set_cons_succ, i64_w, i32_w]
            rfl
          refine take_ (i := 10) (N := (some 39)) (v := ?_) (a' := ?_) #[true, true, true, true, true, true, true, true, true, true, true, false, false] rfl rfl (take_ofW HT_.out HW_.out (by kernel_rfl)) (fun _ _ _ h => h) (Or.inl ⟨by rfl, ?_⟩) hHeld ?_ ?_
          rotate_left
          · rintro w' ⟨sx0, sx1, sx2⟩
            go_simp
            (try with_reducible rfl)
          rotate_left
          · simp only [Act.put, List.setIfInBounds_toArray, List.set_cons_zero, List.set_cons_succ, i64_w, i32_w]
            rfl
          refine pure_ (i := 11) (N := (some 40)) (v := ?_) (a' := ?_) #[true, true, true, true, true, true, true, true, true, true, true, true, false] rfl rfl (any_of HT_.out (by kernel_rfl)) (fun _ _ _ h => h) (Or.inl ⟨by rfl, ?_⟩) ?_ ?_
          rotate_left
          · intro w'
            go_simp
            (try with_reducible rfl)
          rotate_left
          · simp only [Act.put, List.setIfInBounds_toArray, List.set_cons_zero, List.set_cons_succ, i64_w, i32_w]
            rfl
          refine pure_ (i := 12) (N := (some 41)) (v := ?_) (a' := ?_) #[true, true, true, true, true, true, true, true, true, true, true, true, true] rfl rfl (any_of HT_.out (by kernel_rfl)) (fun _ _ _ h => h) (Or.inl ⟨by rfl, ?_⟩) ?_ ?_
          rotate_left
          · intro w'
            go_simp
            (try with_reducible rfl)
          rotate_left
          · simp only [Act.put, List.setIfInBounds_toArray, List.set_cons_zero, List.set_cons_succ, i64_w, i32_w]
            rfl
          refine done_ (done_of HT_.out (by kernel_rfl)) ?_
          have p0 := (blk_cell HZ6.out 0).trans rfl
          have r0 := (blk_cell HZ2.out 0).trans rfl
          have f0 := blk_frozen HZ2.out 0
          have p1 := (blk_cell HZ6.out 1).trans rfl
          have r1 := (blk_cell HZ2.out 1).trans rfl
          have f1 := blk_frozen HZ2.out 1
          have p2 := (blk_cell HZ6.out 2).trans rfl
          have r2 := (blk_cell HZ2.out 2).trans rfl
          have f2 := blk_frozen HZ2.out 2
          have p3 := (blk_cell HZ6.out 3).trans rfl
          have r3 := (blk_cell HZ2.out 3).trans rfl
          have f3 := blk_frozen HZ2.out 3
          have p4 := (blk_cell HZ6.out 4).trans rfl
          have r4 := (blk_cell HZ2.out 4).trans rfl
          have f4 := blk_frozen HZ2.out 4
          go_wp2
          refine bodyPost_ret (results_ct rfl _ _ (w.heap.size + 2) 40 #[.int .i64 3, .int .i64 u1, .int .i64 u2, .int .i64 u3, .int .i64 u4] (0, 0) _ rfl (by rw [(blk_set (blk_set (blk_set (blk_set (blk_set HZ2.out 0 (.int .i64 3)) 1 (.int .i64 u1)) 2 (.int .i64 u2)) 3 (.int .i64 u3)) 4 (.int .i64 u4))]; rfl) Try.underlying40 rfl (by kernel_rfl)) rfl ?_
          exact ⟨by rw [HF.out]; rfl, (below_set (below_set (below_set (below_set (below_set HZB.out (by show w.heap.size ≤ w.heap.size + 2; omega)) (by show w.heap.size ≤ w.heap.size + 2; omega)) (by show w.heap.size ≤ w.heap.size + 2; omega)) (by show w.heap.size ≤ w.heap.size + 2; omega)) (by show w.heap.size ≤ w.heap.size + 2; omega))⟩
  have HBN := Aside0.mk (blk_alloc (blk_alloc (blk_new w (.cells #[.int .u8 n0, .int .u8 n1, .int .i64 n2, .int .i64 n3, .slice A4 m4 c4] 24)) (.cells #[.int .i64 d, .int .i64 e, .int .i64 a, .int .i64 b, .int .i64 c] 40)) (.cells #[.int .i64 0, .int .i64 0, .int .i64 0, .int .i64 0, .int .i64 0] 40))
  have HB1 := Aside0.mk (show ((((w.alloc (.cells #[.int .u8 n0, .int .u8 n1, .int .i64 n2, .int .i64 n3, .slice A4 m4 c4] 24)).alloc (.cells #[.int .i64 d, .int .i64 e, .int .i64 a, .int .i64 b, .int .i64 c] 40)).alloc (.cells #[.int .i64 0, .int .i64 0, .int .i64 0, .int .i64 0, .int .i64 0] 40))).heap[w.heap.size + 1]? = some (.cells #[.int .i64 d, .int .i64 e, .int .i64 a, .int .i64 b, .int .i64 c] 40 (0, 0)) from blk_alloc (by simpa using heap_alloc_last (w.alloc (.cells #[.int .u8 n0, .int .u8 n1, .int .i64 n2, .int .i64 n3, .slice A4 m4 c4] 24)) (.cells #[.int .i64 d, .int .i64 e, .int .i64 a, .int .i64 b, .int .i64 c] 40)) _)
  have HB2 := Aside0.mk (show ((((w.alloc (.cells #[.int .u8 n0, .int .u8 n1, .int .i64 n2, .int .i64 n3, .slice A4 m4 c4] 24)).alloc (.cells #[.int .i64 d, .int .i64 e, .int .i64 a, .int .i64 b, .int .i64 c] 40)).alloc (.cells #[.int .i64 0, .int .i64 0, .int .i64 0, .int .i64 0, .int .i64 0] 40))).heap[w.heap.size + 2]? = some (.cells #[.int .i64 0, .int .i64 0, .int .i64 0, .int .i64 0, .int .i64 0] 40 (0, 0)) by simpa using heap_alloc_last ((w.alloc (.cells #[.int .u8 n0, .int .u8 n1, .int .i64 n2, .int .i64 n3, .slice A4 m4 c4] 24)).alloc (.cells #[.int .i64 d, .int .i64 e, .int .i64 a, .int .i64 b, .int .i64 c] 40)) (.cells #[.int .i64 0, .int .i64 0, .int .i64 0, .int .i64 0, .int .i64 0] 40))
  have hHB2 := Aside0.mk (below_alloc (below_alloc (below_alloc (Below.refl w.heap.size w) (.cells #[.int .u8 n0, .int .u8 n1, .int .i64 n2, .int .i64 n3, .slice A4 m4 c4] 24)) (.cells #[.int .i64 d, .int .i64 e, .int .i64 a, .int .i64 b, .int .i64 c] 40)) (.cells #[.int .i64 0, .int .i64 0, .int .i64 0, .int .i64 0, .int .i64 0] 40))
  have HC0 := Aside0.mk (stamp_Right_calls ⟨d, e, a, b, c⟩ ((((w.alloc (.cells #[.int .u8 n0, .int .u8 n1, .int .i64 n2, .int .i64 n3, .slice A4 m4 c4] 24)).alloc (.cells #[.int .i64 d, .int .i64 e, .int .i64 a, .int .i64 b, .int .i64 c] 40)).alloc (.cells #[.int .i64 0, .int .i64 0, .int .i64 0, .int .i64 0, .int .i64 0] 40))))
  have hF : timeC n0 n2 ⟨d, e, a, b, c⟩ = (if rightB ⟨d, e, a, b, c⟩ = false then (St.zero, false) else (⟨d, e, a, b, c⟩, true)) := by simp [timeC, k7, k8, k9]
  have b7 : (n0 == 7) = false := beq_eq_false_iff_ne.2 k7
  have b8 : (n0 == 8) = false := beq_eq_false_iff_ne.2 k8
  have b9 : (n0 == 9) = false := beq_eq_false_iff_ne.2 k9
  generalize rightB ⟨d, e, a, b, c⟩ = u at HC0 hF
  simp only [stV] at HC0
  clear k7 k8 k9
  cases u with
  | false =>
    have HF := Aside0.mk (show timeC n0 n2 ⟨d, e, a, b, c⟩ = (St.zero, false) by rw [hF]; simp)
    clear hF
    go_enter Try.func17, Try.ntmps17
    go_wp2_with (go_at_call 39; refine HC0.out.mono ?_; rintro e1 w1 ⟨rfl, hb⟩; have HX1 := Aside0.mk (blk_below HB1.out hb); have HX2 := Aside0.mk (blk_below HB2.out hb); have HBW := Aside0.mk (below_step hHB2.out hb); clear hb; have p1_0 := (blk_cell HX1.out 0).trans rfl; have p1_1 := (blk_cell HX1.out 1).trans rfl; have p1_2 := (blk_cell HX1.out 2).trans rfl; have p1_3 := (blk_cell HX1.out 3).trans rfl; have p1_4 := (blk_cell HX1.out 4).trans rfl; have r1_0 := (blk_cell HX2.out 0).trans rfl; have r1_1 := (blk_cell HX2.out 1).trans rfl; have r1_2 := (blk_cell HX2.out 2).trans rfl; have r1_3 := (blk_cell HX2.out 3).trans rfl; have r1_4 := (blk_cell HX2.out 4).trans rfl; have f1_0 := blk_frozen HX1.out 0; have f1_1 := blk_frozen HX1.out 1; have f1_2 := blk_frozen HX1.out 2; have f1_3 := blk_frozen HX1.out 3; have f1_4 := blk_frozen HX1.out 4; have g1_0 := blk_frozen HX2.out 0; have g1_1 := blk_frozen HX2.out 1; have g1_2 := blk_frozen HX2.out 2; have g1_3 := blk_frozen HX2.out 3; have g1_4 := blk_frozen HX2.out 4)
    refine bodyPost_ret (results_ct rfl _ _ (w.heap.size + 2) 40 #[.int .i64 0, .int .i64 0, .int .i64 0, .int .i64 0, .int .i64 0] (0, 0) _ rfl (by rw [(blk_set (blk_set (blk_set (blk_set (blk_set HX2.out 0 (.int .i64 0)) 1 (.int .i64 0)) 2 (.int .i64 0)) 3 (.int .i64 0)) 4 (.int .i64 0))]; rfl) Try.underlying40 rfl (by kernel_rfl)) rfl ?_
    exact ⟨by rw [HF.out]; rfl, (below_set (below_set (below_set (below_set (below_set HBW.out (by show w.heap.size ≤ w.heap.size + 2; omega)) (by show w.heap.size ≤ w.heap.size + 2; omega)) (by show w.heap.size ≤ w.heap.size + 2; omega)) (by show w.heap.size ≤ w.heap.size + 2; omega)) (by show w.heap.size ≤ w.heap.size + 2; omega))⟩
  | true =>
    have HF := Aside0.mk (show timeC n0 n2 ⟨d, e, a, b, c⟩ = (⟨d, e, a, b, c⟩, true) by rw [hF]; simp)
    clear hF
    go_enter Try.func17, Try.ntmps17
    go_wp2_with (go_at_call 39; refine HC0.out.mono ?_; rintro e1 w1 ⟨rfl, hb⟩; have HX1 := Aside0.mk (blk_below HB1.out hb); have HX2 := Aside0.mk (blk_below HB2.out hb); have HBW := Aside0.mk (below_step hHB2.out hb); clear hb; have p1_0 := (blk_cell HX1.out 0).trans rfl; have p1_1 := (blk_cell HX1.out 1).trans rfl; have p1_2 := (blk_cell HX1.out 2).trans rfl; have p1_3 := (blk_cell HX1.out 3).trans rfl; have p1_4 := (blk_cell HX1.out 4).trans rfl; have r1_0 := (blk_cell HX2.out 0).trans rfl; have r1_1 := (blk_cell HX2.out 1).trans rfl; have r1_2 := (blk_cell HX2.out 2).trans rfl; have r1_3 := (blk_cell HX2.out 3).trans rfl; have r1_4 := (blk_cell HX2.out 4).trans rfl; have f1_0 := blk_frozen HX1.out 0; have f1_1 := blk_frozen HX1.out 1; have f1_2 := blk_frozen HX1.out 2; have f1_3 := blk_frozen HX1.out 3; have f1_4 := blk_frozen HX1.out 4; have g1_0 := blk_frozen HX2.out 0; have g1_1 := blk_frozen HX2.out 1; have g1_2 := blk_frozen HX2.out 2; have g1_3 := blk_frozen HX2.out 3; have g1_4 := blk_frozen HX2.out 4)
    refine bodyPost_ret (results_ct rfl _ _ (w.heap.size + 2) 40 #[.int .i64 d, .int .i64 e, .int .i64 a, .int .i64 b, .int .i64 c] (0, 0) _ rfl (by rw [(blk_set (blk_set (blk_set (blk_set (blk_set HX2.out 0 (.int .i64 d)) 1 (.int .i64 e)) 2 (.int .i64 a)) 3 (.int .i64 b)) 4 (.int .i64 c))]; rfl) Try.underlying40 rfl (by kernel_rfl)) rfl ?_
    exact ⟨by rw [HF.out]; rfl, (below_set (below_set (below_set (below_set (below_set HBW.out (by show w.heap.size ≤ w.heap.size + 2; omega)) (by show w.heap.size ≤ w.heap.size + 2; omega)) (by show w.heap.size ≤ w.heap.size + 2; omega)) (by show w.heap.size ≤ w.heap.size + 2; omega)) (by show w.heap.size ≤ w.heap.size + 2; omega))⟩
end Go.Proofs.Ytcihpjkjodhdpaa.X
namespace Go.Proofs.Ytcihpjkjodhdpaa.X
set_option linter.unusedVariables false
set_option linter.unusedSimpArgs false
open Go.RowKit Go.Proofs.YtcihpjkjodhdpaaW.PrintWords Go.Proofs.YtcihpjkjodhdpaaW.PrintLast Go.Proofs.YtcihpjkjodhdpaaW.PrintMore
theorem stepC_eq {t : St} (h : rightB t = true) : stepC t = if t.d = 0 then (St.zero, false) else if t.loop (t.d - 1).toNat + 1 ≥ 16 then (St.zero, false) else (stepped t, true) := by
  unfold stepC
  rw [if_neg (by rw [h]; simp)]
  by_cases h0 : t.d = 0
  · rw [if_pos h0, if_pos h0]
  rw [if_neg h0, if_neg h0]
  obtain ⟨i0, i1, i2, i3, i4, i5, i6, i7, i8, i9⟩ := right_in h
  obtain ⟨d, e, a, b, c⟩ := t
  simp only at *
  unfold rightB okLoop at h
  simp only [Bool.and_eq_true, Bool.or_eq_true, decide_eq_true_eq, beq_iff_eq] at h
  have hd : d = 1 ∨ d = 2 ∨ d = 3 := by omega
  have key : rightB (stepped ⟨d, e, a, b, c⟩) = false ↔ St.loop ⟨d, e, a, b, c⟩ (d - 1).toNat + 1 ≥ 16 := by
    unfold rightB okLoop stepped
    rw [Bool.eq_false_iff]
    simp only [ne_eq, Bool.and_eq_true, Bool.or_eq_true, decide_eq_true_eq, beq_iff_eq]
    rcases hd with rfl | rfl | rfl <;> simp [St.loop] <;> omega
  by_cases hk : St.loop ⟨d, e, a, b, c⟩ (d - 1).toNat + 1 ≥ 16
  · rw [if_pos (key.2 hk), if_pos hk]
  · rw [if_neg (fun h => hk (key.1 h)), if_neg hk]
set_option maxHeartbeats 8000000 in
set_option maxRecDepth 100000 in
theorem ref05_Out_calls (t : St) (w : World) : Calls Try.prog 41 #[stV t] w fun e w' => e = .returned (.tuple #[stV (outC t).1, .bool (outC t).2]) ∧ Below w.heap.size w w' := by
  obtain ⟨d, e, a, b, c⟩ := t
  show Calls Try.prog 41 #[.agg #[.int .i64 d, .int .i64 e, .int .i64 a, .int .i64 b, .int .i64 c]] w _
  have hHB := Aside0.mk (Below.refl w.heap.size w)
  have HB1 := Aside0.mk (blk_alloc (blk_new w (.cells #[.int .i64 d, .int .i64 e, .int .i64 a, .int .i64 b, .int .i64 c] 40)) (.cells #[.int .i64 0, .int .i64 0, .int .i64 0, .int .i64 0, .int .i64 0] 40))
  have HB2 := Aside0.mk (show (((w.alloc (.cells #[.int .i64 d, .int .i64 e, .int .i64 a, .int .i64 b, .int .i64 c] 40)).alloc (.cells #[.int .i64 0, .int .i64 0, .int .i64 0, .int .i64 0, .int .i64 0] 40))).heap[w.heap.size + 1]? = some (.cells #[.int .i64 0, .int .i64 0, .int .i64 0, .int .i64 0, .int .i64 0] 40 (0, 0)) by simpa using heap_alloc_last (w.alloc (.cells #[.int .i64 d, .int .i64 e, .int .i64 a, .int .i64 b, .int .i64 c] 40)) (.cells #[.int .i64 0, .int .i64 0, .int .i64 0, .int .i64 0, .int .i64 0] 40))
  have hHB2 := Aside0.mk (below_alloc (below_alloc hHB.out (.cells #[.int .i64 d, .int .i64 e, .int .i64 a, .int .i64 b, .int .i64 c] 40)) (.cells #[.int .i64 0, .int .i64 0, .int .i64 0, .int .i64 0, .int .i64 0] 40))
  have HC0 := Aside0.mk (ref05_Right_calls ⟨d, e, a, b, c⟩ (((w.alloc (.cells #[.int .i64 d, .int .i64 e, .int .i64 a, .int .i64 b, .int .i64 c] 40)).alloc (.cells #[.int .i64 0, .int .i64 0, .int .i64 0, .int .i64 0, .int .i64 0] 40))))
  simp only [stV] at HC0
  obtain ⟨rb, hrb⟩ : ∃ rb, rb = rightB ⟨d, e, a, b, c⟩ := ⟨_, rfl⟩
  rw [← hrb] at HC0
  cases rb with
  | false =>
    have HF := Aside0.mk (show outC ⟨d, e, a, b, c⟩ = (St.zero, false) by unfold outC; rw [if_pos hrb.symm])
    clear hrb
    go_enter Try.func41, Try.ntmps41
    go_wp2_with (go_at_call 43; refine HC0.out.mono ?_; rintro e1 w1 ⟨rfl, hb⟩; have HX1 := Aside0.mk (blk_below HB1.out hb); have HX2 := Aside0.mk (blk_below HB2.out hb); have HBW := Aside0.mk (below_step hHB2.out hb); clear hb; have p1_0 := (blk_cell HX1.out 0).trans rfl; have p1_1 := (blk_cell HX1.out 1).trans rfl; have p1_2 := (blk_cell HX1.out 2).trans rfl; have p1_3 := (blk_cell HX1.out 3).trans rfl; have p1_4 := (blk_cell HX1.out 4).trans rfl; have r1_0 := (blk_cell HX2.out 0).trans rfl; have r1_1 := (blk_cell HX2.out 1).trans rfl; have r1_2 := (blk_cell HX2.out 2).trans rfl; have r1_3 := (blk_cell HX2.out 3).trans rfl; have r1_4 := (blk_cell HX2.out 4).trans rfl; have f1_0 := blk_frozen HX1.out 0; have f1_1 := blk_frozen HX1.out 1; have f1_2 := blk_frozen HX1.out 2; have f1_3 := blk_frozen HX1.out 3; have f1_4 := blk_frozen HX1.out 4; have g1_0 := blk_frozen HX2.out 0; have g1_1 := blk_frozen HX2.out 1; have g1_2 := blk_frozen HX2.out 2; have g1_3 := blk_frozen HX2.out 3; have g1_4 := blk_frozen HX2.out 4)
    refine bodyPost_ret (results_ct rfl _ _ (w.heap.size + 1) 40 #[.int .i64 0, .int .i64 0, .int .i64 0, .int .i64 0, .int .i64 0] (0, 0) _ rfl (by first | (rw [(blk_set (blk_set (blk_set (blk_set (blk_set HX2.out 0 (.int .i64 0)) 1 (.int .i64 0)) 2 (.int .i64 0)) 3 (.int .i64 0)) 4 (.int .i64 0))]; rfl) | (go_simp; done) | (simpa using heap_alloc_last (w.alloc _) _)) Try.underlying40 rfl (by kernel_rfl)) rfl ?_
    exact ⟨by rw [HF.out]; rfl, by first | exact (below_set (below_set (below_set (below_set (below_set HBW.out (by simp)) (by simp)) (by simp)) (by simp)) (by simp)) | (repeat (first | exact hHB.out | apply below_alloc | refine below_set ?_ (by first | exact Nat.le_refl _ | (simp; done) | (simp; omega))))⟩
  | true =>
    have hin := right_in hrb.symm
    simp only at hin
    obtain ⟨i0, i1, i2, i3, i4, i5, i6, i7, i8, i9⟩ := hin
    have hd : d = 0 ∨ d = 1 ∨ d = 2 ∨ d = 3 := by omega
    rcases hd with rfl | rfl | rfl | rfl
    · have HF := Aside0.mk (show outC ⟨0, e, a, b, c⟩ = (St.zero, false) by unfold outC; rw [if_neg (by rw [← hrb]; simp)]; simp)
      clear hrb
      go_enter Try.func41, Try.ntmps41
      go_wp2_with (go_at_call 43; refine HC0.out.mono ?_; rintro e1 w1 ⟨rfl, hb⟩; have HX1 := Aside0.mk (blk_below HB1.out hb); have HX2 := Aside0.mk (blk_below HB2.out hb); have HBW := Aside0.mk (below_step hHB2.out hb); clear hb; have p1_0 := (blk_cell HX1.out 0).trans rfl; have p1_1 := (blk_cell HX1.out 1).trans rfl; have p1_2 := (blk_cell HX1.out 2).trans rfl; have p1_3 := (blk_cell HX1.out 3).trans rfl; have p1_4 := (blk_cell HX1.out 4).trans rfl; have r1_0 := (blk_cell HX2.out 0).trans rfl; have r1_1 := (blk_cell HX2.out 1).trans rfl; have r1_2 := (blk_cell HX2.out 2).trans rfl; have r1_3 := (blk_cell HX2.out 3).trans rfl; have r1_4 := (blk_cell HX2.out 4).trans rfl; have f1_0 := blk_frozen HX1.out 0; have f1_1 := blk_frozen HX1.out 1; have f1_2 := blk_frozen HX1.out 2; have f1_3 := blk_frozen HX1.out 3; have f1_4 := blk_frozen HX1.out 4; have g1_0 := blk_frozen HX2.out 0; have g1_1 := blk_frozen HX2.out 1; have g1_2 := blk_frozen HX2.out 2; have g1_3 := blk_frozen HX2.out 3; have g1_4 := blk_frozen HX2.out 4)
      refine bodyPost_ret (results_ct rfl _ _ (w.heap.size + 1) 40 #[.int .i64 0, .int .i64 0, .int .i64 0, .int .i64 0, .int .i64 0] (0, 0) _ rfl (by first | (rw [(blk_set (blk_set (blk_set (blk_set (blk_set HX2.out 0 (.int .i64 0)) 1 (.int .i64 0)) 2 (.int .i64 0)) 3 (.int .i64 0)) 4 (.int .i64 0))]; rfl) | (go_simp; done) | (simpa using heap_alloc_last (w.alloc _) _)) Try.underlying40 rfl (by kernel_rfl)) rfl ?_
      exact ⟨by rw [HF.out]; rfl, by first | exact (below_set (below_set (below_set (below_set (below_set HBW.out (by simp)) (by simp)) (by simp)) (by simp)) (by simp)) | (repeat (first | exact hHB.out | apply below_alloc | refine below_set ?_ (by first | exact Nat.le_refl _ | (simp; done) | (simp; omega))))⟩
    · have HF := Aside0.mk (show outC ⟨1, e, a, b, c⟩ = (⟨0, e, 0, b, c⟩, true) by unfold outC; rw [if_neg (by rw [← hrb]; simp)]; simp)
      clear hrb
      go_enter Try.func41, Try.ntmps41
      go_wp2_with (go_at_call 43; refine HC0.out.mono ?_; rintro e1 w1 ⟨rfl, hb⟩; have HX1 := Aside0.mk (blk_below HB1.out hb); have HX2 := Aside0.mk (blk_below HB2.out hb); have HBW := Aside0.mk (below_step hHB2.out hb); clear hb; have p1_0 := (blk_cell HX1.out 0).trans rfl; have p1_1 := (blk_cell HX1.out 1).trans rfl; have p1_2 := (blk_cell HX1.out 2).trans rfl; have p1_3 := (blk_cell HX1.out 3).trans rfl; have p1_4 := (blk_cell HX1.out 4).trans rfl; have r1_0 := (blk_cell HX2.out 0).trans rfl; have r1_1 := (blk_cell HX2.out 1).trans rfl; have r1_2 := (blk_cell HX2.out 2).trans rfl; have r1_3 := (blk_cell HX2.out 3).trans rfl; have r1_4 := (blk_cell HX2.out 4).trans rfl; have f1_0 := blk_frozen HX1.out 0; have f1_1 := blk_frozen HX1.out 1; have f1_2 := blk_frozen HX1.out 2; have f1_3 := blk_frozen HX1.out 3; have f1_4 := blk_frozen HX1.out 4; have g1_0 := blk_frozen HX2.out 0; have g1_1 := blk_frozen HX2.out 1; have g1_2 := blk_frozen HX2.out 2; have g1_3 := blk_frozen HX2.out 3; have g1_4 := blk_frozen HX2.out 4)
      refine bodyPost_ret (results_ct rfl _ _ (w.heap.size + 1) 40 #[.int .i64 0, .int .i64 e, .int .i64 0, .int .i64 b, .int .i64 c] (0, 0) _ rfl (by first | (rw [(blk_set (blk_set (blk_set (blk_set (blk_set (blk_far (blk_far HX2.out (by simp) _) (by simp) _) 0 (.int .i64 0)) 1 (.int .i64 e)) 2 (.int .i64 0)) 3 (.int .i64 b)) 4 (.int .i64 c))]; rfl) | (go_simp; done) | (simpa using heap_alloc_last (w.alloc _) _)) Try.underlying40 rfl (by kernel_rfl)) rfl ?_
      exact ⟨by rw [HF.out]; rfl, by first | exact (below_set (below_set (below_set (below_set (below_set (below_set (below_set HBW.out (by simp)) (by simp)) (by simp)) (by simp)) (by simp)) (by simp)) (by simp)) | (repeat (first | exact hHB.out | apply below_alloc | refine below_set ?_ (by first | exact Nat.le_refl _ | (simp; done) | (simp; omega))))⟩
    · have HF := Aside0.mk (show outC ⟨2, e, a, b, c⟩ = (⟨1, e, a, 0, c⟩, true) by unfold outC; rw [if_neg (by rw [← hrb]; simp)]; simp)
      clear hrb
      go_enter Try.func41, Try.ntmps41
      go_wp2_with (go_at_call 43; refine HC0.out.mono ?_; rintro e1 w1 ⟨rfl, hb⟩; have HX1 := Aside0.mk (blk_below HB1.out hb); have HX2 := Aside0.mk (blk_below HB2.out hb); have HBW := Aside0.mk (below_step hHB2.out hb); clear hb; have p1_0 := (blk_cell HX1.out 0).trans rfl; have p1_1 := (blk_cell HX1.out 1).trans rfl; have p1_2 := (blk_cell HX1.out 2).trans rfl; have p1_3 := (blk_cell HX1.out 3).trans rfl; have p1_4 := (blk_cell HX1.out 4).trans rfl; have r1_0 := (blk_cell HX2.out 0).trans rfl; have r1_1 := (blk_cell HX2.out 1).trans rfl; have r1_2 := (blk_cell HX2.out 2).trans rfl; have r1_3 := (blk_cell HX2.out 3).trans rfl; have r1_4 := (blk_cell HX2.out 4).trans rfl; have f1_0 := blk_frozen HX1.out 0; have f1_1 := blk_frozen HX1.out 1; have f1_2 := blk_frozen HX1.out 2; have f1_3 := blk_frozen HX1.out 3; have f1_4 := blk_frozen HX1.out 4; have g1_0 := blk_frozen HX2.out 0; have g1_1 := blk_frozen HX2.out 1; have g1_2 := blk_frozen HX2.out 2; have g1_3 := blk_frozen HX2.out 3; have g1_4 := blk_frozen HX2.out 4)
      refine bodyPost_ret (results_ct rfl _ _ (w.heap.size + 1) 40 #[.int .i64 1, .int .i64 e, .int .i64 a, .int .i64 0, .int .i64 c] (0, 0) _ rfl (by first | (rw [(blk_set (blk_set (blk_set (blk_set (blk_set (blk_far (blk_far HX2.out (by simp) _) (by simp) _) 0 (.int .i64 1)) 1 (.int .i64 e)) 2 (.int .i64 a)) 3 (.int .i64 0)) 4 (.int .i64 c))]; rfl) | (go_simp; done) | (simpa using heap_alloc_last (w.alloc _) _)) Try.underlying40 rfl (by kernel_rfl)) rfl ?_
      exact ⟨by rw [HF.out]; rfl, by first | exact (below_set (below_set (below_set (below_set (below_set (below_set (below_set HBW.out (by simp)) (by simp)) (by simp)) (by simp)) (by simp)) (by simp)) (by simp)) | (repeat (first | exact hHB.out | apply below_alloc | refine below_set ?_ (by first | exact Nat.le_refl _ | (simp; done) | (simp; omega))))⟩
    · have HF := Aside0.mk (show outC ⟨3, e, a, b, c⟩ = (⟨2, e, a, b, 0⟩, true) by unfold outC; rw [if_neg (by rw [← hrb]; simp)]; simp)
      clear hrb
      go_enter Try.func41, Try.ntmps41
      go_wp2_with (go_at_call 43; refine HC0.out.mono ?_; rintro e1 w1 ⟨rfl, hb⟩; have HX1 := Aside0.mk (blk_below HB1.out hb); have HX2 := Aside0.mk (blk_below HB2.out hb); have HBW := Aside0.mk (below_step hHB2.out hb); clear hb; have p1_0 := (blk_cell HX1.out 0).trans rfl; have p1_1 := (blk_cell HX1.out 1).trans rfl; have p1_2 := (blk_cell HX1.out 2).trans rfl; have p1_3 := (blk_cell HX1.out 3).trans rfl; have p1_4 := (blk_cell HX1.out 4).trans rfl; have r1_0 := (blk_cell HX2.out 0).trans rfl; have r1_1 := (blk_cell HX2.out 1).trans rfl; have r1_2 := (blk_cell HX2.out 2).trans rfl; have r1_3 := (blk_cell HX2.out 3).trans rfl; have r1_4 := (blk_cell HX2.out 4).trans rfl; have f1_0 := blk_frozen HX1.out 0; have f1_1 := blk_frozen HX1.out 1; have f1_2 := blk_frozen HX1.out 2; have f1_3 := blk_frozen HX1.out 3; have f1_4 := blk_frozen HX1.out 4; have g1_0 := blk_frozen HX2.out 0; have g1_1 := blk_frozen HX2.out 1; have g1_2 := blk_frozen HX2.out 2; have g1_3 := blk_frozen HX2.out 3; have g1_4 := blk_frozen HX2.out 4)
      refine bodyPost_ret (results_ct rfl _ _ (w.heap.size + 1) 40 #[.int .i64 2, .int .i64 e, .int .i64 a, .int .i64 b, .int .i64 0] (0, 0) _ rfl (by first | (rw [(blk_set (blk_set (blk_set (blk_set (blk_set (blk_far (blk_far HX2.out (by simp) _) (by simp) _) 0 (.int .i64 2)) 1 (.int .i64 e)) 2 (.int .i64 a)) 3 (.int .i64 b)) 4 (.int .i64 0))]; rfl) | (go_simp; done) | (simpa using heap_alloc_last (w.alloc _) _)) Try.underlying40 rfl (by kernel_rfl)) rfl ?_
      exact ⟨by rw [HF.out]; rfl, by first | exact (below_set (below_set (below_set (below_set (below_set (below_set (below_set HBW.out (by simp)) (by simp)) (by simp)) (by simp)) (by simp)) (by simp)) (by simp)) | (repeat (first | exact hHB.out | apply below_alloc | refine below_set ?_ (by first | exact Nat.le_refl _ | (simp; done) | (simp; omega))))⟩
set_option maxHeartbeats 8000000 in
set_option maxRecDepth 100000 in
theorem ref05_Step_calls (t : St) (w : World) : Calls Try.prog 42 #[stV t] w fun e w' => e = .returned (.tuple #[stV (stepC t).1, .bool (stepC t).2]) ∧ Below w.heap.size w w' := by
  obtain ⟨d, e, a, b, c⟩ := t
  show Calls Try.prog 42 #[.agg #[.int .i64 d, .int .i64 e, .int .i64 a, .int .i64 b, .int .i64 c]] w _
  have hHB := Aside0.mk (Below.refl w.heap.size w)
  have HB1 := Aside0.mk (blk_alloc (blk_new w (.cells #[.int .i64 d, .int .i64 e, .int .i64 a, .int .i64 b, .int .i64 c] 40)) (.cells #[.int .i64 0, .int .i64 0, .int .i64 0, .int .i64 0, .int .i64 0] 40))
  have HB2 := Aside0.mk (show (((w.alloc (.cells #[.int .i64 d, .int .i64 e, .int .i64 a, .int .i64 b, .int .i64 c] 40)).alloc (.cells #[.int .i64 0, .int .i64 0, .int .i64 0, .int .i64 0, .int .i64 0] 40))).heap[w.heap.size + 1]? = some (.cells #[.int .i64 0, .int .i64 0, .int .i64 0, .int .i64 0, .int .i64 0] 40 (0, 0)) by simpa using heap_alloc_last (w.alloc (.cells #[.int .i64 d, .int .i64 e, .int .i64 a, .int .i64 b, .int .i64 c] 40)) (.cells #[.int .i64 0, .int .i64 0, .int .i64 0, .int .i64 0, .int .i64 0] 40))
  have hHB2 := Aside0.mk (below_alloc (below_alloc hHB.out (.cells #[.int .i64 d, .int .i64 e, .int .i64 a, .int .i64 b, .int .i64 c] 40)) (.cells #[.int .i64 0, .int .i64 0, .int .i64 0, .int .i64 0, .int .i64 0] 40))
  have HC0 := Aside0.mk (ref05_Right_calls ⟨d, e, a, b, c⟩ (((w.alloc (.cells #[.int .i64 d, .int .i64 e, .int .i64 a, .int .i64 b, .int .i64 c] 40)).alloc (.cells #[.int .i64 0, .int .i64 0, .int .i64 0, .int .i64 0, .int .i64 0] 40))))
  simp only [stV] at HC0
  obtain ⟨rb, hrb⟩ : ∃ rb, rb = rightB ⟨d, e, a, b, c⟩ := ⟨_, rfl⟩
  rw [← hrb] at HC0
  cases rb with
  | false =>
    have HF := Aside0.mk (show stepC ⟨d, e, a, b, c⟩ = (St.zero, false) by unfold stepC; rw [if_pos hrb.symm])
    clear hrb
    go_enter Try.func42, Try.ntmps42
    go_wp2_with (go_at_call 43; refine HC0.out.mono ?_; rintro e1 w1 ⟨rfl, hb⟩; have HX1 := Aside0.mk (blk_below HB1.out hb); have HX2 := Aside0.mk (blk_below HB2.out hb); have HBW := Aside0.mk (below_step hHB2.out hb); clear hb; have p1_0 := (blk_cell HX1.out 0).trans rfl; have p1_1 := (blk_cell HX1.out 1).trans rfl; have p1_2 := (blk_cell HX1.out 2).trans rfl; have p1_3 := (blk_cell HX1.out 3).trans rfl; have p1_4 := (blk_cell HX1.out 4).trans rfl; have r1_0 := (blk_cell HX2.out 0).trans rfl; have r1_1 := (blk_cell HX2.out 1).trans rfl; have r1_2 := (blk_cell HX2.out 2).trans rfl; have r1_3 := (blk_cell HX2.out 3).trans rfl; have r1_4 := (blk_cell HX2.out 4).trans rfl; have f1_0 := blk_frozen HX1.out 0; have f1_1 := blk_frozen HX1.out 1; have f1_2 := blk_frozen HX1.out 2; have f1_3 := blk_frozen HX1.out 3; have f1_4 := blk_frozen HX1.out 4; have g1_0 := blk_frozen HX2.out 0; have g1_1 := blk_frozen HX2.out 1; have g1_2 := blk_frozen HX2.out 2; have g1_3 := blk_frozen HX2.out 3; have g1_4 := blk_frozen HX2.out 4)
    refine bodyPost_ret (results_ct rfl _ _ (w.heap.size + 1) 40 #[.int .i64 0, .int .i64 0, .int .i64 0, .int .i64 0, .int .i64 0] (0, 0) _ rfl (by first | (rw [(blk_set (blk_set (blk_set (blk_set (blk_set HX2.out 0 (.int .i64 0)) 1 (.int .i64 0)) 2 (.int .i64 0)) 3 (.int .i64 0)) 4 (.int .i64 0))]; rfl) | (go_simp; done) | (simpa using heap_alloc_last (w.alloc _) _)) Try.underlying40 rfl (by kernel_rfl)) rfl ?_
    exact ⟨by rw [HF.out]; rfl, by first | exact (below_set (below_set (below_set (below_set (below_set HBW.out (by simp)) (by simp)) (by simp)) (by simp)) (by simp)) | (repeat (first | exact hHB.out | apply below_alloc | refine below_set ?_ (by first | exact Nat.le_refl _ | (simp; done) | (simp; omega))))⟩
  | true =>
    have hin := right_in hrb.symm
    simp only at hin
    obtain ⟨i0, i1, i2, i3, i4, i5, i6, i7, i8, i9⟩ := hin
    have hd : d = 0 ∨ d = 1 ∨ d = 2 ∨ d = 3 := by omega
    rcases hd with rfl | rfl | rfl | rfl
    · have HF := Aside0.mk (show stepC ⟨0, e, a, b, c⟩ = (St.zero, false) by unfold stepC; rw [if_neg (by rw [← hrb]; simp)]; simp)
      clear hrb
      go_enter Try.func42, Try.ntmps42
      go_wp2_with (go_at_call 43; refine HC0.out.mono ?_; rintro e1 w1 ⟨rfl, hb⟩; have HX1 := Aside0.mk (blk_below HB1.out hb); have HX2 := Aside0.mk (blk_below HB2.out hb); have HBW := Aside0.mk (below_step hHB2.out hb); clear hb; have p1_0 := (blk_cell HX1.out 0).trans rfl; have p1_1 := (blk_cell HX1.out 1).trans rfl; have p1_2 := (blk_cell HX1.out 2).trans rfl; have p1_3 := (blk_cell HX1.out 3).trans rfl; have p1_4 := (blk_cell HX1.out 4).trans rfl; have r1_0 := (blk_cell HX2.out 0).trans rfl; have r1_1 := (blk_cell HX2.out 1).trans rfl; have r1_2 := (blk_cell HX2.out 2).trans rfl; have r1_3 := (blk_cell HX2.out 3).trans rfl; have r1_4 := (blk_cell HX2.out 4).trans rfl; have f1_0 := blk_frozen HX1.out 0; have f1_1 := blk_frozen HX1.out 1; have f1_2 := blk_frozen HX1.out 2; have f1_3 := blk_frozen HX1.out 3; have f1_4 := blk_frozen HX1.out 4; have g1_0 := blk_frozen HX2.out 0; have g1_1 := blk_frozen HX2.out 1; have g1_2 := blk_frozen HX2.out 2; have g1_3 := blk_frozen HX2.out 3; have g1_4 := blk_frozen HX2.out 4)
      refine bodyPost_ret (results_ct rfl _ _ (w.heap.size + 1) 40 #[.int .i64 0, .int .i64 0, .int .i64 0, .int .i64 0, .int .i64 0] (0, 0) _ rfl (by first | (rw [(blk_set (blk_set (blk_set (blk_set (blk_set HX2.out 0 (.int .i64 0)) 1 (.int .i64 0)) 2 (.int .i64 0)) 3 (.int .i64 0)) 4 (.int .i64 0))]; rfl) | (go_simp; done) | (simpa using heap_alloc_last (w.alloc _) _)) Try.underlying40 rfl (by kernel_rfl)) rfl ?_
      exact ⟨by rw [HF.out]; rfl, by first | exact (below_set (below_set (below_set (below_set (below_set HBW.out (by simp)) (by simp)) (by simp)) (by simp)) (by simp)) | (repeat (first | exact hHB.out | apply below_alloc | refine below_set ?_ (by first | exact Nat.le_refl _ | (simp; done) | (simp; omega))))⟩
    · by_cases kn : a + 1 ≥ 16
      · have HF := Aside0.mk (show stepC ⟨1, e, a, b, c⟩ = (St.zero, false) by rw [stepC_eq hrb.symm]; simp [St.loop]; omega)
        clear hrb
        go_enter Try.func42, Try.ntmps42
        go_wp2_with (go_at_call 43; refine HC0.out.mono ?_; rintro e1 w1 ⟨rfl, hb⟩; have HX1 := Aside0.mk (blk_below HB1.out hb); have HX2 := Aside0.mk (blk_below HB2.out hb); have HBW := Aside0.mk (below_step hHB2.out hb); clear hb; have p1_0 := (blk_cell HX1.out 0).trans rfl; have p1_1 := (blk_cell HX1.out 1).trans rfl; have p1_2 := (blk_cell HX1.out 2).trans rfl; have p1_3 := (blk_cell HX1.out 3).trans rfl; have p1_4 := (blk_cell HX1.out 4).trans rfl; have r1_0 := (blk_cell HX2.out 0).trans rfl; have r1_1 := (blk_cell HX2.out 1).trans rfl; have r1_2 := (blk_cell HX2.out 2).trans rfl; have r1_3 := (blk_cell HX2.out 3).trans rfl; have r1_4 := (blk_cell HX2.out 4).trans rfl; have f1_0 := blk_frozen HX1.out 0; have f1_1 := blk_frozen HX1.out 1; have f1_2 := blk_frozen HX1.out 2; have f1_3 := blk_frozen HX1.out 3; have f1_4 := blk_frozen HX1.out 4; have g1_0 := blk_frozen HX2.out 0; have g1_1 := blk_frozen HX2.out 1; have g1_2 := blk_frozen HX2.out 2; have g1_3 := blk_frozen HX2.out 3; have g1_4 := blk_frozen HX2.out 4)
        refine bodyPost_ret (results_ct rfl _ _ (w.heap.size + 1) 40 #[.int .i64 0, .int .i64 0, .int .i64 0, .int .i64 0, .int .i64 0] (0, 0) _ rfl (by first | (rw [(blk_set (blk_set (blk_set (blk_set (blk_set HX2.out 0 (.int .i64 0)) 1 (.int .i64 0)) 2 (.int .i64 0)) 3 (.int .i64 0)) 4 (.int .i64 0))]; rfl) | (go_simp; done) | (simpa using heap_alloc_last (w.alloc _) _)) Try.underlying40 rfl (by kernel_rfl)) rfl ?_
        exact ⟨by rw [HF.out]; rfl, by first | exact (below_set (below_set (below_set (below_set (below_set HBW.out (by simp)) (by simp)) (by simp)) (by simp)) (by simp)) | (repeat (first | exact hHB.out | apply below_alloc | refine below_set ?_ (by first | exact Nat.le_refl _ | (simp; done) | (simp; omega))))⟩
      · have HF := Aside0.mk (show stepC ⟨1, e, a, b, c⟩ = (⟨1, e, a + 1, b, c⟩, true) by rw [stepC_eq hrb.symm]; simp [St.loop, stepped]; omega)
        clear hrb
        go_enter Try.func42, Try.ntmps42
        go_wp2_with (go_at_call 43; refine HC0.out.mono ?_; rintro e1 w1 ⟨rfl, hb⟩; have HX1 := Aside0.mk (blk_below HB1.out hb); have HX2 := Aside0.mk (blk_below HB2.out hb); have HBW := Aside0.mk (below_step hHB2.out hb); clear hb; have p1_0 := (blk_cell HX1.out 0).trans rfl; have p1_1 := (blk_cell HX1.out 1).trans rfl; have p1_2 := (blk_cell HX1.out 2).trans rfl; have p1_3 := (blk_cell HX1.out 3).trans rfl; have p1_4 := (blk_cell HX1.out 4).trans rfl; have r1_0 := (blk_cell HX2.out 0).trans rfl; have r1_1 := (blk_cell HX2.out 1).trans rfl; have r1_2 := (blk_cell HX2.out 2).trans rfl; have r1_3 := (blk_cell HX2.out 3).trans rfl; have r1_4 := (blk_cell HX2.out 4).trans rfl; have f1_0 := blk_frozen HX1.out 0; have f1_1 := blk_frozen HX1.out 1; have f1_2 := blk_frozen HX1.out 2; have f1_3 := blk_frozen HX1.out 3; have f1_4 := blk_frozen HX1.out 4; have g1_0 := blk_frozen HX2.out 0; have g1_1 := blk_frozen HX2.out 1; have g1_2 := blk_frozen HX2.out 2; have g1_3 := blk_frozen HX2.out 3; have g1_4 := blk_frozen HX2.out 4)
        refine bodyPost_ret (results_ct rfl _ _ (w.heap.size + 1) 40 #[.int .i64 1, .int .i64 e, .int .i64 (a + 1), .int .i64 b, .int .i64 c] (0, 0) _ rfl (by first | (rw [(blk_set (blk_set (blk_set (blk_set (blk_set (blk_far HX2.out (by simp) _) 0 (.int .i64 1)) 1 (.int .i64 e)) 2 (.int .i64 (a + 1))) 3 (.int .i64 b)) 4 (.int .i64 c))]; rfl) | (go_simp; done) | (simpa using heap_alloc_last (w.alloc _) _)) Try.underlying40 rfl (by kernel_rfl)) rfl ?_
        exact ⟨by rw [HF.out]; rfl, by first | exact (below_set (below_set (below_set (below_set (below_set (below_set HBW.out (by simp)) (by simp)) (by simp)) (by simp)) (by simp)) (by simp)) | (repeat (first | exact hHB.out | apply below_alloc | refine below_set ?_ (by first | exact Nat.le_refl _ | (simp; done) | (simp; omega))))⟩
    · by_cases kn : b + 1 ≥ 16
      · have HF := Aside0.mk (show stepC ⟨2, e, a, b, c⟩ = (St.zero, false) by rw [stepC_eq hrb.symm]; simp [St.loop]; omega)
        clear hrb
        go_enter Try.func42, Try.ntmps42
        go_wp2_with (go_at_call 43; refine HC0.out.mono ?_; rintro e1 w1 ⟨rfl, hb⟩; have HX1 := Aside0.mk (blk_below HB1.out hb); have HX2 := Aside0.mk (blk_below HB2.out hb); have HBW := Aside0.mk (below_step hHB2.out hb); clear hb; have p1_0 := (blk_cell HX1.out 0).trans rfl; have p1_1 := (blk_cell HX1.out 1).trans rfl; have p1_2 := (blk_cell HX1.out 2).trans rfl; have p1_3 := (blk_cell HX1.out 3).trans rfl; have p1_4 := (blk_cell HX1.out 4).trans rfl; have r1_0 := (blk_cell HX2.out 0).trans rfl; have r1_1 := (blk_cell HX2.out 1).trans rfl; have r1_2 := (blk_cell HX2.out 2).trans rfl; have r1_3 := (blk_cell HX2.out 3).trans rfl; have r1_4 := (blk_cell HX2.out 4).trans rfl; have f1_0 := blk_frozen HX1.out 0; have f1_1 := blk_frozen HX1.out 1; have f1_2 := blk_frozen HX1.out 2; have f1_3 := blk_frozen HX1.out 3; have f1_4 := blk_frozen HX1.out 4; have g1_0 := blk_frozen HX2.out 0; have g1_1 := blk_frozen HX2.out 1; have g1_2 := blk_frozen HX2.out 2; have g1_3 := blk_frozen HX2.out 3; have g1_4 := blk_frozen HX2.out 4)
        refine bodyPost_ret (results_ct rfl _ _ (w.heap.size + 1) 40 #[.int .i64 0, .int .i64 0, .int .i64 0, .int .i64 0, .int .i64 0] (0, 0) _ rfl (by first | (rw [(blk_set (blk_set (blk_set (blk_set (blk_set HX2.out 0 (.int .i64 0)) 1 (.int .i64 0)) 2 (.int .i64 0)) 3 (.int .i64 0)) 4 (.int .i64 0))]; rfl) | (go_simp; done) | (simpa using heap_alloc_last (w.alloc _) _)) Try.underlying40 rfl (by kernel_rfl)) rfl ?_
        exact ⟨by rw [HF.out]; rfl, by first | exact (below_set (below_set (below_set (below_set (below_set HBW.out (by simp)) (by simp)) (by simp)) (by simp)) (by simp)) | (repeat (first | exact hHB.out | apply below_alloc | refine below_set ?_ (by first | exact Nat.le_refl _ | (simp; done) | (simp; omega))))⟩
      · have HF := Aside0.mk (show stepC ⟨2, e, a, b, c⟩ = (⟨2, e, a, b + 1, c⟩, true) by rw [stepC_eq hrb.symm]; simp [St.loop, stepped]; omega)
        clear hrb
        go_enter Try.func42, Try.ntmps42
        go_wp2_with (go_at_call 43; refine HC0.out.mono ?_; rintro e1 w1 ⟨rfl, hb⟩; have HX1 := Aside0.mk (blk_below HB1.out hb); have HX2 := Aside0.mk (blk_below HB2.out hb); have HBW := Aside0.mk (below_step hHB2.out hb); clear hb; have p1_0 := (blk_cell HX1.out 0).trans rfl; have p1_1 := (blk_cell HX1.out 1).trans rfl; have p1_2 := (blk_cell HX1.out 2).trans rfl; have p1_3 := (blk_cell HX1.out 3).trans rfl; have p1_4 := (blk_cell HX1.out 4).trans rfl; have r1_0 := (blk_cell HX2.out 0).trans rfl; have r1_1 := (blk_cell HX2.out 1).trans rfl; have r1_2 := (blk_cell HX2.out 2).trans rfl; have r1_3 := (blk_cell HX2.out 3).trans rfl; have r1_4 := (blk_cell HX2.out 4).trans rfl; have f1_0 := blk_frozen HX1.out 0; have f1_1 := blk_frozen HX1.out 1; have f1_2 := blk_frozen HX1.out 2; have f1_3 := blk_frozen HX1.out 3; have f1_4 := blk_frozen HX1.out 4; have g1_0 := blk_frozen HX2.out 0; have g1_1 := blk_frozen HX2.out 1; have g1_2 := blk_frozen HX2.out 2; have g1_3 := blk_frozen HX2.out 3; have g1_4 := blk_frozen HX2.out 4)
        refine bodyPost_ret (results_ct rfl _ _ (w.heap.size + 1) 40 #[.int .i64 2, .int .i64 e, .int .i64 a, .int .i64 (b + 1), .int .i64 c] (0, 0) _ rfl (by first | (rw [(blk_set (blk_set (blk_set (blk_set (blk_set (blk_far HX2.out (by simp) _) 0 (.int .i64 2)) 1 (.int .i64 e)) 2 (.int .i64 a)) 3 (.int .i64 (b + 1))) 4 (.int .i64 c))]; rfl) | (go_simp; done) | (simpa using heap_alloc_last (w.alloc _) _)) Try.underlying40 rfl (by kernel_rfl)) rfl ?_
        exact ⟨by rw [HF.out]; rfl, by first | exact (below_set (below_set (below_set (below_set (below_set (below_set HBW.out (by simp)) (by simp)) (by simp)) (by simp)) (by simp)) (by simp)) | (repeat (first | exact hHB.out | apply below_alloc | refine below_set ?_ (by first | exact Nat.le_refl _ | (simp; done) | (simp; omega))))⟩
    · by_cases kn : c + 1 ≥ 16
      · have HF := Aside0.mk (show stepC ⟨3, e, a, b, c⟩ = (St.zero, false) by rw [stepC_eq hrb.symm]; simp [St.loop]; omega)
        clear hrb
        go_enter Try.func42, Try.ntmps42
        go_wp2_with (go_at_call 43; refine HC0.out.mono ?_; rintro e1 w1 ⟨rfl, hb⟩; have HX1 := Aside0.mk (blk_below HB1.out hb); have HX2 := Aside0.mk (blk_below HB2.out hb); have HBW := Aside0.mk (below_step hHB2.out hb); clear hb; have p1_0 := (blk_cell HX1.out 0).trans rfl; have p1_1 := (blk_cell HX1.out 1).trans rfl; have p1_2 := (blk_cell HX1.out 2).trans rfl; have p1_3 := (blk_cell HX1.out 3).trans rfl; have p1_4 := (blk_cell HX1.out 4).trans rfl; have r1_0 := (blk_cell HX2.out 0).trans rfl; have r1_1 := (blk_cell HX2.out 1).trans rfl; have r1_2 := (blk_cell HX2.out 2).trans rfl; have r1_3 := (blk_cell HX2.out 3).trans rfl; have r1_4 := (blk_cell HX2.out 4).trans rfl; have f1_0 := blk_frozen HX1.out 0; have f1_1 := blk_frozen HX1.out 1; have f1_2 := blk_frozen HX1.out 2; have f1_3 := blk_frozen HX1.out 3; have f1_4 := blk_frozen HX1.out 4; have g1_0 := blk_frozen HX2.out 0; have g1_1 := blk_frozen HX2.out 1; have g1_2 := blk_frozen HX2.out 2; have g1_3 := blk_frozen HX2.out 3; have g1_4 := blk_frozen HX2.out 4)
        refine bodyPost_ret (results_ct rfl _ _ (w.heap.size + 1) 40 #[.int .i64 0, .int .i64 0, .int .i64 0, .int .i64 0, .int .i64 0] (0, 0) _ rfl (by first | (rw [(blk_set (blk_set (blk_set (blk_set (blk_set HX2.out 0 (.int .i64 0)) 1 (.int .i64 0)) 2 (.int .i64 0)) 3 (.int .i64 0)) 4 (.int .i64 0))]; rfl) | (go_simp; done) | (simpa using heap_alloc_last (w.alloc _) _)) Try.underlying40 rfl (by kernel_rfl)) rfl ?_
        exact ⟨by rw [HF.out]; rfl, by first | exact (below_set (below_set (below_set (below_set (below_set HBW.out (by simp)) (by simp)) (by simp)) (by simp)) (by simp)) | (repeat (first | exact hHB.out | apply below_alloc | refine below_set ?_ (by first | exact Nat.le_refl _ | (simp; done) | (simp; omega))))⟩
      · have HF := Aside0.mk (show stepC ⟨3, e, a, b, c⟩ = (⟨3, e, a, b, c + 1⟩, true) by rw [stepC_eq hrb.symm]; simp [St.loop, stepped]; omega)
        clear hrb
        go_enter Try.func42, Try.ntmps42
        go_wp2_with (go_at_call 43; refine HC0.out.mono ?_; rintro e1 w1 ⟨rfl, hb⟩; have HX1 := Aside0.mk (blk_below HB1.out hb); have HX2 := Aside0.mk (blk_below HB2.out hb); have HBW := Aside0.mk (below_step hHB2.out hb); clear hb; have p1_0 := (blk_cell HX1.out 0).trans rfl; have p1_1 := (blk_cell HX1.out 1).trans rfl; have p1_2 := (blk_cell HX1.out 2).trans rfl; have p1_3 := (blk_cell HX1.out 3).trans rfl; have p1_4 := (blk_cell HX1.out 4).trans rfl; have r1_0 := (blk_cell HX2.out 0).trans rfl; have r1_1 := (blk_cell HX2.out 1).trans rfl; have r1_2 := (blk_cell HX2.out 2).trans rfl; have r1_3 := (blk_cell HX2.out 3).trans rfl; have r1_4 := (blk_cell HX2.out 4).trans rfl; have f1_0 := blk_frozen HX1.out 0; have f1_1 := blk_frozen HX1.out 1; have f1_2 := blk_frozen HX1.out 2; have f1_3 := blk_frozen HX1.out 3; have f1_4 := blk_frozen HX1.out 4; have g1_0 := blk_frozen HX2.out 0; have g1_1 := blk_frozen HX2.out 1; have g1_2 := blk_frozen HX2.out 2; have g1_3 := blk_frozen HX2.out 3; have g1_4 := blk_frozen HX2.out 4)
        refine bodyPost_ret (results_ct rfl _ _ (w.heap.size + 1) 40 #[.int .i64 3, .int .i64 e, .int .i64 a, .int .i64 b, .int .i64 (c + 1)] (0, 0) _ rfl (by first | (rw [(blk_set (blk_set (blk_set (blk_set (blk_set (blk_far HX2.out (by simp) _) 0 (.int .i64 3)) 1 (.int .i64 e)) 2 (.int .i64 a)) 3 (.int .i64 b)) 4 (.int .i64 (c + 1)))]; rfl) | (go_simp; done) | (simpa using heap_alloc_last (w.alloc _) _)) Try.underlying40 rfl (by kernel_rfl)) rfl ?_
        exact ⟨by rw [HF.out]; rfl, by first | exact (below_set (below_set (below_set (below_set (below_set (below_set HBW.out (by simp)) (by simp)) (by simp)) (by simp)) (by simp)) (by simp)) | (repeat (first | exact hHB.out | apply below_alloc | refine below_set ?_ (by first | exact Nat.le_refl _ | (simp; done) | (simp; omega))))⟩
set_option maxHeartbeats 8000000 in
set_option maxRecDepth 100000 in
theorem ref05_Into_calls (t : St) (w : World) : Calls Try.prog 40 #[stV t] w fun e w' => e = .returned (.tuple #[stV (intoR t).1, .bool (intoR t).2]) ∧ Below w.heap.size w w' := by
  obtain ⟨d, e, a, b, c⟩ := t
  show Calls Try.prog 40 #[.agg #[.int .i64 d, .int .i64 e, .int .i64 a, .int .i64 b, .int .i64 c]] w _
  have hHB := Aside0.mk (Below.refl w.heap.size w)
  have HB1 := Aside0.mk (blk_alloc (blk_new w (.cells #[.int .i64 d, .int .i64 e, .int .i64 a, .int .i64 b, .int .i64 c] 40)) (.cells #[.int .i64 0, .int .i64 0, .int .i64 0, .int .i64 0, .int .i64 0] 40))
  have HB2 := Aside0.mk (show (((w.alloc (.cells #[.int .i64 d, .int .i64 e, .int .i64 a, .int .i64 b, .int .i64 c] 40)).alloc (.cells #[.int .i64 0, .int .i64 0, .int .i64 0, .int .i64 0, .int .i64 0] 40))).heap[w.heap.size + 1]? = some (.cells #[.int .i64 0, .int .i64 0, .int .i64 0, .int .i64 0, .int .i64 0] 40 (0, 0)) by simpa using heap_alloc_last (w.alloc (.cells #[.int .i64 d, .int .i64 e, .int .i64 a, .int .i64 b, .int .i64 c] 40)) (.cells #[.int .i64 0, .int .i64 0, .int .i64 0, .int .i64 0, .int .i64 0] 40))
  have hHB2 := Aside0.mk (below_alloc (below_alloc hHB.out (.cells #[.int .i64 d, .int .i64 e, .int .i64 a, .int .i64 b, .int .i64 c] 40)) (.cells #[.int .i64 0, .int .i64 0, .int .i64 0, .int .i64 0, .int .i64 0] 40))
  have HC0 := Aside0.mk (ref05_Right_calls ⟨d, e, a, b, c⟩ (((w.alloc (.cells #[.int .i64 d, .int .i64 e, .int .i64 a, .int .i64 b, .int .i64 c] 40)).alloc (.cells #[.int .i64 0, .int .i64 0, .int .i64 0, .int .i64 0, .int .i64 0] 40))))
  simp only [stV] at HC0
  obtain ⟨rb, hrb⟩ : ∃ rb, rb = rightB ⟨d, e, a, b, c⟩ := ⟨_, rfl⟩
  rw [← hrb] at HC0
  cases rb with
  | false =>
    have HF := Aside0.mk (show intoR ⟨d, e, a, b, c⟩ = (St.zero, false) by unfold intoR; rw [if_pos hrb.symm])
    clear hrb
    go_enter Try.func40, Try.ntmps40
    go_wp2_with (go_at_call 43; refine HC0.out.mono ?_; rintro e1 w1 ⟨rfl, hb⟩; have HX1 := Aside0.mk (blk_below HB1.out hb); have HX2 := Aside0.mk (blk_below HB2.out hb); have HBW := Aside0.mk (below_step hHB2.out hb); clear hb; have p1_0 := (blk_cell HX1.out 0).trans rfl; have p1_1 := (blk_cell HX1.out 1).trans rfl; have p1_2 := (blk_cell HX1.out 2).trans rfl; have p1_3 := (blk_cell HX1.out 3).trans rfl; have p1_4 := (blk_cell HX1.out 4).trans rfl; have r1_0 := (blk_cell HX2.out 0).trans rfl; have r1_1 := (blk_cell HX2.out 1).trans rfl; have r1_2 := (blk_cell HX2.out 2).trans rfl; have r1_3 := (blk_cell HX2.out 3).trans rfl; have r1_4 := (blk_cell HX2.out 4).trans rfl; have f1_0 := blk_frozen HX1.out 0; have f1_1 := blk_frozen HX1.out 1; have f1_2 := blk_frozen HX1.out 2; have f1_3 := blk_frozen HX1.out 3; have f1_4 := blk_frozen HX1.out 4; have g1_0 := blk_frozen HX2.out 0; have g1_1 := blk_frozen HX2.out 1; have g1_2 := blk_frozen HX2.out 2; have g1_3 := blk_frozen HX2.out 3; have g1_4 := blk_frozen HX2.out 4)
    refine bodyPost_ret (results_ct rfl _ _ (w.heap.size + 1) 40 #[.int .i64 0, .int .i64 0, .int .i64 0, .int .i64 0, .int .i64 0] (0, 0) _ rfl (by first | (rw [(blk_set (blk_set (blk_set (blk_set (blk_set HX2.out 0 (.int .i64 0)) 1 (.int .i64 0)) 2 (.int .i64 0)) 3 (.int .i64 0)) 4 (.int .i64 0))]; rfl) | (go_simp; done) | (simpa using heap_alloc_last (w.alloc _) _)) Try.underlying40 rfl (by kernel_rfl)) rfl ?_
    exact ⟨by rw [HF.out]; rfl, by first | exact (below_set (below_set (below_set (below_set (below_set HBW.out (by simp)) (by simp)) (by simp)) (by simp)) (by simp)) | (repeat (first | exact hHB.out | apply below_alloc | refine below_set ?_ (by first | exact Nat.le_refl _ | (simp; done) | (simp; omega))))⟩
  | true =>
    have hin := right_in hrb.symm
    simp only at hin
    obtain ⟨i0, i1, i2, i3, i4, i5, i6, i7, i8, i9⟩ := hin
    by_cases k3 : d ≥ 3
    · have HF := Aside0.mk (show intoR ⟨d, e, a, b, c⟩ = (St.zero, false) by unfold intoR; rw [if_neg (by rw [← hrb]; simp), if_pos k3])
      clear hrb
      go_enter Try.func40, Try.ntmps40
      go_wp2_with (go_at_call 43; refine HC0.out.mono ?_; rintro e1 w1 ⟨rfl, hb⟩; have HX1 := Aside0.mk (blk_below HB1.out hb); have HX2 := Aside0.mk (blk_below HB2.out hb); have HBW := Aside0.mk (below_step hHB2.out hb); clear hb; have p1_0 := (blk_cell HX1.out 0).trans rfl; have p1_1 := (blk_cell HX1.out 1).trans rfl; have p1_2 := (blk_cell HX1.out 2).trans rfl; have p1_3 := (blk_cell HX1.out 3).trans rfl; have p1_4 := (blk_cell HX1.out 4).trans rfl; have r1_0 := (blk_cell HX2.out 0).trans rfl; have r1_1 := (blk_cell HX2.out 1).trans rfl; have r1_2 := (blk_cell HX2.out 2).trans rfl; have r1_3 := (blk_cell HX2.out 3).trans rfl; have r1_4 := (blk_cell HX2.out 4).trans rfl; have f1_0 := blk_frozen HX1.out 0; have f1_1 := blk_frozen HX1.out 1; have f1_2 := blk_frozen HX1.out 2; have f1_3 := blk_frozen HX1.out 3; have f1_4 := blk_frozen HX1.out 4; have g1_0 := blk_frozen HX2.out 0; have g1_1 := blk_frozen HX2.out 1; have g1_2 := blk_frozen HX2.out 2; have g1_3 := blk_frozen HX2.out 3; have g1_4 := blk_frozen HX2.out 4)
      refine bodyPost_ret (results_ct rfl _ _ (w.heap.size + 1) 40 #[.int .i64 0, .int .i64 0, .int .i64 0, .int .i64 0, .int .i64 0] (0, 0) _ rfl (by first | (rw [(blk_set (blk_set (blk_set (blk_set (blk_set HX2.out 0 (.int .i64 0)) 1 (.int .i64 0)) 2 (.int .i64 0)) 3 (.int .i64 0)) 4 (.int .i64 0))]; rfl) | (go_simp; done) | (simpa using heap_alloc_last (w.alloc _) _)) Try.underlying40 rfl (by kernel_rfl)) rfl ?_
      exact ⟨by rw [HF.out]; rfl, by first | exact (below_set (below_set (below_set (below_set (below_set HBW.out (by simp)) (by simp)) (by simp)) (by simp)) (by simp)) | (repeat (first | exact hHB.out | apply below_alloc | refine below_set ?_ (by first | exact Nat.le_refl _ | (simp; done) | (simp; omega))))⟩
    · have HF := Aside0.mk (show intoR ⟨d, e, a, b, c⟩ = (⟨d + 1, e, a, b, c⟩, true) by unfold intoR; rw [if_neg (by rw [← hrb]; simp), if_neg k3])
      clear hrb
      go_enter Try.func40, Try.ntmps40
      go_wp2_with (go_at_call 43; refine HC0.out.mono ?_; rintro e1 w1 ⟨rfl, hb⟩; have HX1 := Aside0.mk (blk_below HB1.out hb); have HX2 := Aside0.mk (blk_below HB2.out hb); have HBW := Aside0.mk (below_step hHB2.out hb); clear hb; have p1_0 := (blk_cell HX1.out 0).trans rfl; have p1_1 := (blk_cell HX1.out 1).trans rfl; have p1_2 := (blk_cell HX1.out 2).trans rfl; have p1_3 := (blk_cell HX1.out 3).trans rfl; have p1_4 := (blk_cell HX1.out 4).trans rfl; have r1_0 := (blk_cell HX2.out 0).trans rfl; have r1_1 := (blk_cell HX2.out 1).trans rfl; have r1_2 := (blk_cell HX2.out 2).trans rfl; have r1_3 := (blk_cell HX2.out 3).trans rfl; have r1_4 := (blk_cell HX2.out 4).trans rfl; have f1_0 := blk_frozen HX1.out 0; have f1_1 := blk_frozen HX1.out 1; have f1_2 := blk_frozen HX1.out 2; have f1_3 := blk_frozen HX1.out 3; have f1_4 := blk_frozen HX1.out 4; have g1_0 := blk_frozen HX2.out 0; have g1_1 := blk_frozen HX2.out 1; have g1_2 := blk_frozen HX2.out 2; have g1_3 := blk_frozen HX2.out 3; have g1_4 := blk_frozen HX2.out 4)
      refine bodyPost_ret (results_ct rfl _ _ (w.heap.size + 1) 40 #[.int .i64 (d + 1), .int .i64 e, .int .i64 a, .int .i64 b, .int .i64 c] (0, 0) _ rfl (by first | (rw [(blk_set (blk_set (blk_set (blk_set (blk_set (blk_far HX2.out (by simp) _) 0 (.int .i64 (d + 1))) 1 (.int .i64 e)) 2 (.int .i64 a)) 3 (.int .i64 b)) 4 (.int .i64 c))]; rfl) | (go_simp; done) | (simpa using heap_alloc_last (w.alloc _) _)) Try.underlying40 rfl (by kernel_rfl)) rfl ?_
      exact ⟨by rw [HF.out]; rfl, by first | exact (below_set (below_set (below_set (below_set (below_set (below_set HBW.out (by simp)) (by simp)) (by simp)) (by simp)) (by simp)) (by simp)) | (repeat (first | exact hHB.out | apply below_alloc | refine below_set ?_ (by first | exact Nat.le_refl _ | (simp; done) | (simp; omega))))⟩
end Go.Proofs.Ytcihpjkjodhdpaa.X
