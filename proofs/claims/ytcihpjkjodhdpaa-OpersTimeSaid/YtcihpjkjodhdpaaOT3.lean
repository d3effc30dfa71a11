/- A part of the proof. -/
import Derived.Test.YtcihpjkjodhdpaaOT2
import Derived.Sort.AtCall
import Derived.Shelf.SlSortCmp.NoneTotal
import Derived.Sort.OwnSorted
import Derived.Maps.OwnSet
import Derived.Maps.RangeWalk
import Derived.Maps.Ext
import Derived.Maps.OwnRows
import Derived.Maps.GroupsBeside
namespace Go.Proofs.Ytcihpjkjodhdpaa.X
set_option linter.unusedVariables false
set_option linter.unusedSimpArgs false
open Go.RowKit Go.Proofs.YtcihpjkjodhdpaaW.PrintWords Go.Proofs.YtcihpjkjodhdpaaW.PrintLast Go.Proofs.YtcihpjkjodhdpaaW.PrintMore
def timeR (k b : Int) (t : St) : St × Bool :=
  if k = 7 then intoR t else if k = 8 then outC t else if k = 9 then (if (stepC t).2 = false then (St.zero, false) else if (stepC t).1.loop ((stepC t).1.d - 1).toNat ≥ b then (St.zero, false) else ((stepC t).1, true))
  else if rightB t = false then (St.zero, false) else (t, true)
def rtime.T8 : Bool × List (List Nat × List Nat) := (true, [([], []), ([0], [0]), ([1], [1]), ([2], [2]), ([3, 2], [2, 3]), ([4, 2], [2, 4]), ([2], [2]), ([6, 5, 2], [2, 5, 6]), ([7, 2], [2, 7]), ([2], [2]), ([9, 2], [2, 9]), ([8, 10, 2], [2, 8, 10]), ([2, 11], [2, 11])])
def rtime.B8 : List Nat := [0, 1, 3, 7, 15, 31, 7, 127, 255, 7, 519, 2047, 4095]
theorem rtime.tab8 : rtab .any (opsOf Try.f18 8) = rtime.T8 := by kernel_rfl
theorem rtime.bits8 : waitsOk rtime.T8.2 rtime.B8 = true := by kernel_rfl
set_option maxHeartbeats 8000000 in
set_option maxRecDepth 100000 in
theorem ref13_Time_calls (n0 n1 n2 n3 : Int) (A4 : Option Addr) (m4 c4 : Nat) (t : St) (w : World) : Calls Try.prog 18 #[.agg #[.int .u8 n0, .int .u8 n1, .int .i64 n2, .int .i64 n3, .slice A4 m4 c4], stV t] w fun e w' => e = .returned (.tuple #[stV (timeR n0 n2 t).1, .bool (timeR n0 n2 t).2]) ∧ Below w.heap.size w w' := by
  obtain ⟨d, e, a, b, c⟩ := t
  show Calls Try.prog 18 #[.agg #[.int .u8 n0, .int .u8 n1, .int .i64 n2, .int .i64 n3, .slice A4 m4 c4], .agg #[.int .i64 d, .int .i64 e, .int .i64 a, .int .i64 b, .int .i64 c]] w _
  by_cases k7 : n0 = 7
  · subst k7
    have HBN := Aside0.mk (blk_alloc (blk_alloc (blk_new w (.cells #[.int .u8 7, .int .u8 n1, .int .i64 n2, .int .i64 n3, .slice A4 m4 c4] 24)) (.cells #[.int .i64 d, .int .i64 e, .int .i64 a, .int .i64 b, .int .i64 c] 40)) (.cells #[.int .i64 0, .int .i64 0, .int .i64 0, .int .i64 0, .int .i64 0] 40))
    have HB1 := Aside0.mk (show ((((w.alloc (.cells #[.int .u8 7, .int .u8 n1, .int .i64 n2, .int .i64 n3, .slice A4 m4 c4] 24)).alloc (.cells #[.int .i64 d, .int .i64 e, .int .i64 a, .int .i64 b, .int .i64 c] 40)).alloc (.cells #[.int .i64 0, .int .i64 0, .int .i64 0, .int .i64 0, .int .i64 0] 40))).heap[w.heap.size + 1]? = some (.cells #[.int .i64 d, .int .i64 e, .int .i64 a, .int .i64 b, .int .i64 c] 40 (0, 0)) from blk_alloc (by simpa using heap_alloc_last (w.alloc (.cells #[.int .u8 7, .int .u8 n1, .int .i64 n2, .int .i64 n3, .slice A4 m4 c4] 24)) (.cells #[.int .i64 d, .int .i64 e, .int .i64 a, .int .i64 b, .int .i64 c] 40)) _)
    have HB2 := Aside0.mk (show ((((w.alloc (.cells #[.int .u8 7, .int .u8 n1, .int .i64 n2, .int .i64 n3, .slice A4 m4 c4] 24)).alloc (.cells #[.int .i64 d, .int .i64 e, .int .i64 a, .int .i64 b, .int .i64 c] 40)).alloc (.cells #[.int .i64 0, .int .i64 0, .int .i64 0, .int .i64 0, .int .i64 0] 40))).heap[w.heap.size + 2]? = some (.cells #[.int .i64 0, .int .i64 0, .int .i64 0, .int .i64 0, .int .i64 0] 40 (0, 0)) by simpa using heap_alloc_last ((w.alloc (.cells #[.int .u8 7, .int .u8 n1, .int .i64 n2, .int .i64 n3, .slice A4 m4 c4] 24)).alloc (.cells #[.int .i64 d, .int .i64 e, .int .i64 a, .int .i64 b, .int .i64 c] 40)) (.cells #[.int .i64 0, .int .i64 0, .int .i64 0, .int .i64 0, .int .i64 0] 40))
    have hHB2 := Aside0.mk (below_alloc (below_alloc (below_alloc (Below.refl w.heap.size w) (.cells #[.int .u8 7, .int .u8 n1, .int .i64 n2, .int .i64 n3, .slice A4 m4 c4] 24)) (.cells #[.int .i64 d, .int .i64 e, .int .i64 a, .int .i64 b, .int .i64 c] 40)) (.cells #[.int .i64 0, .int .i64 0, .int .i64 0, .int .i64 0, .int .i64 0] 40))
    have HC0 := Aside0.mk (ref05_Into_calls ⟨d, e, a, b, c⟩ ((((w.alloc (.cells #[.int .u8 7, .int .u8 n1, .int .i64 n2, .int .i64 n3, .slice A4 m4 c4] 24)).alloc (.cells #[.int .i64 d, .int .i64 e, .int .i64 a, .int .i64 b, .int .i64 c] 40)).alloc (.cells #[.int .i64 0, .int .i64 0, .int .i64 0, .int .i64 0, .int .i64 0] 40))))
    have HF := Aside0.mk (show timeR 7 n2 ⟨d, e, a, b, c⟩ = intoR ⟨d, e, a, b, c⟩ by simp [timeR])
    generalize intoR ⟨d, e, a, b, c⟩ = u at HC0 HF
    obtain ⟨⟨u0, u1, u2, u3, u4⟩, r⟩ := u
    simp only [stV] at HC0
    go_enter Try.func18, Try.ntmps18
    go_wp2_with (go_at_call 40; refine HC0.out.mono ?_; rintro e1 w1 ⟨rfl, hb⟩; have HX1 := Aside0.mk (blk_below HB1.out hb); have HX2 := Aside0.mk (blk_below HB2.out hb); have HBW := Aside0.mk (below_step hHB2.out hb); clear hb; have p1_0 := (blk_cell HX1.out 0).trans rfl; have p1_1 := (blk_cell HX1.out 1).trans rfl; have p1_2 := (blk_cell HX1.out 2).trans rfl; have p1_3 := (blk_cell HX1.out 3).trans rfl; have p1_4 := (blk_cell HX1.out 4).trans rfl; have r1_0 := (blk_cell HX2.out 0).trans rfl; have r1_1 := (blk_cell HX2.out 1).trans rfl; have r1_2 := (blk_cell HX2.out 2).trans rfl; have r1_3 := (blk_cell HX2.out 3).trans rfl; have r1_4 := (blk_cell HX2.out 4).trans rfl; have f1_0 := blk_frozen HX1.out 0; have f1_1 := blk_frozen HX1.out 1; have f1_2 := blk_frozen HX1.out 2; have f1_3 := blk_frozen HX1.out 3; have f1_4 := blk_frozen HX1.out 4; have g1_0 := blk_frozen HX2.out 0; have g1_1 := blk_frozen HX2.out 1; have g1_2 := blk_frozen HX2.out 2; have g1_3 := blk_frozen HX2.out 3; have g1_4 := blk_frozen HX2.out 4)
    refine bodyPost_ret (results_ct rfl _ _ (w.heap.size + 2) 40 #[.int .i64 u0, .int .i64 u1, .int .i64 u2, .int .i64 u3, .int .i64 u4] (0, 0) _ rfl (by rw [(blk_set (blk_set (blk_set (blk_set (blk_set HX2.out 0 (.int .i64 u0)) 1 (.int .i64 u1)) 2 (.int .i64 u2)) 3 (.int .i64 u3)) 4 (.int .i64 u4))]; rfl) Try.underlying40 rfl (by kernel_rfl)) rfl ?_
    exact ⟨by rw [HF.out]; rfl, (below_set (below_set (below_set (below_set (below_set HBW.out (by show w.heap.size ≤ w.heap.size + 2; omega)) (by show w.heap.size ≤ w.heap.size + 2; omega)) (by show w.heap.size ≤ w.heap.size + 2; omega)) (by show w.heap.size ≤ w.heap.size + 2; omega)) (by show w.heap.size ≤ w.heap.size + 2; omega))⟩
  by_cases k8 : n0 = 8
  · subst k8
    have HBN := Aside0.mk (blk_alloc (blk_alloc (blk_new w (.cells #[.int .u8 8, .int .u8 n1, .int .i64 n2, .int .i64 n3, .slice A4 m4 c4] 24)) (.cells #[.int .i64 d, .int .i64 e, .int .i64 a, .int .i64 b, .int .i64 c] 40)) (.cells #[.int .i64 0, .int .i64 0, .int .i64 0, .int .i64 0, .int .i64 0] 40))
    have HB1 := Aside0.mk (show ((((w.alloc (.cells #[.int .u8 8, .int .u8 n1, .int .i64 n2, .int .i64 n3, .slice A4 m4 c4] 24)).alloc (.cells #[.int .i64 d, .int .i64 e, .int .i64 a, .int .i64 b, .int .i64 c] 40)).alloc (.cells #[.int .i64 0, .int .i64 0, .int .i64 0, .int .i64 0, .int .i64 0] 40))).heap[w.heap.size + 1]? = some (.cells #[.int .i64 d, .int .i64 e, .int .i64 a, .int .i64 b, .int .i64 c] 40 (0, 0)) from blk_alloc (by simpa using heap_alloc_last (w.alloc (.cells #[.int .u8 8, .int .u8 n1, .int .i64 n2, .int .i64 n3, .slice A4 m4 c4] 24)) (.cells #[.int .i64 d, .int .i64 e, .int .i64 a, .int .i64 b, .int .i64 c] 40)) _)
    have HB2 := Aside0.mk (show ((((w.alloc (.cells #[.int .u8 8, .int .u8 n1, .int .i64 n2, .int .i64 n3, .slice A4 m4 c4] 24)).alloc (.cells #[.int .i64 d, .int .i64 e, .int .i64 a, .int .i64 b, .int .i64 c] 40)).alloc (.cells #[.int .i64 0, .int .i64 0, .int .i64 0, .int .i64 0, .int .i64 0] 40))).heap[w.heap.size + 2]? = some (.cells #[.int .i64 0, .int .i64 0, .int .i64 0, .int .i64 0, .int .i64 0] 40 (0, 0)) by simpa using heap_alloc_last ((w.alloc (.cells #[.int .u8 8, .int .u8 n1, .int .i64 n2, .int .i64 n3, .slice A4 m4 c4] 24)).alloc (.cells #[.int .i64 d, .int .i64 e, .int .i64 a, .int .i64 b, .int .i64 c] 40)) (.cells #[.int .i64 0, .int .i64 0, .int .i64 0, .int .i64 0, .int .i64 0] 40))
    have hHB2 := Aside0.mk (below_alloc (below_alloc (below_alloc (Below.refl w.heap.size w) (.cells #[.int .u8 8, .int .u8 n1, .int .i64 n2, .int .i64 n3, .slice A4 m4 c4] 24)) (.cells #[.int .i64 d, .int .i64 e, .int .i64 a, .int .i64 b, .int .i64 c] 40)) (.cells #[.int .i64 0, .int .i64 0, .int .i64 0, .int .i64 0, .int .i64 0] 40))
    have HC0 := Aside0.mk (ref05_Out_calls ⟨d, e, a, b, c⟩ ((((w.alloc (.cells #[.int .u8 8, .int .u8 n1, .int .i64 n2, .int .i64 n3, .slice A4 m4 c4] 24)).alloc (.cells #[.int .i64 d, .int .i64 e, .int .i64 a, .int .i64 b, .int .i64 c] 40)).alloc (.cells #[.int .i64 0, .int .i64 0, .int .i64 0, .int .i64 0, .int .i64 0] 40))))
    have HF := Aside0.mk (show timeR 8 n2 ⟨d, e, a, b, c⟩ = outC ⟨d, e, a, b, c⟩ by simp [timeR])
    generalize outC ⟨d, e, a, b, c⟩ = u at HC0 HF
    obtain ⟨⟨u0, u1, u2, u3, u4⟩, r⟩ := u
    simp only [stV] at HC0
    go_enter Try.func18, Try.ntmps18
    go_wp2_with (go_at_call 41; refine HC0.out.mono ?_; rintro e1 w1 ⟨rfl, hb⟩; have HX1 := Aside0.mk (blk_below HB1.out hb); have HX2 := Aside0.mk (blk_below HB2.out hb); have HBW := Aside0.mk (below_step hHB2.out hb); clear hb; have p1_0 := (blk_cell HX1.out 0).trans rfl; have p1_1 := (blk_cell HX1.out 1).trans rfl; have p1_2 := (blk_cell HX1.out 2).trans rfl; have p1_3 := (blk_cell HX1.out 3).trans rfl; have p1_4 := (blk_cell HX1.out 4).trans rfl; have r1_0 := (blk_cell HX2.out 0).trans rfl; have r1_1 := (blk_cell HX2.out 1).trans rfl; have r1_2 := (blk_cell HX2.out 2).trans rfl; have r1_3 := (blk_cell HX2.out 3).trans rfl; have r1_4 := (blk_cell HX2.out 4).trans rfl; have f1_0 := blk_frozen HX1.out 0; have f1_1 := blk_frozen HX1.out 1; have f1_2 := blk_frozen HX1.out 2; have f1_3 := blk_frozen HX1.out 3; have f1_4 := blk_frozen HX1.out 4; have g1_0 := blk_frozen HX2.out 0; have g1_1 := blk_frozen HX2.out 1; have g1_2 := blk_frozen HX2.out 2; have g1_3 := blk_frozen HX2.out 3; have g1_4 := blk_frozen HX2.out 4)
    refine bodyPost_ret (results_ct rfl _ _ (w.heap.size + 2) 40 #[.int .i64 u0, .int .i64 u1, .int .i64 u2, .int .i64 u3, .int .i64 u4] (0, 0) _ rfl (by rw [(blk_set (blk_set (blk_set (blk_set (blk_set HX2.out 0 (.int .i64 u0)) 1 (.int .i64 u1)) 2 (.int .i64 u2)) 3 (.int .i64 u3)) 4 (.int .i64 u4))]; rfl) Try.underlying40 rfl (by kernel_rfl)) rfl ?_
    exact ⟨by rw [HF.out]; rfl, (below_set (below_set (below_set (below_set (below_set HBW.out (by show w.heap.size ≤ w.heap.size + 2; omega)) (by show w.heap.size ≤ w.heap.size + 2; omega)) (by show w.heap.size ≤ w.heap.size + 2; omega)) (by show w.heap.size ≤ w.heap.size + 2; omega)) (by show w.heap.size ≤ w.heap.size + 2; omega))⟩
  by_cases k9 : n0 = 9
  · subst k9
    have HBN := Aside0.mk (blk_alloc (blk_alloc (blk_new w (.cells #[.int .u8 9, .int .u8 n1, .int .i64 n2, .int .i64 n3, .slice A4 m4 c4] 24)) (.cells #[.int .i64 d, .int .i64 e, .int .i64 a, .int .i64 b, .int .i64 c] 40)) (.cells #[.int .i64 0, .int .i64 0, .int .i64 0, .int .i64 0, .int .i64 0] 40))
    have HB1 := Aside0.mk (show ((((w.alloc (.cells #[.int .u8 9, .int .u8 n1, .int .i64 n2, .int .i64 n3, .slice A4 m4 c4] 24)).alloc (.cells #[.int .i64 d, .int .i64 e, .int .i64 a, .int .i64 b, .int .i64 c] 40)).alloc (.cells #[.int .i64 0, .int .i64 0, .int .i64 0, .int .i64 0, .int .i64 0] 40))).heap[w.heap.size + 1]? = some (.cells #[.int .i64 d, .int .i64 e, .int .i64 a, .int .i64 b, .int .i64 c] 40 (0, 0)) from blk_alloc (by simpa using heap_alloc_last (w.alloc (.cells #[.int .u8 9, .int .u8 n1, .int .i64 n2, .int .i64 n3, .slice A4 m4 c4] 24)) (.cells #[.int .i64 d, .int .i64 e, .int .i64 a, .int .i64 b, .int .i64 c] 40)) _)
    have HB2 := Aside0.mk (show ((((w.alloc (.cells #[.int .u8 9, .int .u8 n1, .int .i64 n2, .int .i64 n3, .slice A4 m4 c4] 24)).alloc (.cells #[.int .i64 d, .int .i64 e, .int .i64 a, .int .i64 b, .int .i64 c] 40)).alloc (.cells #[.int .i64 0, .int .i64 0, .int .i64 0, .int .i64 0, .int .i64 0] 40))).heap[w.heap.size + 2]? = some (.cells #[.int .i64 0, .int .i64 0, .int .i64 0, .int .i64 0, .int .i64 0] 40 (0, 0)) by simpa using heap_alloc_last ((w.alloc (.cells #[.int .u8 9, .int .u8 n1, .int .i64 n2, .int .i64 n3, .slice A4 m4 c4] 24)).alloc (.cells #[.int .i64 d, .int .i64 e, .int .i64 a, .int .i64 b, .int .i64 c] 40)) (.cells #[.int .i64 0, .int .i64 0, .int .i64 0, .int .i64 0, .int .i64 0] 40))
    have hHB2 := Aside0.mk (below_alloc (below_alloc (below_alloc (Below.refl w.heap.size w) (.cells #[.int .u8 9, .int .u8 n1, .int .i64 n2, .int .i64 n3, .slice A4 m4 c4] 24)) (.cells #[.int .i64 d, .int .i64 e, .int .i64 a, .int .i64 b, .int .i64 c] 40)) (.cells #[.int .i64 0, .int .i64 0, .int .i64 0, .int .i64 0, .int .i64 0] 40))
    have HC0 := Aside0.mk (ref05_Step_calls ⟨d, e, a, b, c⟩ ((((w.alloc (.cells #[.int .u8 9, .int .u8 n1, .int .i64 n2, .int .i64 n3, .slice A4 m4 c4] 24)).alloc (.cells #[.int .i64 d, .int .i64 e, .int .i64 a, .int .i64 b, .int .i64 c] 40)).alloc (.cells #[.int .i64 0, .int .i64 0, .int .i64 0, .int .i64 0, .int .i64 0] 40))))
    have hok := step_ok ⟨d, e, a, b, c⟩
    have hF : timeR 9 n2 ⟨d, e, a, b, c⟩ = (if (stepC ⟨d, e, a, b, c⟩).2 = false then (St.zero, false) else if (stepC ⟨d, e, a, b, c⟩).1.loop ((stepC ⟨d, e, a, b, c⟩).1.d - 1).toNat ≥ n2 then (St.zero, false) else ((stepC ⟨d, e, a, b, c⟩).1, true)) := by simp [timeR]
    generalize stepC ⟨d, e, a, b, c⟩ = u at HC0 hF hok
    obtain ⟨⟨u0, u1, u2, u3, u4⟩, r⟩ := u
    simp only [stV] at HC0
    simp only at hok
    cases r with
    | false =>
      have HF := Aside0.mk (show timeR 9 n2 ⟨d, e, a, b, c⟩ = (St.zero, false) by rw [hF]; simp)
      clear hF hok
      go_enter Try.func18, Try.ntmps18
      go_wp2_with (go_at_call 42; refine HC0.out.mono ?_; rintro e1 w1 ⟨rfl, hb⟩; have HXN := Aside0.mk (blk_below HBN.out hb); have HX2 := Aside0.mk (blk_below HB2.out hb); have HBW := Aside0.mk (below_step hHB2.out hb); clear hb)
      have HZN := Aside0.mk (blk_drew (blk_alloc HXN.out (.cells #[.int .i64 u0, .int .i64 u1, .int .i64 u2, .int .i64 u3, .int .i64 u4] 40)))
      have HZ2 := Aside0.mk (blk_drew (blk_alloc HX2.out (.cells #[.int .i64 u0, .int .i64 u1, .int .i64 u2, .int .i64 u3, .int .i64 u4] 40)))
      have HZ6 := Aside0.mk (blk_drew (blk_new w1 (.cells #[.int .i64 u0, .int .i64 u1, .int .i64 u2, .int .i64 u3, .int .i64 u4] 40)))
      have HZB := Aside0.mk ((below_alloc HBW.out (.cells #[.int .i64 u0, .int .i64 u1, .int .i64 u2, .int .i64 u3, .int .i64 u4] 40)).drew)
      have hS0 : (fun W => W.cell? ⟨w1.heap.size, 0, none⟩ = some (.int .i64 u0) ∧ W.cell? ⟨w1.heap.size, 1, none⟩ = some (.int .i64 u1) ∧ W.cell? ⟨w.heap.size, 2, none⟩ = some (.int .i64 n2)) (w1.alloc (.cells #[.int .i64 u0, .int .i64 u1, .int .i64 u2, .int .i64 u3, .int .i64 u4] 40)).drew := ⟨(blk_cell HZ6.out 0).trans rfl, (blk_cell HZ6.out 1).trans rfl, (blk_cell HZN.out 2).trans rfl⟩
      have z0 : wrap64 0 = 0 := by unfold wrap64; omega
      have z1 : wrap64 1 = 1 := by unfold wrap64; omega
      have z2 : wrap64 2 = 2 := by unfold wrap64; omega
      refine start_ (n := 13) (S := fun W => W.cell? ⟨w1.heap.size, 0, none⟩ = some (.int .i64 u0) ∧ W.cell? ⟨w1.heap.size, 1, none⟩ = some (.int .i64 u1) ∧ W.cell? ⟨w.heap.size, 2, none⟩ = some (.int .i64 n2)) (ds := []) #[false, false, false, false, false, false, false, false, false, false, false, false, false] (by kernel_rfl) rfl rfl hS0 (fun hHeld => ?_)
      refine with_tabW rtime.tab8 rtime.bits8 (fun HT_ HW_ => ?_)
      clear hS0
      generalize (w1.alloc (.cells #[.int .i64 u0, .int .i64 u1, .int .i64 u2, .int .i64 u3, .int .i64 u4] 40)).drew = wz at hHeld HZN HZ2 HZ6 HZB ⊢
      refine pure_ (i := 0) (N := (some 29)) (v := ?_) (a' := ?_) #[true, false, false, false, false, false, false, false, false, false, false, false, false] rfl rfl (any_of HT_.out (by kernel_rfl)) (fun _ _ _ h => h) (Or.inl ⟨by rfl, ?_⟩) ?_ ?_
      rotate_left
      · intro w'
        go_simp
        (try with_reducible rfl)
      rotate_left
      · simp only [Act.put, List.setIfInBounds_toArray, List.set_cons_zero, List.set_cons_succ, i64_w, i32_w]
        rfl
      refine pure_ (i := 1) (N := (some 30)) (v := ?_) (a' := ?_) #[true, true, false, false, false, false, false, false, false, false, false, false, false] rfl rfl (any_of HT_.out (by kernel_rfl)) (fun _ _ _ h => h) (Or.inl ⟨by rfl, ?_⟩) ?_ ?_
      rotate_left
      · intro w'
        go_simp
        (try with_reducible rfl)
      rotate_left
      · simp only [Act.put, List.setIfInBounds_toArray, List.set_cons_zero, List.set_cons_succ, i64_w, i32_w]
        rfl
      refine pure_ (i := 2) (N := (some 31)) (v := ?_) (a' := ?_) #[true, true, true, false, false, false, false, false, false, false, false, false, false] rfl rfl (any_of HT_.out (by kernel_rfl)) (fun _ _ _ h => h) (Or.inl ⟨by rfl, ?_⟩) ?_ ?_
      rotate_left
      · intro w'
        go_simp
        (try with_reducible rfl)
      rotate_left
      · simp only [Act.put, List.setIfInBounds_toArray, List.set_cons_zero, List.set_cons_succ, i64_w, i32_w]
        rfl
      refine pure_ (i := 3) (N := (some 32)) (v := undef) (a' := ?_) #[true, true, true, true, false, false, false, false, false, false, false, false, false] rfl rfl (any_of HT_.out (by kernel_rfl)) (fun _ _ _ h => h) (Or.inr ⟨by rfl, rfl⟩) ?_ ?_
      rotate_left
      · simp only [Act.put, List.setIfInBounds_toArray, List.set_cons_zero, List.set_cons_succ, i64_w, i32_w]
        rfl
      refine pure_ (i := 4) (N := (some 33)) (v := undef) (a' := ?_) #[true, true, true, true, true, false, false, false, false, false, false, false, false] rfl rfl (any_of HT_.out (by kernel_rfl)) (fun _ _ _ h => h) (Or.inr ⟨by rfl, rfl⟩) ?_ ?_
      rotate_left
      · simp only [Act.put, List.setIfInBounds_toArray, List.set_cons_zero, List.set_cons_succ, i64_w, i32_w]
        rfl
      refine pure_ (i := 5) (N := (some 34)) (v := undef) (a' := ?_) #[true, true, true, true, true, true, false, false, false, false, false, false, false] rfl rfl (any_of HT_.out (by kernel_rfl)) (fun _ _ _ h => h) (Or.inr ⟨by rfl, rfl⟩) ?_ ?_
      rotate_left
      · simp only [Act.put, List.setIfInBounds_toArray, List.set_cons_zero, List.set_cons_succ, i64_w, i32_w]
        rfl
      refine pure_ (i := 6) (N := (some 35)) (v := undef) (a' := ?_) #[true, true, true, true, true, true, true, false, false, false, false, false, false] rfl rfl (any_of HT_.out (by kernel_rfl)) (fun _ _ _ h => h) (Or.inr ⟨by rfl, rfl⟩) ?_ ?_
      rotate_left
      · simp only [Act.put, List.setIfInBounds_toArray, List.set_cons_zero, List.set_cons_succ, i64_w, i32_w]
        rfl
      refine pure_ (i := 7) (N := (some 36)) (v := undef) (a' := ?_) #[true, true, true, true, true, true, true, true, false, false, false, false, false] rfl rfl (any_of HT_.out (by kernel_rfl)) (fun _ _ _ h => h) (Or.inr ⟨by rfl, rfl⟩) ?_ ?_
      rotate_left
      · simp only [Act.put, List.setIfInBounds_toArray, List.set_cons_zero, List.set_cons_succ, i64_w, i32_w]
        rfl
      refine pure_ (i := 8) (N := (some 37)) (v := undef) (a' := ?_) #[true, true, true, true, true, true, true, true, true, false, false, false, false] rfl rfl (any_of HT_.out (by kernel_rfl)) (fun _ _ _ h => h) (Or.inr ⟨by rfl, rfl⟩) ?_ ?_
      rotate_left
      · simp only [Act.put, List.setIfInBounds_toArray, List.set_cons_zero, List.set_cons_succ, i64_w, i32_w]
        rfl
      refine pure_ (i := 9) (N := (some 38)) (v := undef) (a' := ?_) #[true, true, true, true, true, true, true, true, true, true, false, false, false] rfl rfl (any_of HT_.out (by kernel_rfl)) (fun _ _ _ h => h) (Or.inr ⟨by rfl, rfl⟩) ?_ ?_
      rotate_left
      · simp only [Act.put, List.setIfInBounds_toArray, List.set_cons_zero, List.set_cons_succ, i64_w, i32_w]
        rfl
      refine pure_ (i := 10) (N := (some 39)) (v := undef) (a' := ?_) #[true, true, true, true, true, true, true, true, true, true, true, false, false] rfl rfl (any_of HT_.out (by kernel_rfl)) (fun _ _ _ h => h) (Or.inr ⟨by rfl, rfl⟩) ?_ ?_
      rotate_left
      · simp only [Act.put, List.setIfInBounds_toArray, List.set_cons_zero, List.set_cons_succ, i64_w, i32_w]
        rfl
      refine pure_ (i := 11) (N := (some 40)) (v := undef) (a' := ?_) #[true, true, true, true, true, true, true, true, true, true, true, true, false] rfl rfl (any_of HT_.out (by kernel_rfl)) (fun _ _ _ h => h) (Or.inr ⟨by rfl, rfl⟩) ?_ ?_
      rotate_left
      · simp only [Act.put, List.setIfInBounds_toArray, List.set_cons_zero, List.set_cons_succ, i64_w, i32_w]
        rfl
      refine pure_ (i := 12) (N := (some 41)) (v := ?_) (a' := ?_) #[true, true, true, true, true, true, true, true, true, true, true, true, true] rfl rfl (any_of HT_.out (by kernel_rfl)) (fun _ _ _ h => h) (Or.inl ⟨by rfl, ?_⟩) ?_ ?_
      rotate_left
      · intro w'
        go_simp
        (try with_reducible rfl)
      rotate_left
      · simp only [Act.put, List.setIfInBounds_toArray, List.set_cons_zero, List.set_cons_succ, i64_w, i32_w]
        rfl
      refine done_ (done_of HT_.out (by kernel_rfl)) ?_
      have p0 := (blk_cell HZ6.out 0).trans rfl
      have r0 := (blk_cell HZ2.out 0).trans rfl
      have f0 := blk_frozen HZ2.out 0
      have p1 := (blk_cell HZ6.out 1).trans rfl
      have r1 := (blk_cell HZ2.out 1).trans rfl
      have f1 := blk_frozen HZ2.out 1
      have p2 := (blk_cell HZ6.out 2).trans rfl
      have r2 := (blk_cell HZ2.out 2).trans rfl
      have f2 := blk_frozen HZ2.out 2
      have p3 := (blk_cell HZ6.out 3).trans rfl
      have r3 := (blk_cell HZ2.out 3).trans rfl
      have f3 := blk_frozen HZ2.out 3
      have p4 := (blk_cell HZ6.out 4).trans rfl
      have r4 := (blk_cell HZ2.out 4).trans rfl
      have f4 := blk_frozen HZ2.out 4
      go_wp2
      refine bodyPost_ret (results_ct rfl _ _ (w.heap.size + 2) 40 #[.int .i64 0, .int .i64 0, .int .i64 0, .int .i64 0, .int .i64 0] (0, 0) _ rfl (by rw [(blk_set (blk_set (blk_set (blk_set (blk_set HZ2.out 0 (.int .i64 0)) 1 (.int .i64 0)) 2 (.int .i64 0)) 3 (.int .i64 0)) 4 (.int .i64 0))]; rfl) Try.underlying40 rfl (by kernel_rfl)) rfl ?_
      exact ⟨by rw [HF.out]; rfl, (below_set (below_set (below_set (below_set (below_set HZB.out (by show w.heap.size ≤ w.heap.size + 2; omega)) (by show w.heap.size ≤ w.heap.size + 2; omega)) (by show w.heap.size ≤ w.heap.size + 2; omega)) (by show w.heap.size ≤ w.heap.size + 2; omega)) (by show w.heap.size ≤ w.heap.size + 2; omega))⟩
    | true =>
      have hu := hok rfl
      rcases hu with rfl | rfl | rfl
      · by_cases kn : u2 ≥ n2
        · have HF := Aside0.mk (show timeR 9 n2 ⟨d, e, a, b, c⟩ = (St.zero, false) by rw [hF]; simp [St.loop]; omega)
          clear hF hok
          go_enter Try.func18, Try.ntmps18
          go_wp2_with (go_at_call 42; refine HC0.out.mono ?_; rintro e1 w1 ⟨rfl, hb⟩; have HXN := Aside0.mk (blk_below HBN.out hb); have HX2 := Aside0.mk (blk_below HB2.out hb); have HBW := Aside0.mk (below_step hHB2.out hb); clear hb)
          have HZN := Aside0.mk (blk_drew (blk_alloc HXN.out (.cells #[.int .i64 1, .int .i64 u1, .int .i64 u2, .int .i64 u3, .int .i64 u4] 40)))
          have HZ2 := Aside0.mk (blk_drew (blk_alloc HX2.out (.cells #[.int .i64 1, .int .i64 u1, .int .i64 u2, .int .i64 u3, .int .i64 u4] 40)))
          have HZ6 := Aside0.mk (blk_drew (blk_new w1 (.cells #[.int .i64 1, .int .i64 u1, .int .i64 u2, .int .i64 u3, .int .i64 u4] 40)))
          have HZB := Aside0.mk ((below_alloc HBW.out (.cells #[.int .i64 1, .int .i64 u1, .int .i64 u2, .int .i64 u3, .int .i64 u4] 40)).drew)
          have hS0 : (fun W => W.cell? ⟨w1.heap.size, 0, none⟩ = some (.int .i64 1) ∧ W.cell? ⟨w1.heap.size, 2, none⟩ = some (.int .i64 u2) ∧ W.cell? ⟨w.heap.size, 2, none⟩ = some (.int .i64 n2)) (w1.alloc (.cells #[.int .i64 1, .int .i64 u1, .int .i64 u2, .int .i64 u3, .int .i64 u4] 40)).drew := ⟨(blk_cell HZ6.out 0).trans rfl, (blk_cell HZ6.out 2).trans rfl, (blk_cell HZN.out 2).trans rfl⟩
          have z0 : wrap64 0 = 0 := by unfold wrap64; omega
          have z1 : wrap64 1 = 1 := by unfold wrap64; omega
          have z2 : wrap64 2 = 2 := by unfold wrap64; omega
          refine start_ (n := 13) (S := fun W => W.cell? ⟨w1.heap.size, 0, none⟩ = some (.int .i64 1) ∧ W.cell? ⟨w1.heap.size, 2, none⟩ = some (.int .i64 u2) ∧ W.cell? ⟨w.heap.size, 2, none⟩ = some (.int .i64 n2)) (ds := []) #[false, false, false, false, false, false, false, false, false, false, false, false, false] (by kernel_rfl) rfl rfl hS0 (fun hHeld => ?_)
          refine with_tabW rtime.tab8 rtime.bits8 (fun HT_ HW_ => ?_)
          clear hS0
          generalize (w1.alloc (.cells #[.int .i64 1, .int .i64 u1, .int .i64 u2, .int .i64 u3, .int .i64 u4] 40)).drew = wz at hHeld HZN HZ2 HZ6 HZB ⊢
          refine pure_ (i := 0) (N := (some 29)) (v := ?_) (a' := ?_) #[true, false, false, false, false, false, false, false, false, false, false, false, false] rfl rfl (any_of HT_.out (by kernel_rfl)) (fun _ _ _ h => h) (Or.inl ⟨by rfl, ?_⟩) ?_ ?_
          rotate_left
          · intro w'
            go_simp
            (try with_reducible rfl)
          rotate_left
          · simp only [Act.put, List.setIfInBounds_toArray, List.set_cons_zero, List.set_cons_succ, i64_w, i32_w]
            rfl
          refine pure_ (i := 1) (N := (some 30)) (v := ?_) (a' := ?_) #[true, true, false, false, false, false, false, false, false, false, false, false, false] rfl rfl (any_of HT_.out (by kernel_rfl)) (fun _ _ _ h => h) (Or.inl ⟨by rfl, ?_⟩) ?_ ?_
          rotate_left
          · intro w'
            go_simp
            (try with_reducible rfl)
          rotate_left
          · simp only [Act.put, List.setIfInBounds_toArray, List.set_cons_zero, List.set_cons_succ, i64_w, i32_w]
            rfl
          refine pure_ (i := 2) (N := (some 31)) (v := ?_) (a' := ?_) #[true, true, true, false, false, false, false, false, false, false, false, false, false] rfl rfl (any_of HT_.out (by kernel_rfl)) (fun _ _ _ h => h) (Or.inl ⟨by rfl, ?_⟩) ?_ ?_
          rotate_left
          · intro w'
            go_simp
            (try with_reducible rfl)
          rotate_left
          · simp only [Act.put, List.setIfInBounds_toArray, List.set_cons_zero, List.set_cons_succ, i64_w, i32_w]
            rfl
          refine pure_ (i := 3) (N := (some 32)) (v := ?_) (a' := ?_) #[true, true, true, true, false, false, false, false, false, false, false, false, false] rfl rfl (any_of HT_.out (by kernel_rfl)) (fun _ _ _ h => h) (Or.inl ⟨by rfl, ?_⟩) ?_ ?_
          rotate_left
          · intro w'
            go_simp
            (try with_reducible rfl)
          rotate_left
          · simp only [Act.put, List.setIfInBounds_toArray, List.set_cons_zero, List.set_cons_succ, i64_w, i32_w]
            rfl
          refine take_ (i := 4) (N := (some 33)) (v := ?_) (a' := ?_) #[true, true, true, true, true, false, false, false, false, false, false, false, false] rfl rfl (take_ofW HT_.out HW_.out (by kernel_rfl)) (fun _ _ _ h => h) (Or.inl ⟨by rfl, ?_⟩) hHeld ?_ ?_
          rotate_left
          · rintro w' ⟨sx0, sx1, sx2⟩
            go_simp
            (try with_reducible rfl)
          rotate_left
          · simp only [Act.put, List.setIfInBounds_toArray, List.set_cons_zero, List.set_cons_succ, i64_w, i32_w]
            rfl
          refine pure_ (i := 5) (N := (some 34)) (v := ?_) (a' := ?_) #[true, true, true, true, true, true, false, false, false, false, false, false, false] rfl rfl (any_of HT_.out (by kernel_rfl)) (fun _ _ _ h => h) (Or.inl ⟨by rfl, ?_⟩) ?_ ?_
          rotate_left
          · intro w'
            go_simp
            (try with_reducible rfl)
          rotate_left
          · simp only [Act.put, List.setIfInBounds_toArray, List.set_cons_zero, List.set_cons_succ, i64_w, i32_w]
            rfl
          refine pure_ (i := 6) (N := (some 35)) (v := ?_) (a' := ?_) #[true, true, true, true, true, true, true, false, false, false, false, false, false] rfl rfl (any_of HT_.out (by kernel_rfl)) (fun _ _ _ h => h) (Or.inl ⟨by rfl, ?_⟩) ?_ ?_
          rotate_left
          · intro w'
            go_simp
            (try with_reducible rfl)
          rotate_left
          · simp only [Act.put, List.setIfInBounds_toArray, List.set_cons_zero, List.set_cons_succ, i64_w, i32_w]
            rfl
          refine pure_ (i := 7) (N := (some 36)) (v := ?_) (a' := ?_) #[true, true, true, true, true, true, true, true, false, false, false, false, false] rfl rfl (any_of HT_.out (by kernel_rfl)) (fun _ _ _ h => h) (Or.inl ⟨by rfl, ?_⟩) ?_ ?_
          rotate_left
          · intro w'
            go_simp
            (try with_reducible rfl)
          rotate_left
          · simp only [Act.put, List.setIfInBounds_toArray, List.set_cons_zero, List.set_cons_succ, i64_w, i32_w]
            rfl
          refine take_ (i := 8) (N := (some 37)) (v := ?_) (a' := ?_) #[true, true, true, true, true, true, true, true, true, false, false, false, false] rfl rfl (take_ofW HT_.out HW_.out (by kernel_rfl)) (fun _ _ _ h => h) (Or.inl ⟨by rfl, ?_⟩) hHeld ?_ ?_
          rotate_left
          · rintro w' ⟨sx0, sx1, sx2⟩
            go_simp
            (try with_reducible rfl)
          rotate_left
          · simp only [Act.put, List.setIfInBounds_toArray, List.set_cons_zero, List.set_cons_succ, i64_w, i32_w]
            rfl
          refine pure_ (i := 9) (N := (some 38)) (v := ?_) (a' := ?_) #[true, true, true, true, true, true, true, true, true, true, false, false, false] rfl rfl (any_of HT_.out (by kernel_rfl)) (fun _ _ _ h => h) (Or.inl ⟨by rfl, ?_⟩) ?_ ?_
          rotate_left
          · intro w'
            go_simp
            (try with_reducible rfl)
          rotate_left
          · simp only [Act.put, List.setIfInBounds_toArray, List.set_cons_zero, List.set_cons_succ, i64_w, i32_w]
            rfl
          refine take_ (i := 10) (N := (some 39)) (v := ?_) (a' := ?_) #[true, true, true, true, true, true, true, true, true, true, true, false, false] rfl rfl (take_ofW HT_.out HW_.out (by kernel_rfl)) (fun _ _ _ h => h) (Or.inl ⟨by rfl, ?_⟩) hHeld ?_ ?_
          rotate_left
          · rintro w' ⟨sx0, sx1, sx2⟩
            go_simp
            (try with_reducible rfl)
          rotate_left
          · simp only [Act.put, List.setIfInBounds_toArray, List.set_cons_zero, List.set_cons_succ, i64_w, i32_w]
            rfl
          refine pure_ (i := 11) (N := (some 40)) (v := ?_) (a' := ?_) #[true, true, true, true, true, true, true, true, true, true, true, true, false] rfl rfl (any_of HT_.out (by kernel_rfl)) (fun _ _ _ h => h) (Or.inl ⟨by rfl, ?_⟩) ?_ ?_
          rotate_left
          · intro w'
            go_simp
            (try with_reducible rfl)
          rotate_left
          · simp only [Act.put, List.setIfInBounds_toArray, List.set_cons_zero, List.set_cons_succ, i64_w, i32_w]
            rfl
          refine pure_ (i := 12) (N := (some 41)) (v := ?_) (a' := ?_) #[true, true, true, true, true, true, true, true, true, true, true, true, true] rfl rfl (any_of HT_.out (by kernel_rfl)) (fun _ _ _ h => h) (Or.inl ⟨by rfl, ?_⟩) ?_ ?_
          rotate_left
          · intro w'
            go_simp
            (try with_reducible rfl)
          rotate_left
          · simp only [Act.put, List.setIfInBounds_toArray, List.set_cons_zero, List.set_cons_succ, i64_w, i32_w]
            rfl
          refine done_ (done_of HT_.out (by kernel_rfl)) ?_
          have p0 := (blk_cell HZ6.out 0).trans rfl
          have r0 := (blk_cell HZ2.out 0).trans rfl
          have f0 := blk_frozen HZ2.out 0
          have p1 := (blk_cell HZ6.out 1).trans rfl
          have r1 := (blk_cell HZ2.out 1).trans rfl
          have f1 := blk_frozen HZ2.out 1
          have p2 := (blk_cell HZ6.out 2).trans rfl
          have r2 := (blk_cell HZ2.out 2).trans rfl
          have f2 := blk_frozen HZ2.out 2
          have p3 := (blk_cell HZ6.out 3).trans rfl
          have r3 := (blk_cell HZ2.out 3).trans rfl
          have f3 := blk_frozen HZ2.out 3
          have p4 := (blk_cell HZ6.out 4).trans rfl
          have r4 := (blk_cell HZ2.out 4).trans rfl
          have f4 := blk_frozen HZ2.out 4
          go_wp2
          refine bodyPost_ret (results_ct rfl _ _ (w.heap.size + 2) 40 #[.int .i64 0, .int .i64 0, .int .i64 0, .int .i64 0, .int .i64 0] (0, 0) _ rfl (by rw [(blk_set (blk_set (blk_set (blk_set (blk_set HZ2.out 0 (.int .i64 0)) 1 (.int .i64 0)) 2 (.int .i64 0)) 3 (.int .i64 0)) 4 (.int .i64 0))]; rfl) Try.underlying40 rfl (by kernel_rfl)) rfl ?_
          exact ⟨by rw [HF.out]; rfl, (below_set (below_set (below_set (below_set (below_set HZB.out (by show w.heap.size ≤ w.heap.size + 2; omega)) (by show w.heap.size ≤ w.heap.size + 2; omega)) (by show w.heap.size ≤ w.heap.size + 2; omega)) (by show w.heap.size ≤ w.heap.size + 2; omega)) (by show w.heap.size ≤ w.heap.size + 2; omega))⟩
        · have HF := Aside0.mk (show timeR 9 n2 ⟨d, e, a, b, c⟩ = (⟨1, u1, u2, u3, u4⟩, true) by rw [hF]; simp [St.loop]; omega)
          clear hF hok
          go_enter Try.func18, Try.ntmps18
          go_wp2_with (go_at_call 42; refine HC0.out.mono ?_; rintro e1 w1 ⟨rfl, hb⟩; have HXN := Aside0.mk (blk_below HBN.out hb); have HX2 := Aside0.mk (blk_below HB2.out hb); have HBW := Aside0.mk (below_step hHB2.out hb); clear hb)
          have HZN := Aside0.mk (blk_drew (blk_alloc HXN.out (.cells #[.int .i64 1, .int .i64 u1, .int .i64 u2, .int .i64 u3, .int .i64 u4] 40)))
          have HZ2 := Aside0.mk (blk_drew (blk_alloc HX2.out (.cells #[.int .i64 1, .int .i64 u1, .int .i64 u2, .int .i64 u3, .int .i64 u4] 40)))
          have HZ6 := Aside0.mk (blk_drew (blk_new w1 (.cells #[.int .i64 1, .int .i64 u1, .int .i64 u2, .int .i64 u3, .int .i64 u4] 40)))
          have HZB := Aside0.mk ((below_alloc HBW.out (.cells #[.int .i64 1, .int .i64 u1, .int .i64 u2, .int .i64 u3, .int .i64 u4] 40)).drew)
          have hS0 : (fun W => W.cell? ⟨w1.heap.size, 0, none⟩ = some (.int .i64 1) ∧ W.cell? ⟨w1.heap.size, 2, none⟩ = some (.int .i64 u2) ∧ W.cell? ⟨w.heap.size, 2, none⟩ = some (.int .i64 n2)) (w1.alloc (.cells #[.int .i64 1, .int .i64 u1, .int .i64 u2, .int .i64 u3, .int .i64 u4] 40)).drew := ⟨(blk_cell HZ6.out 0).trans rfl, (blk_cell HZ6.out 2).trans rfl, (blk_cell HZN.out 2).trans rfl⟩
          have z0 : wrap64 0 = 0 := by unfold wrap64; omega
          have z1 : wrap64 1 = 1 := by unfold wrap64; omega
          have z2 : wrap64 2 = 2 := by unfold wrap64; omega
          refine start_ (n := 13) (S := fun W => W.cell? ⟨w1.heap.size, 0, none⟩ = some (.int .i64 1) ∧ W.cell? ⟨w1.heap.size, 2, none⟩ = some (.int .i64 u2) ∧ W.cell? ⟨w.heap.size, 2, none⟩ = some (.int .i64 n2)) (ds := []) #[false, false, false, false, false, false, false, false, false, false, false, false, false] (by kernel_rfl) rfl rfl hS0 (fun hHeld => ?_)
          refine with_tabW rtime.tab8 rtime.bits8 (fun HT_ HW_ => ?_)
          clear hS0
          generalize (w1.alloc (.cells #[.int .i64 1, .int .i64 u1, .int .i64 u2, .int .i64 u3, .int .i64 u4] 40)).drew = wz at hHeld HZN HZ2 HZ6 HZB ⊢
          refine pure_ (i := 0) (N := (some 29)) (v := ?_) (a' := ?_) #[true, false, false, false, false, false, false, false, false, false, false, false, false] rfl rfl (any_of HT_.out (by kernel_rfl)) (fun _ _ _ h => h) (Or.inl ⟨by rfl, ?_⟩) ?_ ?_
          rotate_left
          · intro w'
            go_simp
            (try with_reducible rfl)
          rotate_left
          · simp only [Act.put, List.setIfInBounds_toArray, List.set_cons_zero, List.set_cons_succ, i64_w, i32_w]
            rfl
          refine pure_ (i := 1) (N := (some 30)) (v := ?_) (a' := ?_) #[true, true, false, false, false, false, false, false, false, false, false, false, false] rfl rfl (any_of HT_.out (by kernel_rfl)) (fun _ _ _ h => h) (Or.inl ⟨by rfl, ?_⟩) ?_ ?_
          rotate_left
          · intro w'
            go_simp
            (try with_reducible rfl)
          rotate_left
          · simp only [Act.put, List.setIfInBounds_toArray, List.set_cons_zero, List.set_cons_succ, i64_w, i32_w]
            rfl
          refine pure_ (i := 2) (N := (some 31)) (v := ?_) (a' := ?_) #[true, true, true, false, false, false, false, false, false, false, false, false, false] rfl rfl (any_of HT_.out (by kernel_rfl)) (fun _ _ _ h => h) (Or.inl ⟨by rfl, ?_⟩) ?_ ?_
          rotate_left
          · intro w'
            go_simp
            (try with_reducible rfl)
          rotate_left
          · simp only [Act.put, List.setIfInBounds_toArray, List.set_cons_zero, List.set_cons_succ, i64_w, i32_w]
            rfl
          refine pure_ (i := 3) (N := (some 32)) (v := ?_) (a' := ?_) #[true, true, true, true, false, false, false, false, false, false, false, false, false] rfl rfl (any_of HT_.out (by kernel_rfl)) (fun _ _ _ h => h) (Or.inl ⟨by rfl, ?_⟩) ?_ ?_
          rotate_left
          · intro w'
            go_simp
            (try with_reducible rfl)
          rotate_left
          · simp only [Act.put, List.setIfInBounds_toArray, List.set_cons_zero, List.set_cons_succ, i64_w, i32_w]
            rfl
          refine take_ (i := 4) (N := (some 33)) (v := ?_) (a' := ?_) #[true, true, true, true, true, false, false, false, false, false, false, false, false] rfl rfl (take_ofW HT_.out HW_.out (by kernel_rfl)) (fun _ _ _ h => h) (Or.inl ⟨by rfl, ?_⟩) hHeld ?_ ?_
          rotate_left
          · rintro w' ⟨sx0, sx1, sx2⟩
            go_simp
            (try with_reducible rfl)
          rotate_left
          · simp only [Act.put, List.setIfInBounds_toArray, List.set_cons_zero, List.set_cons_succ, i64_w, i32_w]
            rfl
          refine pure_ (i := 5) (N := (some 34)) (v := ?_) (a' := ?_) #[true, true, true, true, true, true, false, false, false, false, false, false, false] rfl rfl (any_of HT_.out (by kernel_rfl)) (fun _ _ _ h => h) (Or.inl ⟨by rfl, ?_⟩) ?_ ?_
          rotate_left
          · intro w'
            go_simp
            (try with_reducible rfl)
          rotate_left
          · simp only [Act.put, List.setIfInBounds_toArray, List.set_cons_zero, List.set_cons_succ, i64_w, i32_w]
            rfl
          refine pure_ (i := 6) (N := (some 35)) (v := ?_) (a' := ?_) #[true, true, true, true, true, true, true, false, false, false, false, false, false] rfl rfl (any_of HT_.out (by kernel_rfl)) (fun _ _ _ h => h) (Or.inl ⟨by rfl, ?_⟩) ?_ ?_
          rotate_left
          · intro w'
            go_simp
            (try with_reducible rfl)
          rotate_left
          · simp only [Act.put, List.setIfInBounds_toArray, List.set_cons_zero, List.set_cons_succ, i64_w, i32_w]
            rfl
          refine pure_ (i := 7) (N := (some 36)) (v := ?_) (a' := ?_) #[true, true, true, true, true, true, true, true, false, false, false, false, false] rfl rfl (any_of HT_.out (by kernel_rfl)) (fun _ _ _ h => h) (Or.inl ⟨by rfl, ?_⟩) ?_ ?_
          rotate_left
          · intro w'
            go_simp
            (try with_reducible rfl)
          rotate_left
          · simp only [Act.put, List.setIfInBounds_toArray, List.set_cons_zero, List.set_cons_succ, i64_w, i32_w]
            rfl
          refine take_ (i := 8) (N := (some 37)) (v := ?_) (a' := ?_) #[true, true, true, true, true, true, true, true, true, false, false, false, false] rfl rfl (take_ofW HT_.out HW_.out (by kernel_rfl)) (fun _ _ _ h => h) (Or.inl ⟨by rfl, ?_⟩) hHeld ?_ ?_
          rotate_left
          · rintro w' ⟨sx0, sx1, sx2⟩
            go_simp
            (try with_reducible rfl)
          rotate_left
          · simp only [Act.put, List.setIfInBounds_toArray, List.set_cons_zero, List.set_cons_succ, i64_w, i32_w]
            rfl
          refine pure_ (i := 9) (N := (some 38)) (v := ?_) (a' := ?_) #[true, true, true, true, true, true, true, true, true, true, false, false, false] rfl rfl (any_of HT_.out (by kernel_rfl)) (fun _ _ _ h => h) (Or.inl ⟨by rfl, ?_⟩) ?_ ?_
          rotate_left
          · intro w'
            go_simp
            (try with_reducible rfl)
          rotate_left
          · simp only [Act.put, List.setIfInBounds_toArray, List.set_cons_zero, List.set_cons_succ, i64_w, i32_w]
            rfl
          refine take_ (i := 10) (N := (some 39)) (v := ?_) (a' := ?_) #[true, true, true, true, true, true, true, true, true, true, true, false, false] rfl rfl (take_ofW HT_.out HW_.out (by kernel_rfl)) (fun _ _ _ h => h) (Or.inl ⟨by rfl, ?_⟩) hHeld ?_ ?_
          rotate_left
          · rintro w' ⟨sx0, sx1, sx2⟩
            go_simp
            (try with_reducible rfl)
          rotate_left
          · simp only [Act.put, List.setIfInBounds_toArray, List.set_cons_zero, List.set_cons_succ, i64_w, i32_w]
            rfl
          refine pure_ (i := 11) (N := (some 40)) (v := ?_) (a' := ?_) #[true, true, true, true, true, true, true, true, true, true, true, true, false] rfl rfl (any_of HT_.out (by kernel_rfl)) (fun _ _ _ h => h) (Or.inl ⟨by rfl, ?_⟩) ?_ ?_
          rotate_left
          · intro w'
            go_simp
            (try with_reducible rfl)
          rotate_left
          · simp only [Act.put, List.setIfInBounds_toArray, List.set_cons_zero, List.set_cons_succ, i64_w, i32_w]
            rfl
          refine pure_ (i := 12) (N := (some 41)) (v := ?_) (a' := ?_) #[true, true, true, true, true, true, true, true, true, true, true, true, true] rfl rfl (any_of HT_.out (by kernel_rfl)) (fun _ _ _ h => h) (Or.inl ⟨by rfl, ?_⟩) ?_ ?_
          rotate_left
          · intro w'
            go_simp
            (try with_reducible rfl)
          rotate_left
          · simp only [Act.put, List.setIfInBounds_toArray, List.set_cons_zero, List.set_cons_succ, i64_w, i32_w]
            rfl
          refine done_ (done_of HT_.out (by kernel_rfl)) ?_
          have p0 := (blk_cell HZ6.out 0).trans rfl
          have r0 := (blk_cell HZ2.out 0).trans rfl
          have f0 := blk_frozen HZ2.out 0
          have p1 := (blk_cell HZ6.out 1).trans rfl
          have r1 := (blk_cell HZ2.out 1).trans rfl
          have f1 := blk_frozen HZ2.out 1
          have p2 := (blk_cell HZ6.out 2).trans rfl
          have r2 := (blk_cell HZ2.out 2).trans rfl
          have f2 := blk_frozen HZ2.out 2
          have p3 := (blk_cell HZ6.out 3).trans rfl
          have r3 := (blk_cell HZ2.out 3).trans rfl
          have f3 := blk_frozen HZ2.out 3
          have p4 := (blk_cell HZ6.out 4).trans rfl
          have r4 := (blk_cell HZ2.out 4).trans rfl
          have f4 := blk_frozen HZ2.out 4
          go_wp2
          refine bodyPost_ret (results_ct rfl _ _ (w.heap.size + 2) 40 #[.int .i64 1, .int .i64 u1, .int .i64 u2, .int .i64 u3, .int .i64 u4] (0, 0) _ rfl (by rw [(blk_set (blk_set (blk_set (blk_set (blk_set HZ2.out 0 (.int .i64 1)) 1 (.int .i64 u1)) 2 (.int .i64 u2)) 3 (.int .i64 u3)) 4 (.int .i64 u4))]; rfl) Try.underlying40 rfl (by kernel_rfl)) rfl ?_
          exact ⟨by rw [HF.out]; rfl, (below_set (below_set (below_set (below_set (below_set HZB.out (by show w.heap.size ≤ w.heap.size + 2; omega)) (by show w.heap.size ≤ w.heap.size + 2; omega)) (by show w.heap.size ≤ w.heap.size + 2; omega)) (by show w.heap.size ≤ w.heap.size + 2; omega)) (by show w.heap.size ≤ w.heap.size + 2; omega))⟩
      · by_cases kn : u3 ≥ n2
        · have HF := Aside0.mk (show timeR 9 n2 ⟨d, e, a, b, c⟩ = (St.zero, false) by rw [hF]; simp [St.loop]; omega)
          clear hF hok
          go_enter Try.func18, Try.ntmps18
          go_wp2_with (go_at_call 42; refine HC0.out.mono ?_; rintro e1 w1 ⟨rfl, hb⟩; have HXN := Aside0.mk (blk_below HBN.out hb); have HX2 := Aside0.mk (blk_below HB2.out hb); have HBW := Aside0.mk (below_step hHB2.out hb); clear hb)
          have HZN := Aside0.mk (blk_drew (blk_alloc HXN.out (.cells #[.int .i64 2, .int .i64 u1, .int .i64 u2, .int .i64 u3, .int .i64 u4] 40)))
          have HZ2 := Aside0.mk (blk_drew (blk_alloc HX2.out (.cells #[.int .i64 2, .int .i64 u1, .int .i64 u2, .int .i64 u3, .int .i64 u4] 40)))
          have HZ6 := Aside0.mk (blk_drew (blk_new w1 (.cells #[.int .i64 2, .int .i64 u1, .int .i64 u2, .int .i64 u3, .int .i64 u4] 40)))
          have HZB := Aside0.mk ((below_alloc HBW.out (.cells #[.int .i64 2, .int .i64 u1, .int .i64 u2, .int .i64 u3, .int .i64 u4] 40)).drew)
          have hS0 : (fun W => W.cell? ⟨w1.heap.size, 0, none⟩ = some (.int .i64 2) ∧ W.cell? ⟨w1.heap.size, 3, none⟩ = some (.int .i64 u3) ∧ W.cell? ⟨w.heap.size, 2, none⟩ = some (.int .i64 n2)) (w1.alloc (.cells #[.int .i64 2, .int .i64 u1, .int .i64 u2, .int .i64 u3, .int .i64 u4] 40)).drew := ⟨(blk_cell HZ6.out 0).trans rfl, (blk_cell HZ6.out 3).trans rfl, (blk_cell HZN.out 2).trans rfl⟩
          have z0 : wrap64 0 = 0 := by unfold wrap64; omega
          have z1 : wrap64 1 = 1 := by unfold wrap64; omega
          have z2 : wrap64 2 = 2 := by unfold wrap64; omega
          refine start_ (n := 13) (S := fun W => W.cell? ⟨w1.heap.size, 0, none⟩ = some (.int .i64 2) ∧ W.cell? ⟨w1.heap.size, 3, none⟩ = some (.int .i64 u3) ∧ W.cell? ⟨w.heap.size, 2, none⟩ = some (.int .i64 n2)) (ds := []) #[false, false, false, false, false, false, false, false, false, false, false, false, false] (by kernel_rfl) rfl rfl hS0 (fun hHeld => ?_)
          refine with_tabW rtime.tab8 rtime.bits8 (fun HT_ HW_ => ?_)
          clear hS0
          generalize (w1.alloc (.cells #[.int .i64 2, .int .i64 u1, .int .i64 u2, .int .i64 u3, .int .i64 u4] 40)).drew = wz at hHeld HZN HZ2 HZ6 HZB ⊢
          refine pure_ (i := 0) (N := (some 29)) (v := ?_) (a' := ?_) #[true, false, false, false, false, false, false, false, false, false, false, false, false] rfl rfl (any_of HT_.out (by kernel_rfl)) (fun _ _ _ h => h) (Or.inl ⟨by rfl, ?_⟩) ?_ ?_
          rotate_left
          · intro w'
            go_simp
            (try with_reducible rfl)
          rotate_left
          · simp only [Act.put, List.setIfInBounds_toArray, List.set_cons_zero, List.set_cons_succ, i64_w, i32_w]
            rfl
          refine pure_ (i := 1) (N := (some 30)) (v := ?_) (a' := ?_) #[true, true, false, false, false, false, false, false, false, false, false, false, false] rfl rfl (any_of HT_.out (by kernel_rfl)) (fun _ _ _ h => h) (Or.inl ⟨by rfl, ?_⟩) ?_ ?_
          rotate_left
          · intro w'
            go_simp
            (try with_reducible rfl)
          rotate_left
          · simp only [Act.put, List.setIfInBounds_toArray, List.set_cons_zero, List.set_cons_succ, i64_w, i32_w]
            rfl
          refine pure_ (i := 2) (N := (some 31)) (v := ?_) (a' := ?_) #[true, true, true, false, false, false, false, false, false, false, false, false, false] rfl rfl (any_of HT_.out (by kernel_rfl)) (fun _ _ _ h => h) (Or.inl ⟨by rfl, ?_⟩) ?_ ?_
          rotate_left
          · intro w'
            go_simp
            (try with_reducible rfl)
          rotate_left
          · simp only [Act.put, List.setIfInBounds_toArray, List.set_cons_zero, List.set_cons_succ, i64_w, i32_w]
            rfl
          refine pure_ (i := 3) (N := (some 32)) (v := ?_) (a' := ?_) #[true, true, true, true, false, false, false, false, false, false, false, false, false] rfl rfl (any_of HT_.out (by kernel_rfl)) (fun _ _ _ h => h) (Or.inl ⟨by rfl, ?_⟩) ?_ ?_
          rotate_left
          · intro w'
            go_simp
            (try with_reducible rfl)
          rotate_left
          · simp only [Act.put, List.setIfInBounds_toArray, List.set_cons_zero, List.set_cons_succ, i64_w, i32_w]
            rfl
          refine take_ (i := 4) (N := (some 33)) (v := ?_) (a' := ?_) #[true, true, true, true, true, false, false, false, false, false, false, false, false] rfl rfl (take_ofW HT_.out HW_.out (by kernel_rfl)) (fun _ _ _ h => h) (Or.inl ⟨by rfl, ?_⟩) hHeld ?_ ?_
          rotate_left
          · rintro w' ⟨sx0, sx1, sx2⟩
            go_simp
            (try with_reducible rfl)
          rotate_left
          · simp only [Act.put, List.setIfInBounds_toArray, List.set_cons_zero, List.set_cons_succ, i64_w, i32_w]
            rfl
          refine pure_ (i := 5) (N := (some 34)) (v := ?_) (a' := ?_) #[true, true, true, true, true, true, false, false, false, false, false, false, false] rfl rfl (any_of HT_.out (by kernel_rfl)) (fun _ _ _ h => h) (Or.inl ⟨by rfl, ?_⟩) ?_ ?_
          rotate_left
          · intro w'
            go_simp
            (try with_reducible rfl)
          rotate_left
          · simp only [Act.put, List.setIfInBounds_toArray, List.set_cons_zero, List.set_cons_succ, i64_w, i32_w]
            rfl
          refine pure_ (i := 6) (N := (some 35)) (v := ?_) (a' := ?_) #[true, true, true, true, true, true, true, false, false, false, false, false, false] rfl rfl (any_of HT_.out (by kernel_rfl)) (fun _ _ _ h => h) (Or.inl ⟨by rfl, ?_⟩) ?_ ?_
          rotate_left
          · intro w'
            go_simp
            (try with_reducible rfl)
          rotate_left
          · simp only [Act.put, List.setIfInBounds_toArray, List.set_cons_zero, List.set_cons_succ, i64_w, i32_w]
            rfl
          refine pure_ (i := 7) (N := (some 36)) (v := ?_) (a' := ?_) #[true, true, true, true, true, true, true, true, false, false, false, false, false] rfl rfl (any_of HT_.out (by kernel_rfl)) (fun _ _ _ h => h) (Or.inl ⟨by rfl, ?_⟩) ?_ ?_
          rotate_left
          · intro w'
            go_simp
            (try with_reducible rfl)
          rotate_left
          · simp only [Act.put, List.setIfInBounds_toArray, List.set_cons_zero, List.set_cons_succ, i64_w, i32_w]
            rfl
          refine take_ (i := 8) (N := (some 37)) (v := ?_) (a' := ?_) #[true, true, true, true, true, true, true, true, true, false, false, false, false] rfl rfl (take_ofW HT_.out HW_.out (by kernel_rfl)) (fun _ _ _ h => h) (Or.inl ⟨by rfl, ?_⟩) hHeld ?_ ?_
          rotate_left
          · rintro w' ⟨sx0, sx1, sx2⟩
            go_simp
            (try with_reducible rfl)
          rotate_left
          · simp only [Act.put, List.setIfInBounds_toArray, List.set_cons_zero, List.set_cons_succ, i64_w, i32_w]
            rfl
          refine pure_ (i := 9) (N := (some 38)) (v := ?_) (a' := ?_) #[true, true, true, true, true, true, true, true, true, true, false, false, false] rfl rfl (any_of HT_.out (by kernel_rfl)) (fun _ _ _ h => h) (Or.inl ⟨by rfl, ?_⟩) ?_ ?_
          rotate_left
          · intro w'
            go_simp
            (try with_reducible rfl)
          rotate_left
          · simp only [Act.put, List.setIfInBounds_toArray, List.set_cons_zero, List.set_cons_succ, i64_w, i32_w]
            rfl
          refine take_ (i := 10) (N := (some 39)) (v := ?_) (a' := ?_) #[true, true, true, true, true, true, true, true, true, true, true, false, false] rfl rfl (take_ofW HT_.out HW_.out (by kernel_rfl)) (fun _ _ _ h => h) (Or.inl ⟨by rfl, ?_⟩) hHeld ?_ ?_
          rotate_left
          · rintro w' ⟨sx0, sx1, sx2⟩
            go_simp
            (try with_reducible rfl)
          rotate_left
          · simp only [Act.put, List.setIfInBounds_toArray, List.set_cons_zero, List.set_cons_succ, i64_w, i32_w]
            rfl
          refine pure_ (i := 11) (N := (some 40)) (v := ?_) (a' := ?_) #[true, true, true, true, true, true, true, true, true, true, true, true, false] rfl rfl (any_of HT_.out (by kernel_rfl)) (fun _ _ _ h => h) (Or.inl ⟨by rfl, ?_⟩) ?_ ?_
          rotate_left
          · intro w'
            go_simp
            (try with_reducible rfl)
          rotate_left
          · simp only [Act.put, List.setIfInBounds_toArray, List.set_cons_zero, List.set_cons_succ, i64_w, i32_w]
            rfl
          refine pure_ (i := 12) (N := (some 41)) (v := ?_) (a' := ?_) #[true, true, true, true, true, true, true, true, true, true, true, true, true] rfl rfl (any_of HT_.out (by kernel_rfl)) (fun _ _ _ h => h) (Or.inl ⟨by rfl, ?_⟩) ?_ ?_
          rotate_left
          · intro w'
            go_simp
            (try with_reducible rfl)
          rotate_left
          · simp only [Act.put, List.setIfInBounds_toArray, List.set_cons_zero, List.set_cons_succ, i64_w, i32_w]
            rfl
          refine done_ (done_of HT_.out (by kernel_rfl)) ?_
          have p0 := (blk_cell HZ6.out 0).trans rfl
          have r0 := (blk_cell HZ2.out 0).trans rfl
          have f0 := blk_frozen HZ2.out 0
          have p1 := (blk_cell HZ6.out 1).trans rfl
          have r1 := (blk_cell HZ2.out 1).trans rfl
          have f1 := blk_frozen HZ2.out 1
          have p2 := (blk_cell HZ6.out 2).trans rfl
          have r2 := (blk_cell HZ2.out 2).trans rfl
          have f2 := blk_frozen HZ2.out 2
          have p3 := (blk_cell HZ6.out 3).trans rfl
          have r3 := (blk_cell HZ2.out 3).trans rfl
          have f3 := blk_frozen HZ2.out 3
          have p4 := (blk_cell HZ6.out 4).trans rfl
          have r4 := (blk_cell HZ2.out 4).trans rfl
          have f4 := blk_frozen HZ2.out 4
          go_wp2
          refine bodyPost_ret (results_ct rfl _ _ (w.heap.size + 2) 40 #[.int .i64 0, .int .i64 0, .int .i64 0, .int .i64 0, .int .i64 0] (0, 0) _ rfl (by rw [(blk_set (blk_set (blk_set (blk_set (blk_set HZ2.out 0 (.int .i64 0)) 1 (.int .i64 0)) 2 (.int .i64 0)) 3 (.int .i64 0)) 4 (.int .i64 0))]; rfl) Try.underlying40 rfl (by kernel_rfl)) rfl ?_
          exact ⟨by rw [HF.out]; rfl, (below_set (below_set (below_set (below_set (below_set HZB.out (by show w.heap.size ≤ w.heap.size + 2; omega)) (by show w.heap.size ≤ w.heap.size + 2; omega)) (by show w.heap.size ≤ w.heap.size + 2; omega)) (by show w.heap.size ≤ w.heap.size + 2; omega)) (by show w.heap.size ≤ w.heap.size + 2; omega))⟩
        · have HF := Aside0.mk (show timeR 9 n2 ⟨d, e, a, b, c⟩ = (⟨2, u1, u2, u3, u4⟩, true) by rw [hF]; simp [St.loop]; omega)
          clear hF hok
          go_enter Try.func18, Try.ntmps18
          go_wp2_with (go_at_call 42; refine HC0.out.mono ?_; rintro e1 w1 ⟨rfl, hb⟩; have HXN := Aside0.mk (blk_below HBN.out hb); have HX2 := Aside0.mk (blk_below HB2.out hb); have HBW := Aside0.mk (below_step hHB2.out hb); clear hb)
          have HZN := Aside0.mk (blk_drew (blk_alloc HXN.out (.cells #[.int .i64 2, .int .i64 u1, .int .i64 u2, .int .i64 u3, .int .i64 u4] 40)))
          have HZ2 := Aside0.mk (blk_drew (blk_alloc HX2.out (.cells #[.int .i64 2, .int .i64 u1, .int .i64 u2, .int .i64 u3, .int .i64 u4] 40)))
          have HZ6 := Aside0.mk (blk_drew (blk_new w1 (.cells #[.int .i64 2, .int .i64 u1, .int .i64 u2, .int .i64 u3, .int .i64 u4] 40)))
          have HZB := Aside0.mk ((below_alloc HBW.out (.cells #[.int .i64 2, .int .i64 u1, .int .i64 u2, .int .i64 u3, .int .i64 u4] 40)).drew)
          have hS0 : (fun W => W.cell? ⟨w1.heap.size, 0, none⟩ = some (.int .i64 2) ∧ W.cell? ⟨w1.heap.size, 3, none⟩ = some (.int .i64 u3) ∧ W.cell? ⟨w.heap.size, 2, none⟩ = some (.int .i64 n2)) (w1.alloc (.cells #[.int .i64 2, .int .i64 u1, .int .i64 u2, .int .i64 u3, .int .i64 u4] 40)).drew := ⟨(blk_cell HZ6.out 0).trans rfl, (blk_cell HZ6.out 3).trans rfl, (blk_cell HZN.out 2).trans rfl⟩
          have z0 : wrap64 0 = 0 := by unfold wrap64; omega
          have z1 : wrap64 1 = 1 := by unfold wrap64; omega
          have z2 : wrap64 2 = 2 := by unfold wrap64; omega
          refine start_ (n := 13) (S := fun W => W.cell? ⟨w1.heap.size, 0, none⟩ = some (.int .i64 2) ∧ W.cell? ⟨w1.heap.size, 3, none⟩ = some (.int .i64 u3) ∧ W.cell? ⟨w.heap.size, 2, none⟩ = some (.int .i64 n2)) (ds := []) #[false, false, false, false, false, false, false, false, false, false, false, false, false] (by kernel_rfl) rfl rfl hS0 (fun hHeld => ?_)
          refine with_tabW rtime.tab8 rtime.bits8 (fun HT_ HW_ => ?_)
          clear hS0
          generalize (w1.alloc (.cells #[.int .i64 2, .int .i64 u1, .int .i64 u2, .int .i64 u3, .int .i64 u4] 40)).drew = wz at hHeld HZN HZ2 HZ6 HZB ⊢
          refine pure_ (i := 0) (N := (some 29)) (v := ?_) (a' := ?_) #[true, false, false, false, false, false, false, false, false, false, false, false, false] rfl rfl (any_of HT_.out (by kernel_rfl)) (fun _ _ _ h => h) (Or.inl ⟨by rfl, ?_⟩) ?_ ?_
          rotate_left
          · intro w'
            go_simp
            (try with_reducible rfl)
          rotate_left
          · simp only [Act.put, List.setIfInBounds_toArray, List.set_cons_zero, List.set_cons_succ, i64_w, i32_w]
            rfl
          refine pure_ (i := 1) (N := (some 30)) (v := ?_) (a' := ?_) #[true, true, false, false, false, false, false, false, false, false, false, false, false] rfl rfl (any_of HT_.out (by kernel_rfl)) (fun _ _ _ h => h) (Or.inl ⟨by rfl, ?_⟩) ?_ ?_
          rotate_left
          · intro w'
            go_simp
            (try with_reducible rfl)
          rotate_left
          · simp only [Act.put, List.setIfInBounds_toArray, List.set_cons_zero, List.set_cons_succ, i64_w, i32_w]
            rfl
          refine pure_ (i := 2) (N := (some 31)) (v := ?_) (a' := ?_) #[true, true, true, false, false, false, false, false, false, false, false, false, false] rfl rfl (any_of HT_.out (by kernel_rfl)) (fun _ _ _ h => h) (Or.inl ⟨by rfl, ?_⟩) ?_ ?_
          rotate_left
          · intro w'
            go_simp
            (try with_reducible rfl)
          rotate_left
          · simp only [Act.put, List.setIfInBounds_toArray, List.set_cons_zero, List.set_cons_succ, i64_w, i32_w]
            rfl
          refine pure_ (i := 3) (N := (some 32)) (v := ?_) (a' := ?_) #[true, true, true, true, false, false, false, false, false, false, false, false, false] rfl rfl (any_of HT_.out (by kernel_rfl)) (fun _ _ _ h => h) (Or.inl ⟨by rfl, ?_⟩) ?_ ?_
          rotate_left
          · intro w'
            go_simp
            (try with_reducible rfl)
          rotate_left
          · simp only [Act.put, List.setIfInBounds_toArray, List.set_cons_zero, List.set_cons_succ, i64_w, i32_w]
            rfl
          refine take_ (i := 4) (N := (some 33)) (v := ?_) (a' := ?_) #[true, true, true, true, true, false, false, false, false, false, false, false, false] rfl rfl (take_ofW HT_.out HW_.out (by kernel_rfl)) (fun _ _ _ h => h) (Or.inl ⟨by rfl, ?_⟩) hHeld ?_ ?_
          rotate_left
          · rintro w' ⟨sx0, sx1, sx2⟩
            go_simp
            (try with_reducible rfl)
          rotate_left
          · simp only [Act.put, List.setIfInBounds_toArray, List.set_cons_zero, List.set_cons_succ, i64_w, i32_w]
            rfl
          refine pure_ (i := 5) (N := (some 34)) (v := ?_) (a' := ?_) #[true, true, true, true, true, true, false, false, false, false, false, false, false] rfl rfl (any_of HT_.out (by kernel_rfl)) (fun _ _ _ h => h) (Or.inl ⟨by rfl, ?_⟩) ?_ ?_
          rotate_left
          · intro w'
            go_simp
            (try with_reducible rfl)
          rotate_left
          · simp only [Act.put, List.setIfInBounds_toArray, List.set_cons_zero, List.set_cons_succ, i64_w, i32_w]
            rfl
          refine pure_ (i := 6) (N := (some 35)) (v := ?_) (a' := ?_) #[true, true, true, true, true, true, true, false, false, false, false, false, false] rfl rfl (any_of HT_.out (by kernel_rfl)) (fun _ _ _ h => h) (Or.inl ⟨by rfl, ?_⟩) ?_ ?_
          rotate_left
          · intro w'
            go_simp
            (try with_reducible rfl)
          rotate_left
          · simp only [Act.put, List.setIfInBounds_toArray, List.set_cons_zero, List.set_cons_succ, i64_w, i32_w]
            rfl
          refine pure_ (i := 7) (N := (some 36)) (v := ?_) (a' := ?_) #[true, true, true, true, true, true, true, true, false, false, false, false, false] rfl rfl (any_of HT_.out (by kernel_rfl)) (fun _ _ _ h => h) (Or.inl ⟨by rfl, ?_⟩) ?_ ?_
          rotate_left
          · intro w'
            go_simp
            (try with_reducible rfl)
          rotate_left
          · simp only [Act.put, List.setIfInBounds_toArray, List.set_cons_zero, List.set_cons_succ, i64_w, i32_w]
            rfl
          refine take_ (i := 8) (N := (some 37)) (v := ?_) (a' := ?_) #[true, true, true, true, true, true, true, true, true, false, false, false, false] rfl rfl (take_ofW HT_.out HW_.out (by kernel_rfl)) (fun _ _ _ h => h) (Or.inl ⟨by rfl, ?_⟩) hHeld ?_ ?_
          rotate_left
          · rintro w' ⟨sx0, sx1, sx2⟩
            go_simp
            (try with_reducible rfl)
          rotate_left
          · simp only [Act.put, List.setIfInBounds_toArray, List.set_cons_zero, List.set_cons_succ, i64_w, i32_w]
            rfl
          refine pure_ (i := 9) (N := (some 38)) (v := ?_) (a' := ?_) #[true, true, true, true, true, true, true, true, true, true, false, false, false] rfl rfl (any_of HT_.out (by kernel_rfl)) (fun _ _ _ h => h) (Or.inl ⟨by rfl, ?_⟩) ?_ ?_
          rotate_left
          · intro w'
            go_simp
            (try with_reducible rfl)
          rotate_left
          · simp only [Act.put, List.setIfInBounds_toArray, List.set_cons_zero, List.set_cons_succ, i64_w, i32_w]
            rfl
          refine take_ (i := 10) (N := (some 39)) (v := ?_) (a' := ?_) #[true, true, true, true, true, true, true, true, true, true, true, false, false] rfl rfl (take_ofW HT_.out HW_.out (by kernel_rfl)) (fun _ _ _ h => h) (Or.inl ⟨by rfl, ?_⟩) hHeld ?_ ?_
          rotate_left
          · rintro w' ⟨sx0, sx1, sx2⟩
            go_simp
            (try with_reducible rfl)
          rotate_left
          · simp only [Act.put, List.setIfInBounds_toArray, List.set_cons_zero, List.set_cons_succ, i64_w, i32_w]
            rfl
          refine pure_ (i := 11) (N := (some 40)) (v := ?_) (a' := ?_) #[true, true, true, true, true, true, true, true, true, true, true, true, false] rfl rfl (any_of HT_.out (by kernel_rfl)) (fun _ _ _ h => h) (Or.inl ⟨by rfl, ?_⟩) ?_ ?_
          rotate_left
          · intro w'
            go_simp
            (try with_reducible rfl)
          rotate_left
          · simp only [Act.put, List.setIfInBounds_toArray, List.set_cons_zero, List.set_cons_succ, i64_w, i32_w]
            rfl
          refine pure_ (i := 12) (N := (some 41)) (v := ?_) (a' := ?_) #[true, true, true, true, true, true, true, true, true, true, true, true, true] rfl rfl (any_of HT_.out (by kernel_rfl)) (fun _ _ _ h => h) (Or.inl ⟨by rfl, ?_⟩) ?_ ?_
          rotate_left
          · intro w'
            go_simp
            (try with_reducible rfl)
          rotate_left
          · simp only [Act.put, List.setIfInBounds_toArray, List.set_cons_zero, List.set_cons_succ, i64_w, i32_w]
            rfl
          refine done_ (done_of HT_.out (by kernel_rfl)) ?_
          have p0 := (blk_cell HZ6.out 0).trans rfl
          have r0 := (blk_cell HZ2.out 0).trans rfl
          have f0 := blk_frozen HZ2.out 0
          have p1 := (blk_cell HZ6.out 1).trans rfl
          have r1 := (blk_cell HZ2.out 1).trans rfl
          have f1 := blk_frozen HZ2.out 1
          have p2 := (blk_cell HZ6.out 2).trans rfl
          have r2 := (blk_cell HZ2.out 2).trans rfl
          have f2 := blk_frozen HZ2.out 2
          have p3 := (blk_cell HZ6.out 3).trans rfl
          have r3 := (blk_cell HZ2.out 3).trans rfl
          have f3 := blk_frozen HZ2.out 3
          have p4 := (blk_cell HZ6.out 4).trans rfl
          have r4 := (blk_cell HZ2.out 4).trans rfl
          have f4 := blk_frozen HZ2.out 4
          go_wp2
          refine bodyPost_ret (results_ct rfl _ _ (w.heap.size + 2) 40 #[.int .i64 2, .int .i64 u1, .int .i64 u2, .int .i64 u3, .int .i64 u4] (0, 0) _ rfl (by rw [(blk_set (blk_set (blk_set (blk_set (blk_set HZ2.out 0 (.int .i64 2)) 1 (.int .i64 u1)) 2 (.int .i64 u2)) 3 (.int .i64 u3)) 4 (.int .i64 u4))]; rfl) Try.underlying40 rfl (by kernel_rfl)) rfl ?_
          exact ⟨by rw [HF.out]; rfl, (below_set (below_set (below_set (below_set (below_set HZB.out (by show w.heap.size ≤ w.heap.size + 2; omega)) (by show w.heap.size ≤ w.heap.size + 2; omega)) (by show w.heap.size ≤ w.heap.size + 2; omega)) (by show w.heap.size ≤ w.heap.size + 2; omega)) (by show w.heap.size ≤ w.heap.size + 2; omega))⟩
      · by_cases kn : u4 ≥ n2
        · have HF := Aside0.mk (show timeR 9 n2 ⟨d, e, a, b, c⟩ = (St.zero, false) by rw [hF]; simp [St.loop]; omega)
          clear hF hok
          go_enter Try.func18, Try.ntmps18
          go_wp2_with (go_at_call 42; refine HC0.out.mono ?_; rintro e1 w1 ⟨rfl, hb⟩; have HXN := Aside0.mk (blk_below HBN.out hb); have HX2 := Aside0.mk (blk_below HB2.out hb); have HBW := Aside0.mk (below_step hHB2.out hb); clear hb)
          have HZN := Aside0.mk (blk_drew (blk_alloc HXN.out (.cells #[.int .i64 3, .int .i64 u1, .int .i64 u2, .int .i64 u3, .int .i64 u4] 40)))
          have HZ2 := Aside0.mk (blk_drew (blk_alloc HX2.out (.cells #[.int .i64 3, .int .i64 u1, .int .i64 u2, .int .i64 u3, .int .i64 u4] 40)))
          have HZ6 := Aside0.mk (blk_drew (blk_new w1 (.cells #[.int .i64 3, .int .i64 u1, .int .i64 u2, .int .i64 u3, .int .i64 u4] 40)))
          have HZB := Aside0.mk ((below_alloc HBW.out (.cells #[.int .i64 3, .int .i64 u1, .int .i64 u2, .int .i64 u3, .int .i64 u4] 40)).drew)
          have hS0 : (fun W => W.cell? ⟨w1.heap.size, 0, none⟩ = some (.int .i64 3) ∧ W.cell? ⟨w1.heap.size, 4, none⟩ = some (.int .i64 u4) ∧ W.cell? ⟨w.heap.size, 2, none⟩ = some (.int .i64 n2)) (w1.alloc (.cells #[.int .i64 3, .int .i64 u1, .int .i64 u2, .int .i64 u3, .int .i64 u4] 40)).drew := ⟨(blk_cell HZ6.out 0).trans rfl, (blk_cell HZ6.out 4).trans rfl, (blk_cell HZN.out 2).trans rfl⟩
          have z0 : wrap64 0 = 0 := by unfold wrap64; omega
          have z1 : wrap64 1 = 1 := by unfold wrap64; omega
          have z2 : wrap64 2 = 2 := by unfold wrap64; omega
          refine start_ (n := 13) (S := fun W => W.cell? ⟨w1.heap.size, 0, none⟩ = some (.int .i64 3) ∧ W.cell? ⟨w1.heap.size, 4, none⟩ = some (.int .i64 u4) ∧ W.cell? ⟨w.heap.size, 2, none⟩ = some (.int .i64 n2)) (ds := []) #[false, false, false, false, false, false, false, false, false, false, false, false, false] (by kernel_rfl) rfl rfl hS0 (fun hHeld => ?_)
          refine with_tabW rtime.tab8 rtime.bits8 (fun HT_ HW_ => ?_)
          clear hS0
          generalize (w1.alloc (.cells #[.int .i64 3, .int .i64 u1, .int .i64 u2, .int .i64 u3, .int .i64 u4] 40)).drew = wz at hHeld HZN HZ2 HZ6 HZB ⊢
          refine pure_ (i := 0) (N := (some 29)) (v := ?_) (a' := ?_) #[true, false, false, false, false, false, false, false, false, false, false, false, false] rfl rfl (any_of HT_.out (by kernel_rfl)) (fun _ _ _ h => h) (Or.inl ⟨by rfl, ?_⟩) ?_ ?_
          rotate_left
          · intro w'
            go_simp
            (try with_reducible rfl)
          rotate_left
          · simp only [Act.put, List.setIfInBounds_toArray, List.set_cons_zero, List.set_cons_succ, i64_w, i32_w]
            rfl
          refine pure_ (i := 1) (N := (some 30)) (v := ?_) (a' := ?_) #[true, true, false, false, false, false, false, false, false, false, false, false, false] rfl rfl (any_of HT_.out (by kernel_rfl)) (fun _ _ _ h => h) (Or.inl ⟨by rfl, ?_⟩) ?_ ?_
          rotate_left
          · intro w'
            go_simp
            (try with_reducible rfl)
          rotate_left
          · simp only [Act.put, List.setIfInBounds_toArray, List.set_cons_zero, List.set_cons_succ, i64_w, i32_w]
            rfl
          refine pure_ (i := 2) (N := (some 31)) (v := ?_) (a' := ?_) #[true, true, true, false, false, false, false, false, false, false, false, false, false] rfl rfl (any_of HT_.out (by kernel_rfl)) (fun _ _ _ h => h) (Or.inl ⟨by rfl, ?_⟩) ?_ ?_
          rotate_left
          · intro w'
            go_simp
            (try with_reducible rfl)
          rotate_left
          · simp only [Act.put, List.setIfInBounds_toArray, List.set_cons_zero, List.set_cons_succ, i64_w, i32_w]
            rfl
          refine pure_ (i := 3) (N := (some 32)) (v := ?_) (a' := ?_) #[true, true, true, true, false, false, false, false, false, false, false, false, false] rfl rfl (any_of HT_.out (by kernel_rfl)) (fun _ _ _ h => h) (Or.inl ⟨by rfl, ?_⟩) ?_ ?_
          rotate_left
          · intro w'
            go_simp
            (try with_reducible rfl)
          rotate_left
          · simp only [Act.put, List.setIfInBounds_toArray, List.set_cons_zero, List.set_cons_succ, i64_w, i32_w]
            rfl
          refine take_ (i := 4) (N := (some 33)) (v := ?_) (a' := ?_) #[true, true, true, true, true, false, false, false, false, false, false, false, false] rfl rfl (take_ofW HT_.out HW_.out (by kernel_rfl)) (fun _ _ _ h => h) (Or.inl ⟨by rfl, ?_⟩) hHeld ?_ ?_
          rotate_left
          · rintro w' ⟨sx0, sx1, sx2⟩
            go_simp
            (try with_reducible rfl)
          rotate_left
          · simp only [Act.put, List.setIfInBounds_toArray, List.set_cons_zero, List.set_cons_succ, i64_w, i32_w]
            rfl
          refine pure_ (i := 5) (N := (some 34)) (v := ?_) (a' := ?_) #[true, true, true, true, true, true, false, false, false, false, false, false, false] rfl rfl (any_of HT_.out (by kernel_rfl)) (fun _ _ _ h => h) (Or.inl ⟨by rfl, ?_⟩) ?_ ?_
          rotate_left
          · intro w'
            go_simp
            (try with_reducible rfl)
          rotate_left
          · simp only [Act.put, List.setIfInBounds_toArray, List.set_cons_zero, List.set_cons_succ, i64_w, i32_w]
            rfl
          refine pure_ (i := 6) (N := (some 35)) (v := ?_) (a' := ?_) #[true, true, true, true, true, true, true, false, false, false, false, false, false] rfl rfl (any_of HT_.out (by kernel_rfl)) (fun _ _ _ h => h) (Or.inl ⟨by rfl, ?_⟩) ?_ ?_
          rotate_left
          · intro w'
            go_simp
            (try with_reducible rfl)
          rotate_left
          · simp only [Act.put, List.setIfInBounds_toArray, List.set_cons_zero, List.set_cons_succ, i64_w, i32_w]
            rfl
          refine pure_ (i := 7) (N := (some 36)) (v := ?_) (a' := ?_) #[true, true, true, true, true, true, true, true, false, false, false, false, false] rfl rfl (any_of HT_.out (by kernel_rfl)) (fun _ _ _ h => h) (Or.inl ⟨by rfl, ?_⟩) ?_ ?_
          rotate_left
          · intro w'
            go_simp
            (try with_reducible rfl)
          rotate_left
          · simp only [Act.put, List.setIfInBounds_toArray, List.set_cons_zero, List.set_cons_succ, i64_w, i32_w]
            rfl
          refine take_ (i := 8) (N := (some 37)) (v := ?_) (a' := ?_) #[true, true, true, true, true, true, true, true, true, false, false, false, false] rfl rfl (take_ofW HT_.out HW_.out (by kernel_rfl)) (fun _ _ _ h => h) (Or.inl ⟨by rfl, ?_⟩) hHeld ?_ ?_
          rotate_left
          · rintro w' ⟨sx0, sx1, sx2⟩
            go_simp
            (try with_reducible rfl)
          rotate_left
          · simp only [Act.put, List.setIfInBounds_toArray, List.set_cons_zero, List.set_cons_succ, i64_w, i32_w]
            rfl
          refine pure_ (i := 9) (N := (some 38)) (v := ?_) (a' := ?_) #[true, true, true, true, true, true, true, true, true, true, false, false, false] rfl rfl (any_of HT_.out (by kernel_rfl)) (fun _ _ _ h => h) (Or.inl ⟨by rfl, ?_⟩) ?_ ?_
          rotate_left
          · intro w'
            go_simp
            (try with_reducible rfl)
          rotate_left
          · simp only [Act.put, List.setIfInBounds_toArray, List.set_cons_zero, List.set_cons_succ, i64_w, i32_w]
            rfl
          refine take_ (i := 10) (N := (some 39)) (v := ?_) (a' := ?_) #[true, true, true, true, true, true, true, true, true, true, true, false, false] rfl rfl (take_ofW HT_.out HW_.out (by kernel_rfl)) (fun _ _ _ h => h) (Or.inl ⟨by rfl, ?_⟩) hHeld ?_ ?_
          rotate_left
          · rintro w' ⟨sx0, sx1, sx2⟩
            go_simp
            (try with_reducible rfl)
          rotate_left
          · simp only [Act.put, List.setIfInBounds_toArray, List.set_cons_zero, List.set_cons_succ, i64_w, i32_w]
            rfl
          refine pure_ (i := 11) (N := (some 40)) (v := ?_) (a' := ?_) #[true, true, true, true, true, true, true, true, true, true, true, true, false] rfl rfl (any_of HT_.out (by kernel_rfl)) (fun _ _ _ h => h) (Or.inl ⟨by rfl, ?_⟩) ?_ ?_
          rotate_left
          · intro w'
            go_simp
            (try with_reducible rfl)
          rotate_left
          · simp only [Act.put, List.setIfInBounds_toArray, List.set_cons_zero, List.set_cons_succ, i64_w, i32_w]
            rfl
          refine pure_ (i := 12) (N := (some 41)) (v := ?_) (a' := ?_) #[true, true, true, true, true, true, true, true, true, true, true, true, true] rfl rfl (any_of HT_.out (by kernel_rfl)) (fun _ _ _ h => h) (Or.inl ⟨by rfl, ?_⟩) ?_ ?_
          rotate_left
          · intro w'
            go_simp
            (try with_reducible rfl)
          rotate_left
          · simp only [Act.put, List.setIfInBounds_toArray, List.set_cons_zero, List.set_cons_succ, i64_w, i32_w]
            rfl
          refine done_ (done_of HT_.out (by kernel_rfl)) ?_
          have p0 := (blk_cell HZ6.out 0).trans rfl
          have r0 := (blk_cell HZ2.out 0).trans rfl
          have f0 := blk_frozen HZ2.out 0
          have p1 := (blk_cell HZ6.out 1).trans rfl
          have r1 := (blk_cell HZ2.out 1).trans rfl
          have f1 := blk_frozen HZ2.out 1
          have p2 := (blk_cell HZ6.out 2).trans rfl
          have r2 := (blk_cell HZ2.out 2).trans rfl
          have f2 := blk_frozen HZ2.out 2
          have p3 := (blk_cell HZ6.out 3).trans rfl
          have r3 := (blk_cell HZ2.out 3).trans rfl
          have f3 := blk_frozen HZ2.out 3
          have p4 := (blk_cell HZ6.out 4).trans rfl
          have r4 := (blk_cell HZ2.out 4).trans rfl
          have f4 := blk_frozen HZ2.out 4
          go_wp2
          refine bodyPost_ret (results_ct rfl _ _ (w.heap.size + 2) 40 #[.int .i64 0, .int .i64 0, .int .i64 0, .int .i64 0, .int .i64 0] (0, 0) _ rfl (by rw [(blk_set (blk_set (blk_set (blk_set (blk_set HZ2.out 0 (.int .i64 0)) 1 (.int .i64 0)) 2 (.int .i64 0)) 3 (.int .i64 0)) 4 (.int .i64 0))]; rfl) Try.underlying40 rfl (by kernel_rfl)) rfl ?_
          exact ⟨by rw [HF.out]; rfl, (below_set (below_set (below_set (below_set (below_set HZB.out (by show w.heap.size ≤ w.heap.size + 2; omega)) (by show w.heap.size ≤ w.heap.size + 2; omega)) (by show w.heap.size ≤ w.heap.size + 2; omega)) (by show w.heap.size ≤ w.heap.size + 2; omega)) (by show w.heap.size ≤ w.heap.size + 2; omega))⟩
        · have HF := Aside0.mk (show timeR 9 n2 ⟨d, e, a, b, c⟩ = (⟨3, u1, u2, u3, u4⟩, true) by rw [hF]; simp [St.loop]; omega)
          clear hF hok
          go_enter Try.func18, Try.ntmps18
          go_wp2_with (go_at_call 42; refine HC0.out.mono ?_; rintro e1 w1 ⟨rfl, hb⟩; have HXN := Aside0.mk (blk_below HBN.out hb); have HX2 := Aside0.mk (blk_below HB2.out hb); have HBW := Aside0.mk (below_step hHB2.out hb); clear hb)
          have HZN := Aside0.mk (blk_drew (blk_alloc HXN.out (.cells #[.int .i64 3, .int .i64 u1, .int .i64 u2, .int .i64 u3, .int .i64 u4] 40)))
          have HZ2 := Aside0.mk (blk_drew (blk_alloc HX2.out (.cells #[.int .i64 3, .int .i64 u1, .int .i64 u2, .int .i64 u3, .int .i64 u4] 40)))
          have HZ6 := Aside0.mk (blk_drew (blk_new w1 (.cells #[.int .i64 3, .int .i64 u1, .int .i64 u2, .int .i64 u3, .int .i64 u4] 40)))
          have HZB := Aside0.mk ((below_alloc HBW.out (.cells #[.int .i64 3, .int .i64 u1, .int .i64 u2, .int .i64 u3, .int .i64 u4] 40)).drew)
          have hS0 : (fun W => W.cell? ⟨w1.heap.size, 0, none⟩ = some (.int .i64 3) ∧ W.cell? ⟨w1.heap.size, 4, none⟩ = some (.int .i64 u4) ∧ W.cell? ⟨w.heap.size, 2, none⟩ = some (.int .i64 n2)) (w1.alloc (.cells #[.int .i64 3, .int .i64 u1, .int .i64 u2, .int .i64 u3, .int .i64 u4] 40)).drew := ⟨(blk_cell HZ6.out 0).trans rfl, (blk_cell HZ6.out 4).trans rfl, (blk_cell HZN.out 2).trans rfl⟩
          have z0 : wrap64 0 = 0 := by unfold wrap64; omega
          have z1 : wrap64 1 = 1 := by unfold wrap64; omega
          have z2 : wrap64 2 = 2 := by unfold wrap64; omega
          refine start_ (n := 13) (S := fun W => W.cell? ⟨w1.heap.size, 0, none⟩ = some (.int .i64 3) ∧ W.cell? ⟨w1.heap.size, 4, none⟩ = some (.int .i64 u4) ∧ W.cell? ⟨w.heap.size, 2, none⟩ = some (.int .i64 n2)) (ds := []) #[false, false, false, false, false, false, false, false, false, false, false, false, false] (by kernel_rfl) rfl rfl hS0 (fun hHeld => ?_)
          refine with_tabW rtime.tab8 rtime.bits8 (fun HT_ HW_ => ?_)
          clear hS0
          generalize (w1.alloc (.cells #[.int .i64 3, .int .i64 u1, .int .i64 u2, .int .i64 u3, .int .i64 u4] 40)).drew = wz at hHeld HZN HZ2 HZ6 HZB ⊢
          refine pure_ (i := 0) (N := (some 29)) (v := ?_) (a' := ?_) #[true, false, false, false, false, false, false, false, false, false, false, false, false] rfl rfl (any_of HT_.out (by kernel_rfl)) (fun _ _ _ h => h) (Or.inl ⟨by rfl, ?_⟩) ?_ ?_
          rotate_left
          · intro w'
            go_simp
            (try with_reducible rfl)
          rotate_left
          · simp only [Act.put, List.setIfInBounds_toArray, List.set_cons_zero, List.set_cons_succ, i64_w, i32_w]
            rfl
          refine pure_ (i := 1) (N := (some 30)) (v := ?_) (a' := ?_) #[true, true, false, false, false, false, false, false, false, false, false, false, false] rfl rfl (any_of HT_.out (by kernel_rfl)) (fun _ _ _ h => h) (Or.inl ⟨by rfl, ?_⟩) ?_ ?_
          rotate_left
          · intro w'
            go_simp
            (try with_reducible rfl)
          rotate_left
          · simp only [Act.put, List.setIfInBounds_toArray, List.set_cons_zero, List.set_cons_succ, i64_w, i32_w]
            rfl
          refine pure_ (i := 2) (N := (some 31)) (v := ?_) (a' := ?_) #[true, true, true, false, false, false, false, false, false, false, false, false, false] rfl rfl (any_of HT_.out (by kernel_rfl)) (fun _ _ _ h => h) (Or.inl ⟨by rfl, ?_⟩) ?_ ?_
          rotate_left
          · intro w'
            go_simp
            (try with_reducible rfl)
          rotate_left
          · simp only [Act.put, List.setIfInBounds_toArray, List.set_cons_zero, List.set_cons_succ, i64_w, i32_w]
            rfl
          refine pure_ (i := 3) (N := (some 32)) (v := ?_) (a' := ?_) #[true, true, true, true, false, false, false, false, false, false, false, false, false] rfl rfl (any_of HT_.out (by kernel_rfl)) (fun _ _ _ h => h) (Or.inl ⟨by rfl, ?_⟩) ?_ ?_
          rotate_left
          · intro w'
            go_simp
            (try with_reducible rfl)
          rotate_left
          · simp only [Act.put, List.setIfInBounds_toArray, List.set_cons_zero, List.set_cons_succ, i64_w, i32_w]
            rfl
          refine take_ (i := 4) (N := (some 33)) (v := ?_) (a' := ?_) #[true, true, true, true, true, false, false, false, false, false, false, false, false] rfl rfl (take_ofW HT_.out HW_.out (by kernel_rfl)) (fun _ _ _ h => h) (Or.inl ⟨by rfl, ?_⟩) hHeld ?_ ?_
          rotate_left
          · rintro w' ⟨sx0, sx1, sx2⟩
            go_simp
            (try with_reducible rfl)
          rotate_left
          · simp only [Act.put, List.setIfInBounds_toArray, List.set_cons_zero, List.set_cons_succ, i64_w, i32_w]
            rfl
          refine pure_ (i := 5) (N := (some 34)) (v := ?_) (a' := ?_) #[true, true, true, true, true, true, false, false, false, false, false, false, false] rfl rfl (any_of HT_.out (by kernel_rfl)) (fun _ _ _ h => h) (Or.inl ⟨by rfl, ?_⟩) ?_ ?_
          rotate_left
          · intro w'
            go_simp
            (try with_reducible rfl)
          rotate_left
          · simp only [Act.put, List.setIfInBounds_toArray, List.set_cons_zero, List.set_cons_succ, i64_w, i32_w]
            rfl
          refine pure_ (i := 6) (N := (some 35)) (v := ?_) (a' := ?_) #[true, true, true, true, true, true, true, false, false, false, false, false, false] rfl rfl (any_of HT_.out (by kernel_rfl)) (fun _ _ _ h => h) (Or.inl ⟨by rfl, ?_⟩) ?_ ?_
          rotate_left
          · intro w'
            go_simp
            (try with_reducible rfl)
          rotate_left
          · simp only [Act.put, List.setIfInBounds_toArray, List.set_cons_zero, List.set_cons_succ, i64_w, i32_w]
            rfl
          refine pure_ (i := 7) (N := (some 36)) (v := ?_) (a' := ?_) #[true, true, true, true, true, true, true, true, false, false, false, false, false] rfl rfl (any_of HT_.out (by kernel_rfl)) (fun _ _ _ h => h) (Or.inl ⟨by rfl, ?_⟩) ?_ ?_
          rotate_left
          · intro w'
            go_simp
            (try with_reducible rfl)
          rotate_left
          · simp only [Act.put, List.setIfInBounds_toArray, List.set_cons_zero, List.set_cons_succ, i64_w, i32_w]
            rfl
          refine take_ (i := 8) (N := (some 37)) (v := ?_) (a' := ?_) #[true, true, true, true, true, true, true, true, true, false, false, false, false] rfl rfl (take_ofW HT_.out HW_.out (by kernel_rfl)) (fun _ _ _ h => h) (Or.inl ⟨by rfl, ?_⟩) hHeld ?_ ?_
          rotate_left
          · rintro w' ⟨sx0, sx1, sx2⟩
            go_simp
            (try with_reducible rfl)
          rotate_left
          · simp only [Act.put, List.setIfInBounds_toArray, List.set_cons_zero, List.set_cons_succ, i64_w, i32_w]
            rfl
          refine pure_ (i := 9) (N := (some 38)) (v := ?_) (a' := ?_) #[true, true, true, true, true, true, true, true, true, true, false, false, false] rfl rfl (any_of HT_.out (by kernel_rfl)) (fun _ _ _ h => h) (Or.inl ⟨by rfl, ?_⟩) ?_ ?_
          rotate_left
          · intro w'
            go_simp
            (try with_reducible rfl)
          rotate_left
          · simp only [Act.put, List.setIfInBounds_toArray, List.set_cons_zero, List.set_cons_succ, i64_w, i32_w]
            rfl
          refine take_ (i := 10) (N := (some 39)) (v := ?_) (a' := ?_) #[true, true, true, true, true, true, true, true, true, true, true, false, false] rfl rfl (take_ofW HT_.out HW_.out (by kernel_rfl)) (fun _ _ _ h => h) (Or.inl ⟨by rfl, ?_⟩) hHeld ?_ ?_
          rotate_left
          · rintro w' ⟨sx0, sx1, sx2⟩
            go_simp
            (try with_reducible rfl)
          rotate_left
          · simp only [Act.put, List.setIfInBounds_toArray, List.set_cons_zero, List.set_cons_succ, i64_w, i32_w]
            rfl
          refine pure_ (i := 11) (N := (some 40)) (v := ?_) (a' := ?_) #[true, true, true, true, true, true, true, true, true, true, true, true, false] rfl rfl (any_of HT_.out (by kernel_rfl)) (fun _ _ _ h => h) (Or.inl ⟨by rfl, ?_⟩) ?_ ?_
          rotate_left
          · intro w'
            go_simp
            (try with_reducible rfl)
          rotate_left
          · simp only [Act.put, List.setIfInBounds_toArray, List.set_cons_zero, List.set_cons_succ, i64_w, i32_w]
            rfl
          refine pure_ (i := 12) (N := (some 41)) (v := ?_) (a' := ?_) #[true, true, true, true, true, true, true, true, true, true, true, true, true] rfl rfl (any_of HT_.out (by kernel_rfl)) (fun _ _ _ h => h) (Or.inl ⟨by rfl, ?_⟩) ?_ ?_
          rotate_left
          · intro w'
            go_simp
            (try with_reducible rfl)
          rotate_left
          · simp only [Act.put, List.setIfInBounds_toArray, List.set_cons_zero, List.set_cons_succ, i64_w, i32_w]
            rfl
          refine done_ (done_of HT_.out (by kernel_rfl)) ?_
          have p0 := (blk_cell HZ6.out 0).trans rfl
          have r0 := (blk_cell HZ2.out 0).trans rfl
          have f0 := blk_frozen HZ2.out 0
          have p1 := (blk_cell HZ6.out 1).trans rfl
          have r1 := (blk_cell HZ2.out 1).trans rfl
          have f1 := blk_frozen HZ2.out 1
          have p2 := (blk_cell HZ6.out 2).trans rfl
          have r2 := (blk_cell HZ2.out 2).trans rfl
          have f2 := blk_frozen HZ2.out 2
          have p3 := (blk_cell HZ6.out 3).trans rfl
          have r3 := (blk_cell HZ2.out 3).trans rfl
          have f3 := blk_frozen HZ2.out 3
          have p4 := (blk_cell HZ6.out 4).trans rfl
          have r4 := (blk_cell HZ2.out 4).trans rfl
          have f4 := blk_frozen HZ2.out 4
          go_wp2
          refine bodyPost_ret (results_ct rfl _ _ (w.heap.size + 2) 40 #[.int .i64 3, .int .i64 u1, .int .i64 u2, .int .i64 u3, .int .i64 u4] (0, 0) _ rfl (by rw [(blk_set (blk_set (blk_set (blk_set (blk_set HZ2.out 0 (.int .i64 3)) 1 (.int .i64 u1)) 2 (.int .i64 u2)) 3 (.int .i64 u3)) 4 (.int .i64 u4))]; rfl) Try.underlying40 rfl (by kernel_rfl)) rfl ?_
          exact ⟨by rw [HF.out]; rfl, (below_set (below_set (below_set (below_set (below_set HZB.out (by show w.heap.size ≤ w.heap.size + 2; omega)) (by show w.heap.size ≤ w.heap.size + 2; omega)) (by show w.heap.size ≤ w.heap.size + 2; omega)) (by show w.heap.size ≤ w.heap.size + 2; omega)) (by show w.heap.size ≤ w.heap.size + 2; omega))⟩
  have HBN := Aside0.mk (blk_alloc (blk_alloc (blk_new w (.cells #[.int .u8 n0, .int .u8 n1, .int .i64 n2, .int .i64 n3, .slice A4 m4 c4] 24)) (.cells #[.int .i64 d, .int .i64 e, .int .i64 a, .int .i64 b, .int .i64 c] 40)) (.cells #[.int .i64 0, .int .i64 0, .int .i64 0, .int .i64 0, .int .i64 0] 40))
  have HB1 := Aside0.mk (show ((((w.alloc (.cells #[.int .u8 n0, .int .u8 n1, .int .i64 n2, .int .i64 n3, .slice A4 m4 c4] 24)).alloc (.cells #[.int .i64 d, .int .i64 e, .int .i64 a, .int .i64 b, .int .i64 c] 40)).alloc (.cells #[.int .i64 0, .int .i64 0, .int .i64 0, .int .i64 0, .int .i64 0] 40))).heap[w.heap.size + 1]? = some (.cells #[.int .i64 d, .int .i64 e, .int .i64 a, .int .i64 b, .int .i64 c] 40 (0, 0)) from blk_alloc (by simpa using heap_alloc_last (w.alloc (.cells #[.int .u8 n0, .int .u8 n1, .int .i64 n2, .int .i64 n3, .slice A4 m4 c4] 24)) (.cells #[.int .i64 d, .int .i64 e, .int .i64 a, .int .i64 b, .int .i64 c] 40)) _)
  have HB2 := Aside0.mk (show ((((w.alloc (.cells #[.int .u8 n0, .int .u8 n1, .int .i64 n2, .int .i64 n3, .slice A4 m4 c4] 24)).alloc (.cells #[.int .i64 d, .int .i64 e, .int .i64 a, .int .i64 b, .int .i64 c] 40)).alloc (.cells #[.int .i64 0, .int .i64 0, .int .i64 0, .int .i64 0, .int .i64 0] 40))).heap[w.heap.size + 2]? = some (.cells #[.int .i64 0, .int .i64 0, .int .i64 0, .int .i64 0, .int .i64 0] 40 (0, 0)) by simpa using heap_alloc_last ((w.alloc (.cells #[.int .u8 n0, .int .u8 n1, .int .i64 n2, .int .i64 n3, .slice A4 m4 c4] 24)).alloc (.cells #[.int .i64 d, .int .i64 e, .int .i64 a, .int .i64 b, .int .i64 c] 40)) (.cells #[.int .i64 0, .int .i64 0, .int .i64 0, .int .i64 0, .int .i64 0] 40))
  have hHB2 := Aside0.mk (below_alloc (below_alloc (below_alloc (Below.refl w.heap.size w) (.cells #[.int .u8 n0, .int .u8 n1, .int .i64 n2, .int .i64 n3, .slice A4 m4 c4] 24)) (.cells #[.int .i64 d, .int .i64 e, .int .i64 a, .int .i64 b, .int .i64 c] 40)) (.cells #[.int .i64 0, .int .i64 0, .int .i64 0, .int .i64 0, .int .i64 0] 40))
  have HC0 := Aside0.mk (ref05_Right_calls ⟨d, e, a, b, c⟩ ((((w.alloc (.cells #[.int .u8 n0, .int .u8 n1, .int .i64 n2, .int .i64 n3, .slice A4 m4 c4] 24)).alloc (.cells #[.int .i64 d, .int .i64 e, .int .i64 a, .int .i64 b, .int .i64 c] 40)).alloc (.cells #[.int .i64 0, .int .i64 0, .int .i64 0, .int .i64 0, .int .i64 0] 40))))
  have hF : timeR n0 n2 ⟨d, e, a, b, c⟩ = (if rightB ⟨d, e, a, b, c⟩ = false then (St.zero, false) else (⟨d, e, a, b, c⟩, true)) := by simp [timeR, k7, k8, k9]
  have b7 : (n0 == 7) = false := beq_eq_false_iff_ne.2 k7
  have b8 : (n0 == 8) = false := beq_eq_false_iff_ne.2 k8
  have b9 : (n0 == 9) = false := beq_eq_false_iff_ne.2 k9
  generalize rightB ⟨d, e, a, b, c⟩ = u at HC0 hF
  simp only [stV] at HC0
  clear k7 k8 k9
  cases u with
  | false =>
    have HF := Aside0.mk (show timeR n0 n2 ⟨d, e, a, b, c⟩ = (St.zero, false) by rw [hF]; simp)
    clear hF
    go_enter Try.func18, Try.ntmps18
    go_wp2_with (go_at_call 43; refine HC0.out.mono ?_; rintro e1 w1 ⟨rfl, hb⟩; have HX1 := Aside0.mk (blk_below HB1.out hb); have HX2 := Aside0.mk (blk_below HB2.out hb); have HBW := Aside0.mk (below_step hHB2.out hb); clear hb; have p1_0 := (blk_cell HX1.out 0).trans rfl; have p1_1 := (blk_cell HX1.out 1).trans rfl; have p1_2 := (blk_cell HX1.out 2).trans rfl; have p1_3 := (blk_cell HX1.out 3).trans rfl; have p1_4 := (blk_cell HX1.out 4).trans rfl; have r1_0 := (blk_cell HX2.out 0).trans rfl; have r1_1 := (blk_cell HX2.out 1).trans rfl; have r1_2 := (blk_cell HX2.out 2).trans rfl; have r1_3 := (blk_cell HX2.out 3).trans rfl; have r1_4 := (blk_cell HX2.out 4).trans rfl; have f1_0 := blk_frozen HX1.out 0; have f1_1 := blk_frozen HX1.out 1; have f1_2 := blk_frozen HX1.out 2; have f1_3 := blk_frozen HX1.out 3; have f1_4 := blk_frozen HX1.out 4; have g1_0 := blk_frozen HX2.out 0; have g1_1 := blk_frozen HX2.out 1; have g1_2 := blk_frozen HX2.out 2; have g1_3 := blk_frozen HX2.out 3; have g1_4 := blk_frozen HX2.out 4)
    refine bodyPost_ret (results_ct rfl _ _ (w.heap.size + 2) 40 #[.int .i64 0, .int .i64 0, .int .i64 0, .int .i64 0, .int .i64 0] (0, 0) _ rfl (by rw [(blk_set (blk_set (blk_set (blk_set (blk_set HX2.out 0 (.int .i64 0)) 1 (.int .i64 0)) 2 (.int .i64 0)) 3 (.int .i64 0)) 4 (.int .i64 0))]; rfl) Try.underlying40 rfl (by kernel_rfl)) rfl ?_
    exact ⟨by rw [HF.out]; rfl, (below_set (below_set (below_set (below_set (below_set HBW.out (by show w.heap.size ≤ w.heap.size + 2; omega)) (by show w.heap.size ≤ w.heap.size + 2; omega)) (by show w.heap.size ≤ w.heap.size + 2; omega)) (by show w.heap.size ≤ w.heap.size + 2; omega)) (by show w.heap.size ≤ w.heap.size + 2; omega))⟩
  | true =>
    have HF := Aside0.mk (show timeR n0 n2 ⟨d, e, a, b, c⟩ = (⟨d, e, a, b, c⟩, true) by rw [hF]; simp)
    clear hF
    go_enter Try.func18, Try.ntmps18
    go_wp2_with (go_at_call 43; refine HC0.out.mono ?_; rintro e1 w1 ⟨rfl, hb⟩; have HX1 := Aside0.mk (blk_below HB1.out hb); have HX2 := Aside0.mk (blk_below HB2.out hb); have HBW := Aside0.mk (below_step hHB2.out hb); clear hb; have p1_0 := (blk_cell HX1.out 0).trans rfl; have p1_1 := (blk_cell HX1.out 1).trans rfl; have p1_2 := (blk_cell HX1.out 2).trans rfl; have p1_3 := (blk_cell HX1.out 3).trans rfl; have p1_4 := (blk_cell HX1.out 4).trans rfl; have r1_0 := (blk_cell HX2.out 0).trans rfl; have r1_1 := (blk_cell HX2.out 1).trans rfl; have r1_2 := (blk_cell HX2.out 2).trans rfl; have r1_3 := (blk_cell HX2.out 3).trans rfl; have r1_4 := (blk_cell HX2.out 4).trans rfl; have f1_0 := blk_frozen HX1.out 0; have f1_1 := blk_frozen HX1.out 1; have f1_2 := blk_frozen HX1.out 2; have f1_3 := blk_frozen HX1.out 3; have f1_4 := blk_frozen HX1.out 4; have g1_0 := blk_frozen HX2.out 0; have g1_1 := blk_frozen HX2.out 1; have g1_2 := blk_frozen HX2.out 2; have g1_3 := blk_frozen HX2.out 3; have g1_4 := blk_frozen HX2.out 4)
    refine bodyPost_ret (results_ct rfl _ _ (w.heap.size + 2) 40 #[.int .i64 d, .int .i64 e, .int .i64 a, .int .i64 b, .int .i64 c] (0, 0) _ rfl (by rw [(blk_set (blk_set (blk_set (blk_set (blk_set HX2.out 0 (.int .i64 d)) 1 (.int .i64 e)) 2 (.int .i64 a)) 3 (.int .i64 b)) 4 (.int .i64 c))]; rfl) Try.underlying40 rfl (by kernel_rfl)) rfl ?_
    exact ⟨by rw [HF.out]; rfl, (below_set (below_set (below_set (below_set (below_set HBW.out (by show w.heap.size ≤ w.heap.size + 2; omega)) (by show w.heap.size ≤ w.heap.size + 2; omega)) (by show w.heap.size ≤ w.heap.size + 2; omega)) (by show w.heap.size ≤ w.heap.size + 2; omega)) (by show w.heap.size ≤ w.heap.size + 2; omega))⟩
end Go.Proofs.Ytcihpjkjodhdpaa.X
namespace Go.Proofs.Ytcihpjkjodhdpaa.X
set_option linter.unusedVariables false
set_option linter.unusedSimpArgs false
open Go.RowKit Go.Proofs.YtcihpjkjodhdpaaW.PrintWords Go.Proofs.YtcihpjkjodhdpaaW.PrintLast Go.Proofs.YtcihpjkjodhdpaaW.PrintMore
theorem k36_ofK {w W : World} {base : Nat} {ok : Nat → Prop} {x : S36} {cs : List Value} (h : k36.K w x cs) : k36.M W base ok x cs := by
  rw [k36_open h]
  exact k36_mkM _ _ _ x
theorem own_form {w : World} {base : Nat} {ok : Nat → Prop} {v : Value} {xs : List S36} (h : Kd.R k36 36 w base ok v xs) (hn : 0 < xs.length) :
    ∃ g c, v = .slice (some ⟨g, 0, none⟩) xs.length c ∧ xs.length ≤ c ∧ c ≤ 9223372036854775807 := by
  obtain ⟨_, inner, ⟨_, h2⟩, _⟩ := h
  rcases h2 with ⟨_, h0⟩ | ⟨g, cap, cur, rfl, _, _, hl, hm, _⟩
  · omega
  · exact ⟨g, cap, rfl, hl, by unfold maxLen at hm; omega⟩
set_option maxHeartbeats 4000000 in
set_option maxRecDepth 100000 in
theorem grow_nil (n : Nat) (hn : n ≤ 1000000) (w : World) :
    Calls Try.prog 63 #[.slice none 0 0, .int .i64 (n : Int)] w fun e w' => ∃ v, e = .returned v ∧ Kd.R k36 36 w' w.heap.size (fun _ => True) v [] ∧ Below w.heap.size w w' := by
  have hHB := Aside0.mk (Below.refl w.heap.size w)
  by_cases h0 : n = 0
  · subst h0
    go_enter Try.func63, Try.ntmps63
    go_wp2
    go_ret
    exact ⟨_, rfl, Kd.R_nil _ _ _ _ _, hHB.out⟩
  · have hpos : (0 : Int) < (n : Int) := by omega
    have hwr : wrap64 (n : Int) = (n : Int) := by unfold wrap64; omega
    have hneg : ¬ ((n : Int) < 0) := by omega
    go_enter Try.func63, Try.ntmps63
    go_wp2_with ((with_reducible refine gate_builtin (b := .append) (xs := #[.tmp 20, .tmp 21]) rfl ?_); at_builtin; refine Kd.R_append_zeros k36 (w0 := w) w.heap.size rfl (.tmp 20) (.tmp 21) 28 3 36 (.agg #[.int .i64 0, .int .i64 0]) 16 rfl Try.underlying28 Try.underlying3 info36 rfl (by decide) (by omega) (.slice none 0 0) ([] : List S36) ⟨0, 0⟩ (kx := .i64) (n : Int) (fun _ => True) rfl rfl (k36_mkM _ _ _ (⟨0, 0⟩ : S36)) (fun _ _ => trivial) (Kd.R_nil _ _ _ _ _) (by omega) hHB.out (Nat.le_refl _) (by simp only [List.length_nil, Int.toNat_natCast]; omega) ?_; intro v1 w1 hR hB _ _; obtain ⟨g, c, hv, hlc, hcm⟩ := own_form hR (by simp; omega); simp only [List.nil_append, List.length_replicate, Int.toNat_natCast] at hv hlc; subst hv; have HR := Aside0.mk hR; have HB := Aside0.mk hB; clear hR hB)
    go_ret
    exact ⟨_, rfl, by simpa using Kd.R_take HR.out (Nat.zero_le _), HB.out⟩
theorem flat_take (L : List (List S36)) (k : Nat) (x : List S36) (h : L[k]? = some x) : (L.take (k + 1)).flatten = (L.take k).flatten ++ x := by
  rw [List.take_add_one, h]
  simp
theorem flat_le (L : List (List S36)) (k : Nat) : (L.take k).flatten.length ≤ L.flatten.length := by
  have h : L.flatten = (L.take k).flatten ++ (L.drop k).flatten := by rw [← List.flatten_append, List.take_append_drop]
  rw [h, List.length_append]
  omega
end Go.Proofs.Ytcihpjkjodhdpaa.X
namespace Go.Proofs.Ytcihpjkjodhdpaa.X
set_option linter.unusedVariables false
set_option linter.unusedSimpArgs false
open Go.RowKit Go.Proofs.YtcihpjkjodhdpaaW.PrintWords Go.Proofs.YtcihpjkjodhdpaaW.PrintLast Go.Proofs.YtcihpjkjodhdpaaW.PrintMore
set_option maxHeartbeats 400000 in
set_option maxRecDepth 100000 in
theorem concat_calls (A : Option Addr) (c : Nat) (L : List (List S36)) (w : World) (hr : Kd.C (Kd.slice 36 k36) w A L.length L) (hl : L.flatten.length ≤ 1000000) :
    Calls Try.prog 46 #[.slice A L.length c] w fun e w' => ∃ v, e = .returned v ∧ Kd.R k36 36 w' w.heap.size (fun _ => True) v L.flatten ∧ Below w.heap.size w w' := by
  have HR := Aside0.mk hr
  have HL : L.length ≤ 9223372036854775807 := hr.2.1
  have HLL := Aside0.mk hl
  obtain ⟨F, hF⟩ : ∃ F : Nat → Nat, ∀ k, F k = (L.take k).flatten.length := ⟨_, fun _ => rfl⟩
  have HGR := Aside0.mk (grow_nil (F L.length) (by rw [hF, List.take_length]; exact hl))
  have HF := Aside0.mk hF
  have hF0 : F 0 = 0 := by rw [hF]; simp
  clear hr hl hF
  go_enter Try.func46, Try.ntmps46
  go_wp2
  go_loopg [3, 11] L.length (fun gg v3 v11 wr => ∃ kk : Nat, kk ≤ L.length ∧ L.length - kk ≤ gg ∧ v11 = .int .i64 kk ∧ v3 = .int .i64 (F kk : Nat) ∧ Aside0 (Below w.heap.size w wr))
  case atStart => exact ⟨0, Nat.zero_le _, by omega, rfl, by rw [hF0]; rfl, ⟨Below.refl _ _⟩⟩
  case round =>
    obtain ⟨kk, hkk, hg, rfl, rfl, HB⟩ := hrel
    by_cases hlt : kk < L.length
    · have hltz : (kk : Int) < (L.length : Int) := by omega
      obtain ⟨ad, A0, c0, eA, q0, hc0, hr0⟩ := at_L2 (Kd.C_below HR.out HB.out) (kk : Int) (by omega) hltz
      simp only [Int.toNat_natCast] at q0
      have hx : L[kk]? = some (rd_L2 L (kk : Int)) := by simp [rd_L2, List.getD_eq_getElem?_getD, hlt]
      have hf := flat_take L kk _ hx
      have hfl := flat_le L (kk + 1)
      have hs := congrArg List.length hf
      rw [List.length_append, ← HF.out, ← HF.out] at hs
      rw [← HF.out] at hfl
      generalize rd_L2 L (kk : Int) = x at q0 hc0 hr0 hf hs hx
      have HS := Aside0.mk hs
      have hb2 : (F kk : Int) + (x.length : Int) ≤ 1000000 := by have := HLL.out; omega
      clear hx hf hfl hs hr0 hc0
      generalize F kk = m at HS hb2
      have hneg : ¬ ((m : Int) + (x.length : Int) < 0) := by omega
      subst eA
      go_wp2
      go_roundg (L.length - (kk + 1))
      case measure => omega
      case rel => exact ⟨kk + 1, by omega, by omega, by go_num, by rw [HS.out]; go_num, HB⟩
    · have hk : kk = L.length := by omega
      have hltz : ¬ (kk : Int) < (L.length : Int) := by omega
      rw [hk]
      clear hk hF0
      go_wp2_with (go_at_call 63; refine (HGR.out _).mono ?_; rintro e w1 ⟨v, rfl, ho, hb⟩; have HO := Aside0.mk (Kd.R_lower ho HB.out.size); have HB1 := Aside0.mk (below_step HB.out hb); clear ho hb HB)
      go_loopg [6, 27] L.length (fun gg v6 v27 wr2 => ∃ kk : Nat, kk ≤ L.length ∧ L.length - kk ≤ gg ∧ v27 = .int .i64 kk ∧ Aside0 (Kd.R k36 36 wr2 w.heap.size (fun _ => True) v6 (L.take kk).flatten) ∧ Aside0 (Below w.heap.size w wr2))
      case atStart => exact ⟨0, Nat.zero_le _, by omega, rfl, ⟨by simpa using HO.out⟩, HB1⟩
      case round =>
        clear HO HB1
        obtain ⟨k2, hk2, hg2, rfl, HO, HB⟩ := hrel
        by_cases hlt2 : k2 < L.length
        · have hltz2 : (k2 : Int) < (L.length : Int) := by omega
          obtain ⟨ad, A0, c0, eA, q0, hc0, hr0⟩ := at_L2 (Kd.C_below HR.out HB.out) (k2 : Int) (by omega) hltz2
          simp only [Int.toNat_natCast] at q0
          have hx : L[k2]? = some (rd_L2 L (k2 : Int)) := by simp [rd_L2, List.getD_eq_getElem?_getD, hlt2]
          have hf := flat_take L k2 _ hx
          have hfl := flat_le L (k2 + 1)
          have hs := congrArg List.length hf
          rw [List.length_append] at hs
          generalize rd_L2 L (k2 : Int) = x at q0 hc0 hr0 hf hs hx
          have HS := Aside0.mk hf
          have HB2 := Aside0.mk (show ((L.take k2).flatten.length + x.length) * 16 ≤ 140737488355328 by have := HLL.out; omega)
          have HR0 := Aside0.mk hr0
          clear hx hf hfl hs hr0 hc0
          generalize (L.take k2).flatten = out at HS HB2 HO
          subst eA
          go_wp2_with ((with_reducible refine gate_builtin (b := .append) (xs := #[.tmp 31, .tmp 32]) rfl ?_); at_builtin; refine Kd.R_append_rows k36 (Rr := k36.K _) (w0 := w) w.heap.size rfl (.tmp 31) (.tmp 32) 28 36 (.agg #[.int .i64 0, .int .i64 0]) 16 rfl Try.underlying28 info36 rfl (by decide) (by omega) _ out x A0 _ c0 (fun _ => True) (fun _ => False) rfl rfl HO.out HR0.out (fun x cs hx => ?aK) (fun _ hk => hk.elim) (fun _ _ => trivial) HB.out (below_size HB.out) HB2.out ?_; (case aK => exact k36_ofK hx); intro v1 w1 ho hb _ _; have HO1 := Aside0.mk ho; have HB1 := Aside0.mk hb; clear ho hb)
          go_roundg (L.length - (k2 + 1))
          case measure => omega
          case rel => exact ⟨k2 + 1, by omega, by omega, by go_num, ⟨by rw [HS.out]; exact HO1.out⟩, HB1⟩
        · have hk : k2 = L.length := by omega
          have HK := Aside0.mk hk
          clear hk
          have hltz2 : ¬ (k2 : Int) < (L.length : Int) := by omega
          go_wp2
          go_ret
          refine ⟨_, rfl, ?_, HB.out⟩
          have h1 := HO.out
          rw [HK.out, List.take_length] at h1
          exact h1
end Go.Proofs.Ytcihpjkjodhdpaa.X
namespace Go.Proofs.Ytcihpjkjodhdpaa.X
set_option linter.unusedVariables false
set_option linter.unusedSimpArgs false
open Go.Sort (grow alloc_eq_grow grow_grow)
open Go.RowKit Go.Proofs.YtcihpjkjodhdpaaW.PrintWords Go.Proofs.YtcihpjkjodhdpaaW.PrintLast Go.Proofs.YtcihpjkjodhdpaaW.PrintMore
def cR (a b : Int) : Int := if a < b then -1 else if b < a then 1 else 0
def cmpR (x y : S36) : Int := if cR x.f0 y.f0 ≠ 0 then cR x.f0 y.f0 else cR x.f1 y.f1
theorem nan_f (a : Int) : cmp_isNaN_int64.f a = some false := by simp [cmp_isNaN_int64.f]
theorem compare_f (a b : Int) : cmp_Compare_int64.f a b = some (cR a b) := by
  unfold cmp_Compare_int64.f cR
  rw [nan_f, nan_f]
  simp only [Option.bind_some, Bool.false_eq_true, if_false]
  by_cases h : a < b
  · simp [h]
  · by_cases h2 : b < a <;> simp [h, h2]
theorem or_f (a b : Int) : cmp_Or_int.f 4 [a, b] = some (if a ≠ 0 then a else b) := by
  by_cases h : a = 0
  · by_cases h2 : b = 0
    · subst h; subst h2; simp [cmp_Or_int.f, cmp_Or_int.l0, rd, wrap64]
    · subst h; simp [cmp_Or_int.f, cmp_Or_int.l0, rd, h2, wrap64]
  · simp [cmp_Or_int.f, cmp_Or_int.l0, rd, h]
theorem reads2 (W : World) (a b : Int) : Kd.C (Kd.int .i64) (W.alloc (.cells #[.int .i64 a, .int .i64 b] 3)) (some ⟨W.heap.size, 0, none⟩) ([a, b] : List Int).length [a, b] := by
  refine ⟨rfl, by simp, fun _ => ⟨_, rfl, fun j p hj => ⟨[.int .i64 p], rfl, rfl, fun i u hu => ?_⟩⟩⟩
  match i, hu with
  | 0, hu =>
    match j, hj with
    | 0, hj =>
      simp at hj hu; subst hj; subst hu
      rw [add_plain]
      simp [Kd.int, Kd.scalar, go_sem]
    | 1, hj =>
      simp at hj hu; subst hj; subst hu
      rw [add_plain]
      simp [Kd.int, Kd.scalar, go_sem]
    | j + 2, hj => simp at hj
  | i + 1, hu => simp at hu
def SP (w : World) (x0 x1 y0 y1 : Int) : World → Prop := fun W => W.cell? ⟨w.heap.size, 0, none⟩ = some (.int .i64 x0) ∧ W.cell? ⟨w.heap.size, 1, none⟩ = some (.int .i64 x1) ∧ W.cell? ⟨w.heap.size + 1, 0, none⟩ = some (.int .i64 y0) ∧ W.cell? ⟨w.heap.size + 1, 1, none⟩ = some (.int .i64 y1) ∧ ∃ q os, W = grow (w.drewN q) os
theorem SP_drawn {w : World} {x0 x1 y0 y1 : Int} (W W' : World) (h : SP w x0 x1 y0 y1 W) (hd : Drawn0 W W') : SP w x0 x1 y0 y1 W' := by
  obtain ⟨⟨n, rfl⟩⟩ := hd
  obtain ⟨h0, h1, h2, h3, q, os, rfl⟩ := h
  exact ⟨h0, h1, h2, h3, q + n, os, by simp [grow, World.drewN, Nat.add_assoc]⟩
theorem SP_alloc {w : World} {x0 x1 y0 y1 : Int} (W : World) (o : Obj) (h : SP w x0 x1 y0 y1 W) : SP w x0 x1 y0 y1 (W.alloc o) := by
  obtain ⟨h0, h1, h2, h3, q, os, rfl⟩ := h
  have hb := below_alloc (Below.refl (grow (w.drewN q) os).heap.size (grow (w.drewN q) os)) o
  exact ⟨pw_cell_below hb h0, pw_cell_below hb h1, pw_cell_below hb h2, pw_cell_below hb h3, q, os ++ #[o], by rw [alloc_eq_grow, grow_grow]⟩
set_option maxHeartbeats 8000000 in
set_option maxRecDepth 100000 in
theorem compare_lays (x y : S36) (w : World) :
    Calls Try.prog 48 #[.agg #[.int .i64 x.f0, .int .i64 x.f1], .agg #[.int .i64 y.f0, .int .i64 y.f1]] w fun e w' => e = .returned (.int .i64 (cmpR x y)) ∧ ∃ q os, w' = grow (w.drewN q) os := by
  obtain ⟨x0, x1⟩ := x
  obtain ⟨y0, y1⟩ := y
  show Calls Try.prog 48 #[.agg #[.int .i64 x0, .int .i64 x1], .agg #[.int .i64 y0, .int .i64 y1]] w _
  have HC0 := Aside0.mk (fun W => cmp_Compare_int64.calls x0 y0 _ W (compare_f x0 y0))
  have HC1 := Aside0.mk (fun W => cmp_Compare_int64.calls x1 y1 _ W (compare_f x1 y1))
  have hS0 : SP w x0 x1 y0 y1 (((w.alloc (.cells #[.int .i64 x0, .int .i64 x1] 36)).alloc (.cells #[.int .i64 y0, .int .i64 y1] 36)).drew) := by
    refine ⟨by go_simp, by go_simp, by go_simp, by go_simp, 1, #[.cells #[.int .i64 x0, .int .i64 x1] 36, .cells #[.int .i64 y0, .int .i64 y1] 36], ?_⟩
    rw [alloc_eq_grow, alloc_eq_grow, grow_grow]
    rfl
  have KS := SP_drawn (w := w) (x0 := x0) (x1 := x1) (y0 := y0) (y1 := y1)
  have KA := fun W => SP_alloc (w := w) (x0 := x0) (x1 := x1) (y0 := y0) (y1 := y1) W (.cells #[.int .i64 (cR x0 y0), .int .i64 (cR x1 y1)] 3)
  have HR := Aside0.mk (show cmpR ⟨x0, x1⟩ ⟨y0, y1⟩ = if cR x0 y0 ≠ 0 then cR x0 y0 else cR x1 y1 from rfl)
  have HO := Aside0.mk (fun W => cmp_Or_int.calls 4 _ 2 [cR x0 y0, cR x1 y1] _ _ (reads2 W (cR x0 y0) (cR x1 y1)) (by simp) (or_f (cR x0 y0) (cR x1 y1)))
  generalize cR x0 y0 = c0 at HC0 HO HR KA
  generalize cR x1 y1 = c1 at HC1 HO HR KA
  generalize (if c0 ≠ 0 then c0 else c1) = r at HO HR
  go_enter Try.func48, Try.ntmps48
  go_wp2
  refine start_ (n := 13) (S := SP w x0 x1 y0 y1) (ds := []) #[false, false, false, false, false, false, false, false, false, false, false, false, false] (by kernel_rfl) rfl rfl hS0 (fun hHeld => ?_)
  refine with_tabW value_Compare.tab1 value_Compare.bits1 (fun HT_ HW_ => ?_)
  clear hS0
  generalize World.drew _ = w0 at hHeld ⊢
  refine pure_ (i := 0) (N := (some 5)) (v := ?_) (a' := ?_) #[true, false, false, false, false, false, false, false, false, false, false, false, false] rfl rfl (any_of HT_.out (by kernel_rfl)) (fun _ _ _ h => h) (Or.inl ⟨by rfl, ?_⟩) ?_ ?_
  rotate_left
  · intro w'
    go_simp
    (try with_reducible rfl)
  rotate_left
  · simp only [Act.put, List.setIfInBounds_toArray, List.set_cons_zero, List.set_cons_succ, i64_w, i32_w]
    rfl
  refine take_ (i := 1) (N := (some 6)) (v := ?_) (a' := ?_) #[true, true, false, false, false, false, false, false, false, false, false, false, false] rfl rfl (take_ofW HT_.out HW_.out (by kernel_rfl)) (fun _ _ _ h => h) (Or.inl ⟨by rfl, ?_⟩) hHeld ?_ ?_
  rotate_left
  · rintro w' ⟨sx0, sx1, sx2, sx3, _⟩
    go_simp
    (try with_reducible rfl)
  rotate_left
  · simp only [Act.put, List.setIfInBounds_toArray, List.set_cons_zero, List.set_cons_succ, i64_w, i32_w]
    rfl
  refine pure_ (i := 2) (N := (some 7)) (v := ?_) (a' := ?_) #[true, true, true, false, false, false, false, false, false, false, false, false, false] rfl rfl (any_of HT_.out (by kernel_rfl)) (fun _ _ _ h => h) (Or.inl ⟨by rfl, ?_⟩) ?_ ?_
  rotate_left
  · intro w'
    go_simp
    (try with_reducible rfl)
  rotate_left
  · simp only [Act.put, List.setIfInBounds_toArray, List.set_cons_zero, List.set_cons_succ, i64_w, i32_w]
    rfl
  refine take_ (i := 3) (N := (some 8)) (v := ?_) (a' := ?_) #[true, true, true, true, false, false, false, false, false, false, false, false, false] rfl rfl (take_ofW HT_.out HW_.out (by kernel_rfl)) (fun _ _ _ h => h) (Or.inl ⟨by rfl, ?_⟩) hHeld ?_ ?_
  rotate_left
  · rintro w' ⟨sx0, sx1, sx2, sx3, _⟩
    go_simp
    (try with_reducible rfl)
  rotate_left
  · simp only [Act.put, List.setIfInBounds_toArray, List.set_cons_zero, List.set_cons_succ, i64_w, i32_w]
    rfl
  refine pure_ (i := 5) (N := (some 10)) (v := ?_) (a' := ?_) #[true, true, true, true, false, true, false, false, false, false, false, false, false] rfl rfl (any_of HT_.out (by kernel_rfl)) (fun _ _ _ h => h) (Or.inl ⟨by rfl, ?_⟩) ?_ ?_
  rotate_left
  · intro w'
    go_simp
    (try with_reducible rfl)
  rotate_left
  · simp only [Act.put, List.setIfInBounds_toArray, List.set_cons_zero, List.set_cons_succ, i64_w, i32_w]
    rfl
  refine take_ (i := 6) (N := (some 11)) (v := ?_) (a' := ?_) #[true, true, true, true, false, true, true, false, false, false, false, false, false] rfl rfl (take_ofW HT_.out HW_.out (by kernel_rfl)) (fun _ _ _ h => h) (Or.inl ⟨by rfl, ?_⟩) hHeld ?_ ?_
  rotate_left
  · rintro w' ⟨sx0, sx1, sx2, sx3, _⟩
    go_simp
    (try with_reducible rfl)
  rotate_left
  · simp only [Act.put, List.setIfInBounds_toArray, List.set_cons_zero, List.set_cons_succ, i64_w, i32_w]
    rfl
  refine pure_ (i := 7) (N := (some 12)) (v := ?_) (a' := ?_) #[true, true, true, true, false, true, true, true, false, false, false, false, false] rfl rfl (any_of HT_.out (by kernel_rfl)) (fun _ _ _ h => h) (Or.inl ⟨by rfl, ?_⟩) ?_ ?_
  rotate_left
  · intro w'
    go_simp
    (try with_reducible rfl)
  rotate_left
  · simp only [Act.put, List.setIfInBounds_toArray, List.set_cons_zero, List.set_cons_succ, i64_w, i32_w]
    rfl
  refine take_ (i := 8) (N := (some 13)) (v := ?_) (a' := ?_) #[true, true, true, true, false, true, true, true, true, false, false, false, false] rfl rfl (take_ofW HT_.out HW_.out (by kernel_rfl)) (fun _ _ _ h => h) (Or.inl ⟨by rfl, ?_⟩) hHeld ?_ ?_
  rotate_left
  · rintro w' ⟨sx0, sx1, sx2, sx3, _⟩
    go_simp
    (try with_reducible rfl)
  rotate_left
  · simp only [Act.put, List.setIfInBounds_toArray, List.set_cons_zero, List.set_cons_succ, i64_w, i32_w]
    rfl
  refine one_ (i := 4) (N := (some 9)) #[true, true, true, true, true, true, true, true, true, false, false, false, false] rfl rfl (one_of HT_.out (by kernel_rfl)) (by decide) (fun K hK => ?_)
  refine call_ 67 #[.int .i64 x0, .int .i64 y0] (by rfl) rfl (by go_simp) ?_
  refine (HC0.out _).mono ?_
  rintro e w1 ⟨rfl, hd⟩
  refine ⟨_, rfl, ?_⟩
  refine hK.out _ _ (KS _ _ hHeld hd) (fun hHeld => ?_)
  clear hK K
  refine norm_ (a' := ?_) ?_ ?_
  rotate_left
  · simp only [Act.put, List.setIfInBounds_toArray, List.set_cons_zero, List.set_cons_succ, i64_w, i32_w]
    rfl
  refine one_ (i := 9) (N := (some 14)) #[true, true, true, true, true, true, true, true, true, true, false, false, false] rfl rfl (one_of HT_.out (by kernel_rfl)) (by decide) (fun K hK => ?_)
  refine call_ 67 #[.int .i64 x1, .int .i64 y1] (by rfl) rfl (by go_simp) ?_
  refine (HC1.out _).mono ?_
  rintro e w1 ⟨rfl, hd⟩
  refine ⟨_, rfl, ?_⟩
  refine hK.out _ _ (KS _ _ hHeld hd) (fun hHeld => ?_)
  clear hK K
  refine norm_ (a' := ?_) ?_ ?_
  rotate_left
  · simp only [Act.put, List.setIfInBounds_toArray, List.set_cons_zero, List.set_cons_succ, i64_w, i32_w]
    rfl
  refine one_ (i := 10) (N := (some 15)) #[true, true, true, true, true, true, true, true, true, true, true, false, false] rfl rfl (one_of HT_.out (by kernel_rfl)) (by decide) (fun K hK => ?_)
  refine value_ (w1 := ?_) (v := ?_) (by rfl) rfl ?_ ?_
  rotate_left 2
  · go_simp
    constructor
    · rfl
    · rfl
  refine hK.out _ _ (KA _ hHeld) (fun hHeld => ?_)
  clear hK K
  refine norm_ (a' := ?_) ?_ ?_
  rotate_left
  · simp only [Act.put, List.setIfInBounds_toArray, List.set_cons_zero, List.set_cons_succ, i64_w, i32_w]
    rfl
  refine one_ (i := 11) (N := (some 16)) #[true, true, true, true, true, true, true, true, true, true, true, true, false] rfl rfl (one_of HT_.out (by kernel_rfl)) (by decide) (fun K hK => ?_)
  refine call_ 66 #[.slice (some ⟨w1.heap.size, 0, none⟩) 2 2] (by rfl) rfl (by go_simp) ?_
  refine (HO.out w1).mono ?_
  rintro e w2 ⟨rfl, hd⟩
  refine ⟨_, rfl, ?_⟩
  refine hK.out _ _ (KS _ _ hHeld hd) (fun hHeld => ?_)
  clear hK K
  refine norm_ (a' := ?_) ?_ ?_
  rotate_left
  · simp only [Act.put, List.setIfInBounds_toArray, List.set_cons_zero, List.set_cons_succ, i64_w, i32_w]
    rfl
  refine pure_ (i := 12) (N := (some 4)) (v := ?_) (a' := ?_) #[true, true, true, true, true, true, true, true, true, true, true, true, true] rfl rfl (any_of HT_.out (by kernel_rfl)) (fun _ _ _ h => h) (Or.inl ⟨by rfl, ?_⟩) ?_ ?_
  rotate_left
  · intro w'
    go_simp
    (try with_reducible rfl)
  rotate_left
  · simp only [Act.put, List.setIfInBounds_toArray, List.set_cons_zero, List.set_cons_succ, i64_w, i32_w]
    rfl
  refine done_ (done_of HT_.out (by kernel_rfl)) ?_
  go_wp2
  go_ret
  exact ⟨by rw [HR.out]; rfl, hHeld.2.2.2.2⟩
end Go.Proofs.Ytcihpjkjodhdpaa.X
namespace Go.Proofs.Ytcihpjkjodhdpaa.X
set_option linter.unusedVariables false
set_option linter.unusedSimpArgs false
open Go.Shelf
open Go.Sort (grow heap_grow_old SWO putRow putCells mapBlock onCells Holds flatK HoldsK get_flatK size_flatK putRowK)
open Go.RowKit Go.Proofs.YtcihpjkjodhdpaaW.PrintWords Go.Proofs.YtcihpjkjodhdpaaW.PrintLast Go.Proofs.YtcihpjkjodhdpaaW.PrintMore
def sortR_ren : Go.Shelf.Ren := ⟨fun | 6 => 47 | 15 => 65 | 14 => 64 | 28 => 85 | 29 => 86 | 20 => 77 | 21 => 78 | 22 => 79 | 23 => 80 | 24 => 81 | 25 => 82 | 26 => 83 | 27 => 84 | 46 => 89 | 47 => 90 | 48 => 91 | 49 => 92 | 50 => 93 | 57 => 94 | n => n, fun | 22 => 28 | 24 => 36 | 25 => 68 | 3 => 3 | 39 => 84 | 0 => 0 | 53 => 101 | 55 => 103 | 4 => 4 | 46 => 94 | 45 => 93 | 50 => 98 | 5 => 5 | 9 => 9 | 66 => 106 | 70 => 110 | 76 => 112 | 77 => 113 | n => n, fun | n => n⟩
theorem sortR : Go.Proofs.SlLaysF0.n6 Try.prog sortR_ren := {
  mixed := by kernel_rfl,
  f6 := ⟨Try.f47.name, by decide, Try.func47.trans (congrArg some (by kernel_rfl))⟩,
  f14 := ⟨Try.f64.name, by decide, Try.func64.trans (congrArg some (by kernel_rfl))⟩,
  f15 := Try.func65.trans (congrArg some (by kernel_rfl)),
  f20 := ⟨Try.f77.name, by decide, Try.func77.trans (congrArg some (by kernel_rfl))⟩,
  f21 := ⟨Try.f78.name, by decide, Try.func78.trans (congrArg some (by kernel_rfl))⟩,
  f22 := ⟨Try.f79.name, by decide, Try.func79.trans (congrArg some (by kernel_rfl))⟩,
  f23 := ⟨Try.f80.name, by decide, Try.func80.trans (congrArg some (by kernel_rfl))⟩,
  f24 := ⟨Try.f81.name, by decide, Try.func81.trans (congrArg some (by kernel_rfl))⟩,
  f25 := ⟨Try.f82.name, by decide, Try.func82.trans (congrArg some (by kernel_rfl))⟩,
  f26 := ⟨Try.f83.name, by decide, Try.func83.trans (congrArg some (by kernel_rfl))⟩,
  f27 := ⟨Try.f84.name, by decide, Try.func84.trans (congrArg some (by kernel_rfl))⟩,
  f28 := Try.func85.trans (congrArg some (by kernel_rfl)),
  f29 := Try.func86.trans (congrArg some (by kernel_rfl)),
  f46 := ⟨Try.f89.name, by decide, Try.func89.trans (congrArg some (by kernel_rfl))⟩,
  f47 := Try.func90.trans (congrArg some (by kernel_rfl)),
  f48 := Try.func91.trans (congrArg some (by kernel_rfl)),
  f49 := ⟨Try.f92.name, by decide, Try.func92.trans (congrArg some (by kernel_rfl))⟩,
  f50 := ⟨Try.f93.name, by decide, Try.func93.trans (congrArg some (by kernel_rfl))⟩,
  f57 := ⟨Try.f94.name, by decide, Try.func94.trans (congrArg some (by kernel_rfl))⟩,
  t0 := Try.underlying0,
  a0 := Try.isAgg0,
  z0 := Try.sizeOf0,
  v0 := Try.zeroValue0,
  t3 := Try.underlying3,
  a3 := Try.isAgg3,
  z3 := Try.sizeOf3,
  v3 := Try.zeroValue3,
  t4 := Try.underlying4,
  a4 := Try.isAgg4,
  z4 := Try.sizeOf4,
  v4 := Try.zeroValue4,
  t5 := Try.underlying5,
  a5 := Try.isAgg5,
  z5 := Try.sizeOf5,
  v5 := Try.zeroValue5,
  t9 := Try.underlying9,
  a9 := Try.isAgg9,
  z9 := Try.sizeOf9,
  v9 := Try.zeroValue9,
  t22 := Try.underlying28,
  a22 := Try.isAgg28,
  z22 := Try.sizeOf28,
  v22 := Try.zeroValue28,
  t25 := Try.underlying68,
  a25 := Try.isAgg68,
  z25 := Try.sizeOf68,
  v25 := Try.zeroValue68,
  t39 := Try.underlying84,
  a39 := Try.isAgg84,
  z39 := Try.sizeOf84,
  v39 := Try.zeroValue84,
  t45 := Try.underlying93,
  a45 := Try.isAgg93,
  z45 := Try.sizeOf93,
  v45 := Try.zeroValue93,
  t46 := Try.underlying94,
  a46 := Try.isAgg94,
  z46 := Try.sizeOf94,
  v46 := Try.zeroValue94,
  t50 := Try.underlying98,
  a50 := Try.isAgg98,
  z50 := Try.sizeOf98,
  v50 := Try.zeroValue98,
  t53 := Try.underlying101,
  a53 := Try.isAgg101,
  z53 := Try.sizeOf101,
  v53 := Try.zeroValue101,
  t55 := Try.underlying103,
  a55 := Try.isAgg103,
  z55 := Try.sizeOf103,
  v55 := Try.zeroValue103,
  t66 := Try.underlying106,
  a66 := Try.isAgg106,
  z66 := Try.sizeOf106,
  v66 := Try.zeroValue106,
  t70 := Try.underlying110,
  a70 := Try.isAgg110,
  z70 := Try.sizeOf110,
  v70 := Try.zeroValue110,
  t76 := Try.underlying112,
  a76 := Try.isAgg112,
  z76 := Try.sizeOf112,
  v76 := Try.zeroValue112,
  t77 := Try.underlying113,
  a77 := Try.isAgg113,
  z77 := Try.sizeOf113,
  v77 := Try.zeroValue113 }
instance inhabitedS36 : Inhabited S36 := ⟨z36⟩
def encR (x : S36) : List Value := [.int .i64 x.f0, .int .i64 x.f1]
theorem cR_lt (a b : Int) : cR a b < 0 ↔ a < b := by
  unfold cR
  by_cases h : a < b
  · simp [h]
  · by_cases h2 : b < a <;> simp [h, h2]
theorem cR_ne (a b : Int) : cR a b ≠ 0 ↔ a ≠ b := by
  unfold cR
  by_cases h : a < b
  · simp [h]; omega
  · by_cases h2 : b < a <;> simp [h, h2] <;> omega
theorem ltOf_cmpR (x y : S36) : ltOf cmpR x y = decide (x.f0 < y.f0 ∨ (x.f0 = y.f0 ∧ x.f1 < y.f1)) := by
  unfold ltOf cmpR
  by_cases h : x.f0 = y.f0
  · have h1 : ¬ (cR x.f0 y.f0 ≠ 0) := fun h2 => (cR_ne _ _).1 h2 h
    rw [if_neg h1]
    simp [cR_lt, h]
  · rw [if_pos ((cR_ne _ _).2 h)]
    simp [cR_lt, h]
theorem swoR : SWO (ltOf cmpR) where
  irrefl x := by rw [ltOf_cmpR]; simp
  trans x y z h1 h2 := by
    rw [ltOf_cmpR, decide_eq_true_eq] at *
    omega
  ntrans x y z h1 h2 := by
    rw [ltOf_cmpR, decide_eq_false_iff_not] at *
    omega
theorem totR (x y : S36) (h1 : ltOf cmpR x y = false) (h2 : ltOf cmpR y x = false) : x = y := by
  rw [ltOf_cmpR, decide_eq_false_iff_not] at h1 h2
  obtain ⟨x0, x1⟩ := x
  obtain ⟨y0, y1⟩ := y
  simp only at h1 h2
  have e0 : x0 = y0 := by omega
  have e1 : x1 = y1 := by omega
  rw [e0, e1]
def srt (l : List S36) : List S36 := l.mergeSort fun x y => !(ltOf cmpR) y x
theorem srt_length (l : List S36) : (srt l).length = l.length := List.length_mergeSort _
theorem srt_nil : srt [] = [] := by simp [srt]
theorem flat_encR_length (l : List S36) : (l.flatMap encR).length = l.length * 2 := by
  induction l with
  | nil => rfl
  | cons x r ih => simp only [List.flatMap_cons, List.length_append, ih, encR, List.length_cons, List.length_nil]; omega
theorem flat_encR_get (l : List S36) : ∀ (j : Nat), j < l.length * 2 → (l.flatMap encR)[j]? = (encR (l.getD (j / 2) z36))[j % 2]? := by
  induction l with
  | nil => intro j hj; simp at hj
  | cons x r ih =>
    intro j hj
    simp only [List.flatMap_cons]
    by_cases h : j < 2
    · rw [List.getElem?_append_left (by simpa [encR] using h)]
      have : j / 2 = 0 := by omega
      have h2 : j % 2 = j := by omega
      rw [this, h2]
      rfl
    · rw [List.getElem?_append_right (by simp [encR]; omega)]
      have hl : (encR x).length = 2 := rfl
      rw [hl, ih (j - 2) (by simp at hj; omega)]
      have e1 : j / 2 = (j - 2) / 2 + 1 := by omega
      have e2 : (j - 2) % 2 = j % 2 := by omega
      rw [e1, e2]
      rfl
theorem flatK_encR (l : List S36) : (flatK encR 2 l.toArray).toList = l.flatMap encR := by
  apply List.ext_getElem?
  intro j
  by_cases hj : j < l.length * 2
  · rw [flat_encR_get l j hj, Array.getElem?_toList]
    have hs : j < (flatK encR 2 l.toArray).size := by simpa using hj
    rw [Array.getElem?_eq_getElem hs, ← getElem!_pos (flatK encR 2 l.toArray) j hs, get_flatK encR 2 l.toArray j (by simpa using hj)]
    have hd : j / 2 < l.length := by omega
    have e : l.toArray[j / 2]! = l.getD (j / 2) z36 := by simp [hd]
    rw [e]
    have hm : j % 2 < (encR (l.getD (j / 2) z36)).length := by simp only [encR, List.length_cons, List.length_nil]; omega
    rw [List.getElem?_eq_getElem hm, getElem!_pos (encR (l.getD (j / 2) z36)) (j % 2) hm]
  · rw [List.getElem?_eq_none (by simp; omega), List.getElem?_eq_none (by rw [flat_encR_length]; omega)]
theorem reps_encR (W : World) (base : Nat) (ok : Nat → Prop) (l : List S36) : Reps (k36.M W base ok) 2 l (l.flatMap encR) := by
  refine ⟨flat_encR_length l, fun j p hj => ?_⟩
  have hlt : j < l.length := (List.getElem?_eq_some_iff.1 hj).1
  have e : ((l.flatMap encR).drop (j * 2)).take 2 = encR p := by
    apply List.ext_getElem?
    intro i
    by_cases hi : i < 2
    · rw [List.getElem?_take_of_lt hi, List.getElem?_drop, flat_encR_get l _ (by omega)]
      have e1 : (j * 2 + i) / 2 = j := by omega
      have e2 : (j * 2 + i) % 2 = i := by omega
      rw [e1, e2, List.getD_eq_getElem?_getD, hj]
      rfl
    · rw [List.getElem?_take_eq_none (by omega), List.getElem?_eq_none (by simp [encR]; omega)]
  rw [e]
  exact k36_mkM _ _ _ p
theorem reps_inner {W : World} {base : Nat} {ok : Nat → Prop} {l : List S36} {inner : List Value} (h : Reps (k36.M W base ok) 2 l inner) : inner = l.flatMap encR := by
  obtain ⟨hl, h2⟩ := h
  apply List.ext_getElem?
  intro j
  by_cases hj : j < l.length * 2
  · rw [flat_encR_get l j hj]
    have hd : j / 2 < l.length := by omega
    have h3 := h2 (j / 2) _ (List.getElem?_eq_getElem hd)
    have h4 := k36_openM h3
    have e : ((inner.drop (j / 2 * 2)).take 2)[j % 2]? = inner[j]? := by
      rw [List.getElem?_take_of_lt (by omega), List.getElem?_drop]
      congr 1
      omega
    rw [← e, h4, List.getD_eq_getElem?_getD, List.getElem?_eq_getElem hd]
    rfl
  · rw [List.getElem?_eq_none (by omega), List.getElem?_eq_none (by rw [flat_encR_length]; omega)]
theorem heap_sortedV {w : World} {g n : Nat} {os : Array Obj} {cur : Array Value} {e : TypeId} {fr : Nat × Nat} (F : Array Value) (hb : w.heap[g]? = some (.cells cur e fr)) :
    (grow (putRow id (Go.Sort.ahead w n) g 0 F) os).heap[g]? = some (.cells (putCells id 0 F cur) e fr) := by
  have hg : g < w.heap.size := (Array.getElem?_eq_some_iff.1 hb).1
  rw [heap_grow_old _ _ (by simpa using hg)]
  simp [putRow, mapBlock, Go.Sort.ahead, Array.getElem?_modify, hb, onCells]
theorem grownBy_sortedV {w : World} {g n : Nat} {os : Array Obj} (F : Array Value) : w.grownBy (grow (putRow id (Go.Sort.ahead w n) g 0 F) os) (some g) := by
  refine ⟨rfl, rfl, rfl, by simp, fun k hk hne => ?_⟩
  rw [heap_grow_old _ _ (by simpa using hk)]
  have : g ≠ k := fun e => hne (by rw [e])
  simp [putRow, mapBlock, Go.Sort.ahead, Array.getElem?_modify, this]
theorem take_putCellsV (cur F : Array Value) (h : F.size ≤ cur.size) : (putCells id 0 F cur).toList.take F.size = F.toList := by
  apply List.ext_getElem?
  intro j
  by_cases hj : j < F.size
  · rw [List.getElem?_take_of_lt hj, Array.getElem?_toList, Array.getElem?_toList]
    simp [putCells, hj, show j < cur.size by omega]
  · rw [List.getElem?_take_eq_none (by omega), List.getElem?_eq_none (by simp; omega)]
theorem cmpLaysR (blk off size : Nat) (w : World) : CmpLays Try.prog 48 #[] encR 2 cmpR blk off size w := fun _ _ _ _ x y => compare_lays x y _
theorem sort_calls (v : Value) (xs : List S36) (base : Nat) (W : World) (h : Kd.R k36 36 W base (fun _ => True) v xs) (hl : xs.length ≤ 1000000) :
    Calls Try.prog 47 #[v, .func (.func 48) #[] #[]] W fun e w' => e = .returned (.tuple #[]) ∧ Kd.R k36 36 w' base (fun _ => True) v (srt xs) ∧ W.grownBy w' v.ownBlock := by
  by_cases h0 : xs.length = 0
  · obtain ⟨A, c, rfl⟩ := Kd.R_slice h
    rw [h0]
    have e : xs = [] := List.length_eq_zero_iff.1 h0
    refine (AnyF.slices_SortFunc_none (P := Try.prog) (ρ := sortR_ren) { sortR with } A c (.func (.func 48) #[] #[]) W).mono ?_
    rintro e1 w' ⟨he, rfl⟩
    refine ⟨he, ?_, ⟨rfl, rfl, rfl, Nat.le_refl _, fun _ _ _ => rfl⟩⟩
    rw [e, srt_nil]
    rw [h0, e] at h
    exact h
  · obtain ⟨_, inner, hown, hr⟩ := h
    have hin := reps_inner hr
    subst hin
    obtain ⟨hlen, h2⟩ := hown
    rcases h2 with ⟨_, h0'⟩ | ⟨g, cap, cur, rfl, hg, hb, hlc, hcm, hsz, htk⟩
    · exact absurd h0' h0
    simp only [show k36.sz = 2 from rfl] at hsz htk
    have hblk : g < W.heap.size := (Array.getElem?_eq_some_iff.1 hb).1
    have hH : HoldsK encR 2 W g 0 xs.toArray := by
      intro j hj
      have hj' : j < xs.length * 2 := by simpa using hj
      refine ⟨?_, by simp [World.frozen?, hb]⟩
      have h1 : (cur.toList.take (xs.length * 2))[j]? = (xs.flatMap encR)[j]? := by rw [htk]
      rw [List.getElem?_take_of_lt hj', ← flatK_encR, Array.getElem?_toList, Array.getElem?_toList, Array.getElem?_eq_getElem hj] at h1
      simp only [World.cell?, hb, Nat.zero_add, Option.isSome_none, Bool.false_eq_true, if_false]
      rw [h1, getElem!_pos _ j hj]
      rfl
    have eg : ∀ args w, (callFunc 48 args).run Try.prog w = .ok (.enter 48 args) w := enters_of Try.func48 (by kernel_rfl) rfl
    have hcon := AnyQ.slices_SortFunc_total sortR 2 Try.isAgg36 Try.sizeOf36 encR (fun _ => rfl) (fun x v hv => by simp [encR] at hv; rcases hv with rfl | rfl <;> rfl) cmpR swoR 48 #[] g 0 cap xs.toArray W eg (cmpLaysR g 0 xs.toArray.size W) hH hblk (by simp; omega) totR
    change Calls Try.prog 47 #[.slice (some ⟨g, 0, none⟩) xs.length cap, _] _ _ at hcon
    refine hcon.mono ?_
    rintro e w' ⟨he, n, os, rfl⟩
    have hs : (xs.toArray.toList.mergeSort fun x y => !(ltOf cmpR) y x).toArray = (srt xs).toArray := rfl
    rw [hs]
    refine ⟨he, ⟨fun _ _ => trivial, (srt xs).flatMap encR, ⟨by rw [flat_encR_length]; rfl, .inr ⟨g, cap, _, ?_, hg, heap_sortedV _ hb, ?_, hcm, ?_, ?_⟩⟩, reps_encR _ _ _ _⟩, grownBy_sortedV _⟩
    · rw [srt_length]
    · rw [srt_length]; exact hlc
    · simp [putCells, hsz]; rfl
    · have e1 : (flatK encR 2 (srt xs).toArray).size = (srt xs).length * 2 := by simp
      show (putCells id 0 (flatK encR 2 (srt xs).toArray) cur).toList.take ((srt xs).length * 2) = _
      rw [← e1, take_putCellsV _ _ (by rw [e1, srt_length, hsz]; exact Nat.mul_le_mul_right _ hlc), flatK_encR]
set_option maxHeartbeats 4000000 in
set_option maxRecDepth 100000 in
theorem add_calls (A : Option Addr) (c : Nat) (L : List (List S36)) (w : World) (hr : Kd.C (Kd.slice 36 k36) w A L.length L) (hl : L.flatten.length ≤ 1000000) :
    Calls Try.prog 21 #[.slice A L.length c] w fun e w' => ∃ v, e = .returned v ∧ Kd.R k36 36 w' w.heap.size (fun _ => True) v (srt L.flatten) ∧ Below w.heap.size w w' := by
  have HC := Aside0.mk (concat_calls A c L w hr hl)
  have HL := Aside0.mk hl
  clear hr hl
  generalize L.flatten = xs at HC HL
  go_enter Try.func21, Try.ntmps21
  go_wp2_with (first | (go_at_call 46; refine HC.out.mono ?_; rintro e w1 ⟨v, rfl, ho, hb⟩; have HO := Aside0.mk ho; have HB := Aside0.mk hb; clear ho hb) | (go_at_call 47; refine (sort_calls _ xs _ _ HO.out HL.out).mono ?_; rintro e w2 ⟨rfl, ho, hg⟩; have HO2 := Aside0.mk ho; have HB2 := Aside0.mk (HB.out.grown hg HB.out.size (Kd.R_base HO.out)); clear ho hg))
  go_ret
  exact ⟨_, rfl, HO2.out, HB2.out⟩
theorem reads_one (W : World) (A : Option Addr) (n c : Nat) (l : List S36) (hn : l.length = n) (hr : Kd.C k36 W A l.length l) (hc : l.length ≤ c) :
    Kd.C (Kd.slice 36 k36) (W.alloc (.cells #[.slice A n c] 28)) (some ⟨W.heap.size, 0, none⟩) ([l] : List (List S36)).length [l] := by
  subst hn
  refine ⟨rfl, by simp, fun _ => ⟨_, rfl, fun j p hj => ⟨[.slice A p.length c], rfl, ?_, fun i u hu => ?_⟩⟩⟩
  · match j, hj with
    | 0, hj =>
      simp at hj; subst hj
      exact ⟨A, c, rfl, hc, Kd.C_alloc hr _⟩
    | j + 1, hj => simp at hj
  · match j, hj with
    | 0, hj =>
      simp at hj; subst hj
      match i, hu with
      | 0, hu =>
        simp at hu; subst hu
        rw [add_plain]
        simp [Kd.slice, go_sem]
      | i + 1, hu => simp at hu
    | j + 1, hj => simp at hj
set_option maxHeartbeats 4000000 in
set_option maxRecDepth 100000 in
theorem sorted_calls (A : Option Addr) (c : Nat) (l : List S36) (w : World) (hr : Kd.C k36 w A l.length l) (hc : l.length ≤ c) (hl : l.length ≤ 1000000) :
    Calls Try.prog 32 #[.slice A l.length c] w fun e w' => ∃ v, e = .returned v ∧ Kd.R k36 36 w' w.heap.size (fun _ => True) v (srt l) ∧ Below w.heap.size w w' := by
  have HC := Aside0.mk (add_calls (some ⟨w.heap.size, 0, none⟩) 1 [l] _ (reads_one w A l.length c l rfl hr hc) (by simpa using hl))
  have hHB := Aside0.mk (below_alloc (Below.refl w.heap.size w) (.cells #[.slice A l.length c] 28))
  have e : ([l] : List (List S36)).flatten = l := by simp
  rw [e] at HC
  clear hr hc hl e
  go_enter Try.func32, Try.ntmps32
  go_wp2_with (go_at_call 21; refine HC.out.mono ?_; rintro e w1 ⟨v, rfl, ho, hb⟩; have HO := Aside0.mk (Kd.R_lower ho hHB.out.size); have HB := Aside0.mk (below_step hHB.out hb); clear ho hb)
  go_ret
  exact ⟨_, rfl, HO.out, HB.out⟩
set_option maxHeartbeats 4000000 in
set_option maxRecDepth 100000 in
theorem passes_calls (a0 a1 a2 a3 : Int) (A4 : Option Addr) (n4 c4 : Nat) (A : Option Addr) (c : Nat) (L : List (List S36)) (w : World) (hr : Kd.C (Kd.slice 36 k36) w A L.length L) (hl : L.flatten.length ≤ 1000000) :
    Calls Try.prog 31 #[.agg #[.int .u8 a0, .int .u8 a1, .int .i64 a2, .int .i64 a3, .slice A4 n4 c4], .slice A L.length c] w fun e w' => ∃ v, e = .returned v ∧ Kd.R k36 36 w' w.heap.size (fun _ => True) v (srt L.flatten) ∧ Below w.heap.size w w' := by
  have hHB := Aside0.mk (below_alloc (Below.refl w.heap.size w) (.cells #[.int .u8 a0, .int .u8 a1, .int .i64 a2, .int .i64 a3, .slice A4 n4 c4] 24))
  have HC := Aside0.mk (add_calls A c L _ (Kd.C_below hr hHB.out) hl)
  clear hr hl
  generalize srt L.flatten = xs at HC ⊢
  go_enter Try.func31, Try.ntmps31
  go_wp2_with (go_at_call 21; refine HC.out.mono ?_; rintro e w1 ⟨v, rfl, ho, hb⟩; have HO := Aside0.mk (Kd.R_lower ho hHB.out.size); have HB := Aside0.mk (below_step hHB.out hb); clear ho hb)
  go_ret
  exact ⟨_, rfl, HO.out, HB.out⟩
end Go.Proofs.Ytcihpjkjodhdpaa.X
namespace Go.Proofs.Ytcihpjkjodhdpaa.X
set_option linter.unusedVariables false
set_option linter.unusedSimpArgs false
open Go.RowKit Go.Maps Go.Proofs.YtcihpjkjodhdpaaW.PrintWords Go.Proofs.YtcihpjkjodhdpaaW.PrintLast Go.Proofs.YtcihpjkjodhdpaaW.PrintMore
def redV (a : Int) (ok : Bool) (old v : Int) : Int := if a = 1 then wrap64 (old + 1) else if ok = false then v else if a = 0 then wrap64 (old + v) else if a = 2 then mn old v else mx old v
def redStep (a : Int) (f : Int → Option Int) (x : S36) : Int → Option Int := fun k => if k = x.f0 then some (redV a (f x.f0).isSome ((f x.f0).getD 0) x.f1) else f k
def redS (a : Int) (l : List S36) : Int → Option Int := l.foldl (redStep a) (fun _ => none)
theorem redS_take (a : Int) (l : List S36) (k : Nat) (x : S36) (h : l[k]? = some x) : redS a (l.take (k + 1)) = redStep a (redS a (l.take k)) x := by
  unfold redS
  rw [List.take_add_one, h]
  simp
def MapIs (D : DataW Unit) (f : Int → Option Int) : Prop :=
  Maps.IsMap D ∧ ∀ k, Maps.has D (.int .i64 k) = (f k).isSome ∧ ∀ v, f k = some v → ∀ z, D.atKey (.int .i64 k) z = .lit (.int .i64 v)
theorem MapIs.start : MapIs (.map []) (fun _ => none) := ⟨Maps.isMap_empty, fun k => ⟨rfl, fun v h => by cases h⟩⟩
theorem MapIs.val {D : DataW Unit} {f : Int → Option Int} (h : MapIs D f) {k c : Int} (hat : D.atKey (.int .i64 k) (.lit (.int .i64 0)) = .lit (.int .i64 c)) : c = (f k).getD 0 := by
  obtain ⟨h1, h2⟩ := h.2 k
  cases e : f k with
  | none =>
    rw [e] at h1
    rw [Maps.atKey_of_not_has h1] at hat
    simp at hat
    simp [hat]
  | some v =>
    rw [h2 v e] at hat
    simp at hat
    simp [hat]
theorem MapIs.there {D : DataW Unit} {f : Int → Option Int} (h : MapIs D f) {k c : Int} (hat : ∀ z, D.atKey (.int .i64 k) z = .lit (.int .i64 c)) : f k = some c := by
  obtain ⟨h1, h2⟩ := h.2 k
  cases e : f k with
  | none =>
    rw [e] at h1
    have h3 := hat (.lit (.int .i64 (c + 1)))
    rw [Maps.atKey_of_not_has h1] at h3
    simp at h3
    omega
  | some v =>
    have h3 := hat .nil
    rw [h2 v e] at h3
    simp at h3
    rw [h3]
theorem int_ne {a b : Int} (h : a ≠ b) : (Lit.int .i64 a) ≠ (Lit.int .i64 b) := fun e => h (by injection e)
theorem MapIs.put {D : DataW Unit} {f : Int → Option Int} (h : MapIs D f) (k0 v0 : Int) : MapIs (D.put (.int .i64 k0) (.lit (.int .i64 v0))) (fun k => if k = k0 then some v0 else f k) := by
  refine ⟨h.1.put _ _, fun k => ?_⟩
  by_cases e : k = k0
  · subst e
    refine ⟨by rw [Maps.has_put_same (k := .int .i64 k) h.1 trivial]; simp, fun v hv z => ?_⟩
    rw [Maps.atKey_put_same (k := .int .i64 k) h.1 trivial]
    simp at hv
    rw [hv]
  · refine ⟨by rw [Maps.has_put_other (int_ne e), (h.2 k).1]; simp [e], fun v hv z => ?_⟩
    rw [Maps.atKey_put_other (int_ne e)]
    simp [e] at hv
    exact (h.2 k).2 v hv z
def OutIs (f : Int → Option Int) (left : Lit → Bool) (out : List S36) : Prop :=
  (out.map S36.f0).Nodup ∧ ∀ x : S36, x ∈ out ↔ (f x.f0 = some x.f1 ∧ left (.int .i64 x.f0) = false)
theorem OutIs.start {D : DataW Unit} {f : Int → Option Int} (h : MapIs D f) : OutIs f (Maps.has D) [] := by
  refine ⟨by simp, fun x => ⟨fun hx => by simp at hx, fun ⟨h1, h2⟩ => ?_⟩⟩
  rw [(h.2 x.f0).1, h1] at h2
  cases h2
theorem sameKey_int (a b : Int) : (Lit.int .i64 a).sameKey (.int .i64 b) = decide (a = b) := by
  by_cases e : a = b
  · subst e; simp [Lit.sameKey]
  · rw [Maps.sameKey_ne (int_ne e)]; simp [e]
theorem OutIs.step {f : Int → Option Int} {left : Lit → Bool} {out : List S36} (h : OutIs f left out) {k c : Int} (hl : left (.int .i64 k) = true) (hf : f k = some c) :
    OutIs f (fun z => left z && !z.sameKey (.int .i64 k)) (out ++ [⟨k, c⟩]) := by
  refine ⟨?_, fun x => ?_⟩
  · rw [List.map_append, List.nodup_append]
    refine ⟨h.1, by simp, fun a ha b hb e => ?_⟩
    obtain ⟨y, hy, rfl⟩ := List.mem_map.1 ha
    simp at hb
    have h2 := ((h.2 y).1 hy).2
    rw [e, hb, hl] at h2
    cases h2
  · rw [List.mem_append, h.2 x, List.mem_singleton]
    simp only [sameKey_int]
    by_cases e : x.f0 = k
    · constructor
      · rintro (⟨h1, h2⟩ | rfl)
        · rw [e, hl] at h2; cases h2
        · exact ⟨hf, by simp⟩
      · rintro ⟨h1, _⟩
        right
        obtain ⟨x0, x1⟩ := x
        simp only at e h1
        subst e
        rw [hf] at h1
        injection h1 with h1
        rw [h1]
    · constructor
      · rintro (⟨h1, h2⟩ | rfl)
        · exact ⟨h1, by simp [h2]⟩
        · exact absurd rfl e
      · rintro ⟨h1, h2⟩
        left
        refine ⟨h1, ?_⟩
        simpa [e] using h2
theorem law2 : Maps.Keyed Try.prog 2 := Maps.int_keyed Try.underlying2
theorem zero2 (w : World) : (zeroValue 2).run Try.prog w = .ok (.int .i64 0) w := by kernel_rfl
theorem owns_size {w : World} {b n : Nat} {D : DataW Unit} (h : w.ownsMap Try.prog 2 (plainElem Try.prog 2) b n D) : Maps.size D ≤ n := by
  obtain ⟨es, clock, _, _, hs, rfl⟩ := h
  rw [Maps.size_eq, length_sorted]
  simpa using hs
def wf36 (x : S36) : Prop := (Lit.int .i64 x.f0).wf = true ∧ (Lit.int .i64 x.f1).wf = true
end Go.Proofs.Ytcihpjkjodhdpaa.X
namespace Go.Proofs.Ytcihpjkjodhdpaa.X
set_option linter.unusedVariables false
set_option linter.unusedSimpArgs false
open Go.RowKit Go.Maps Go.Proofs.YtcihpjkjodhdpaaW.PrintWords Go.Proofs.YtcihpjkjodhdpaaW.PrintLast Go.Proofs.YtcihpjkjodhdpaaW.PrintMore
attribute [local go_sem] max2_int min2_int max_two min_two
def RedAt (w wr : World) (nd : Array Value) (kk : Nat) (f : Int → Option Int) : Prop :=
  ∃ D : DataW Unit, wr.ownsMap Try.prog 2 (plainElem Try.prog 2) (w.heap.size + 1) kk D ∧ MapIs D f ∧ wr.heap[w.heap.size]? = some (.cells nd 24 (0, 0)) ∧ Below w.heap.size w wr
theorem RedAt.step {w wr w1 : World} {nd : Array Value} {kk : Nat} {f : Int → Option Int} {D : DataW Unit} {a : Int} {x : S36} {c : Int} {o : Obj} {v : Int}
    (hM : MapIs D f) (hb : wr.heap[w.heap.size]? = some (.cells nd 24 (0, 0))) (hB : Below w.heap.size w wr) (hsz : w.heap.size + 1 < wr.heap.size)
    (hat : D.atKey (.int .i64 x.f0) (.lit (.int .i64 0)) = .lit (.int .i64 c)) (hv : v = redV a (Maps.has D (.int .i64 x.f0)) c x.f1)
    (h1 : w1.ownsMap Try.prog 2 (plainElem Try.prog 2) (w.heap.size + 1) (kk + 1) (D.put (.int .i64 x.f0) (.lit (.int .i64 v)))) (hg : (wr.alloc o).grownBy w1 (some (w.heap.size + 1))) : RedAt w w1 nd (kk + 1) (redStep a f x) := by
  have e : redStep a f x = fun k => if k = x.f0 then some v else f k := by
    funext k
    unfold redStep
    rw [hv, hM.val hat, (hM.2 x.f0).1]
  refine ⟨_, h1, by rw [e]; exact hM.put _ _, ?_, ?_⟩
  · exact (hg.block _ (by simp; omega) (by simp)).trans (blk_alloc hb o)
  · exact (below_alloc hB o).grown hg (by simp; omega) (fun k hk => by injection hk with hk; omega)
theorem R36_other {w w1 : World} {base : Nat} {v : Value} {xs : List S36} (h : Kd.R k36 36 w base (fun _ => True) v xs) {row : Option Nat} (hg : w.grownBy w1 row) (hne : v.ownBlock = none ∨ v.ownBlock ≠ row) : Kd.R k36 36 w1 base (fun _ => True) v xs :=
  ⟨fun _ _ => trivial, (h.2.other hg hne).imp_ (fun p c hp => by rw [k36_openM hp]; exact k36_mkM _ _ _ p)⟩
theorem row_ne_iter' {w : World} {base b r n cnt : Nat} {D : DataW Unit} {left : Lit → Bool} {v : Value} {xs : List S36} (h : Kd.R k36 36 w base (fun _ => True) v xs) (hr : w.ranges Try.prog 2 (plainElem Try.prog 2) b r n D left cnt) : some r ≠ v.ownBlock := by
  obtain ⟨inner, hown⟩ := Kd.R_own h
  exact row_ne_iter hown hr
theorem row_ne_map' {w : World} {base b n : Nat} {D : DataW Unit} {v : Value} {xs : List S36} (h : Kd.R k36 36 w base (fun _ => True) v xs) (hm : w.ownsMap Try.prog 2 (plainElem Try.prog 2) b n D) : some b ≠ v.ownBlock := by
  obtain ⟨inner, hown⟩ := Kd.R_own h
  obtain ⟨es, clock, hb, _⟩ := hm
  intro e
  obtain ⟨cells, hc⟩ := own_typed hown b e.symm
  rw [hb] at hc
  cases hc
theorem wf_mn {a b : Int} (ha : (Lit.int .i64 a).wf = true) (hb : (Lit.int .i64 b).wf = true) : (Lit.int .i64 (if b < a then b else a)).wf = true := by split <;> assumption
theorem wf_mx {a b : Int} (ha : (Lit.int .i64 a).wf = true) (hb : (Lit.int .i64 b).wf = true) : (Lit.int .i64 (if a < b then b else a)).wf = true := by split <;> assumption
set_option maxHeartbeats 2000000 in
set_option maxRecDepth 100000 in
theorem reduces_calls (a0 a1 a2 a3 : Int) (A4 : Option Addr) (n4 c4 : Nat) (A : Option Addr) (c : Nat) (L : List (List S36)) (w : World) (hr : Kd.C (Kd.slice 36 k36) w A L.length L) (h1 : 1 ≤ L.length) (hl : (rd_L2 L 0).length ≤ 1000000) (hwf : ∀ x ∈ rd_L2 L 0, wf36 x) :
    Calls Try.prog 29 #[.agg #[.int .u8 a0, .int .u8 a1, .int .i64 a2, .int .i64 a3, .slice A4 n4 c4], .slice A L.length c] w fun e w' => ∃ v out, e = .returned v ∧ Kd.R k36 36 w' w.heap.size (fun _ => True) v out ∧ Below w.heap.size w w' ∧
      OutIs (redS a1 (rd_L2 L 0)) (fun _ => false) out ∧ out.length ≤ (rd_L2 L 0).length := by
  have HLEN : L.length ≤ 9223372036854775807 := hr.2.1
  obtain ⟨ad, A0, c0, eA, q0, hc0, hr0⟩ := at_L2 hr 0 (by omega) (by omega)
  subst eA
  simp only [Int.toNat_zero] at q0
  have e0 : ad.add 0 = ad := by simp [Addr.add]
  rw [e0] at q0
  clear e0
  have h1z : (0 : Int) < (L.length : Int) := by omega
  generalize rd_L2 L 0 = l at q0 hc0 hr0 hl hwf ⊢
  have HR := Aside0.mk hr0
  have HW := Aside0.mk hwf
  have HLL := Aside0.mk hl
  have HL9 : l.length ≤ 9223372036854775807 := by omega
  have hHB := Aside0.mk (Below.refl w.heap.size w)
  obtain ⟨nd, hnd⟩ : ∃ nd : Array Value, nd = #[.int .u8 a0, .int .u8 a1, .int .i64 a2, .int .i64 a3, .slice A4 n4 c4] := ⟨_, rfl⟩
  have HND := Aside0.mk hnd
  have e1 : (w.alloc (.cells #[.int .u8 a0, .int .u8 a1, .int .i64 a2, .int .i64 a3, .slice A4 n4 c4] 24)).heap.size = w.heap.size + 1 := by simp
  have HS0 : Aside0 (RedAt w ((w.alloc (.cells #[.int .u8 a0, .int .u8 a1, .int .i64 a2, .int .i64 a3, .slice A4 n4 c4] 24)).alloc (.map #[] 0)) nd 0 (redS a1 (l.take 0))) :=
    ⟨.map [], e1 ▸ World.ownsMap_made _ _ _ _, MapIs.start, blk_alloc (by rw [hnd]; simpa using heap_alloc_last w _) _, below_alloc (below_alloc hHB.out _) _⟩
  have HSZ0 : w.heap.size + 1 < ((w.alloc (.cells #[.int .u8 a0, .int .u8 a1, .int .i64 a2, .int .i64 a3, .slice A4 n4 c4] 24)).alloc (.map #[] 0)).heap.size := by simp
  have q1 := ((below_alloc (below_alloc hHB.out (.cells #[.int .u8 a0, .int .u8 a1, .int .i64 a2, .int .i64 a3, .slice A4 n4 c4] 24)) (.map #[] 0)).cell (World.block_lt_of_cell? w _ q0)).trans q0
  have hmm := @run_makeMap Try.prog
  clear hr hr0 hl hwf hc0 q0 hnd e1
  go_enter Try.func29, Try.ntmps29
  go_wp2
  go_loopg [18] l.length (fun gg v18 wr => ∃ kk : Nat, kk ≤ l.length ∧ l.length - kk ≤ gg ∧ v18 = .int .i64 kk ∧ Aside0 (RedAt w wr nd kk (redS a1 (l.take kk))) ∧ w.heap.size + 1 < wr.heap.size)
  case atStart => exact ⟨0, Nat.zero_le _, by omega, rfl, HS0, HSZ0⟩
  case round =>
    clear HS0 HSZ0 q1
    obtain ⟨kk, hkk, hg, rfl, HAT, hsz⟩ := hrel
    by_cases hlt : kk < l.length
    · have hltz : (kk : Int) < (l.length : Int) := by omega
      obtain ⟨D, hown, hM, hb, hB⟩ := HAT.out
      clear HAT
      obtain ⟨ad2, eA, q0, q1⟩ := at_T36 (Kd.C_below HR.out hB) (kk : Int) (by omega) hltz
      simp only [Int.toNat_natCast] at q0 q1
      have hx : l[kk]? = some (rd_T36 l (kk : Int)) := by simp [rd_T36, List.getD_eq_getElem?_getD, hlt]
      have hs := redS_take a1 l kk _ hx
      have hwx := HW.out _ (List.mem_of_getElem? hx)
      generalize rd_T36 l (kk : Int) = x at q0 q1 hs hwx
      have HST := Aside0.mk hs
      have HB := Aside0.mk hB
      have HM := Aside0.mk hM
      have HBX := Aside0.mk hb
      have HOWN := Aside0.mk hown
      have hkey : keyOf Try.prog 2 (.int .i64 x.f0) = some (.int .i64 x.f0) := Maps.keyOf_int_mk Try.underlying2 hwx.1
      have HWX := Aside0.mk hwx
      have hca : wr.cell? ⟨w.heap.size, 1, none⟩ = some (.int .u8 a1) := by rw [blk_cell hb 1, HND.out]; rfl
      clear hs hx hB hM hb hown hwx
      subst eA
      obtain ⟨x0, x1⟩ := x
      simp only at q0 q1 hkey
      have hcA := pw_cell_below (below_alloc (Below.refl wr.heap.size wr) (.cells #[.int .i64 x0, .int .i64 x1] 36)) hca
      clear hca
      obtain ⟨ok, hok⟩ : ∃ ok, ok = Maps.has D (.int .i64 x0) := ⟨_, rfl⟩
      have HOK := Aside0.mk hok
      have hok' := hok.symm
      clear hok
      by_cases k1 : a1 = 1
      · subst k1
        go_wp2_with (first | (at_lookup; refine wpList_lookup_own_ok_int _ rfl _ _ 73 rfl 2 2 .i64 law2 Try.underlying73 Try.underlying2 (zero2 _) (w.heap.size + 1) kk D rfl (HOWN.out.alloc _) _ _ rfl hkey ?_; rw [← HOK.out]; intro c hat hwc; have HAT := Aside0.mk hat; have HWC := Aside0.mk hwc; clear hat hwc) | (at_mapUpdate; refine wpList_mapUpdate_own _ rfl _ _ _ 73 rfl 2 2 law2 Try.underlying73 _ (w.heap.size + 1) kk D rfl (HOWN.out.alloc _) (by unfold maxLen; omega) _ _ _ rfl rfl hkey _ [] (plainElem_int Try.underlying2 (wrap64_wf _)) ?_; intro w1 hown1 hgrow1; have HOWN1 := Aside0.mk hown1; have HGR := Aside0.mk hgrow1; clear hown1 hgrow1))
        go_roundg (l.length - (kk + 1))
        case measure => omega
        case rel => exact ⟨kk + 1, by omega, by omega, by go_num, ⟨by rw [HST.out]; exact RedAt.step (x := ⟨x0, x1⟩) HM.out HBX.out HB.out hsz HAT.out (by rw [← HOK.out]; simp [redV]) HOWN1.out HGR.out⟩, by have := HGR.out.size; simp at this; omega⟩
      have b1 : (a1 == 1) = false := beq_eq_false_iff_ne.2 k1
      have K1 := Aside0.mk k1
      clear k1
      cases ok with
      | false =>
        go_wp2_with (first | (at_lookup; refine wpList_lookup_own_ok_int _ rfl _ _ 73 rfl 2 2 .i64 law2 Try.underlying73 Try.underlying2 (zero2 _) (w.heap.size + 1) kk D rfl (HOWN.out.alloc _) _ _ rfl hkey ?_; rw [← HOK.out]; intro c hat hwc; have HAT := Aside0.mk hat; have HWC := Aside0.mk hwc; clear hat hwc) | (at_mapUpdate; refine wpList_mapUpdate_own _ rfl _ _ _ 73 rfl 2 2 law2 Try.underlying73 _ (w.heap.size + 1) kk D rfl (HOWN.out.alloc _) (by unfold maxLen; omega) _ _ _ rfl rfl hkey _ [] (plainElem_int Try.underlying2 HWX.out.2) ?_; intro w1 hown1 hgrow1; have HOWN1 := Aside0.mk hown1; have HGR := Aside0.mk hgrow1; clear hown1 hgrow1))
        go_roundg (l.length - (kk + 1))
        case measure => omega
        case rel => exact ⟨kk + 1, by omega, by omega, by go_num, ⟨by rw [HST.out]; exact RedAt.step (x := ⟨x0, x1⟩) HM.out HBX.out HB.out hsz HAT.out (by rw [← HOK.out]; simp [redV, K1.out]) HOWN1.out HGR.out⟩, by have := HGR.out.size; simp at this; omega⟩
      | true =>
        by_cases k0 : a1 = 0
        · subst k0
          go_wp2_with (first | (at_lookup; refine wpList_lookup_own_ok_int _ rfl _ _ 73 rfl 2 2 .i64 law2 Try.underlying73 Try.underlying2 (zero2 _) (w.heap.size + 1) kk D rfl (HOWN.out.alloc _) _ _ rfl hkey ?_; rw [← HOK.out]; intro c hat hwc; have HAT := Aside0.mk hat; have HWC := Aside0.mk hwc; clear hat hwc) | (at_mapUpdate; refine wpList_mapUpdate_own _ rfl _ _ _ 73 rfl 2 2 law2 Try.underlying73 _ (w.heap.size + 1) kk D rfl (HOWN.out.alloc _) (by unfold maxLen; omega) _ _ _ rfl rfl hkey _ [] (plainElem_int Try.underlying2 (wrap64_wf _)) ?_; intro w1 hown1 hgrow1; have HOWN1 := Aside0.mk hown1; have HGR := Aside0.mk hgrow1; clear hown1 hgrow1))
          go_roundg (l.length - (kk + 1))
          case measure => omega
          case rel => exact ⟨kk + 1, by omega, by omega, by go_num, ⟨by rw [HST.out]; exact RedAt.step (x := ⟨x0, x1⟩) HM.out HBX.out HB.out hsz HAT.out (by rw [← HOK.out]; simp [redV]) HOWN1.out HGR.out⟩, by have := HGR.out.size; simp at this; omega⟩
        have b0 : (a1 == 0) = false := beq_eq_false_iff_ne.2 k0
        have K0 := Aside0.mk k0
        clear k0
        by_cases k2 : a1 = 2
        · subst k2
          go_wp2_with (first | (at_lookup; refine wpList_lookup_own_ok_int _ rfl _ _ 73 rfl 2 2 .i64 law2 Try.underlying73 Try.underlying2 (zero2 _) (w.heap.size + 1) kk D rfl (HOWN.out.alloc _) _ _ rfl hkey ?_; rw [← HOK.out]; intro c hat hwc; have HAT := Aside0.mk hat; have HWC := Aside0.mk hwc; clear hat hwc) | (at_mapUpdate; refine wpList_mapUpdate_own _ rfl _ _ _ 73 rfl 2 2 law2 Try.underlying73 _ (w.heap.size + 1) kk D rfl (HOWN.out.alloc _) (by unfold maxLen; omega) _ _ _ rfl rfl hkey _ [] (plainElem_int Try.underlying2 (wf_mn HWC.out HWX.out.2)) ?_; intro w1 hown1 hgrow1; have HOWN1 := Aside0.mk hown1; have HGR := Aside0.mk hgrow1; clear hown1 hgrow1))
          all_goals go_roundg (l.length - (kk + 1))
          all_goals first | omega | exact ⟨kk + 1, by omega, by omega, by go_num, ⟨by rw [HST.out]; exact RedAt.step (x := ⟨x0, x1⟩) HM.out HBX.out HB.out hsz HAT.out (by rw [← HOK.out]; simp [redV, mn]) HOWN1.out HGR.out⟩, by have := HGR.out.size; simp at this; omega⟩
        have b2 : (a1 == 2) = false := beq_eq_false_iff_ne.2 k2
        have K2 := Aside0.mk k2
        clear k2
        go_wp2_with (first | (at_lookup; refine wpList_lookup_own_ok_int _ rfl _ _ 73 rfl 2 2 .i64 law2 Try.underlying73 Try.underlying2 (zero2 _) (w.heap.size + 1) kk D rfl (HOWN.out.alloc _) _ _ rfl hkey ?_; rw [← HOK.out]; intro c hat hwc; have HAT := Aside0.mk hat; have HWC := Aside0.mk hwc; clear hat hwc) | (at_mapUpdate; refine wpList_mapUpdate_own _ rfl _ _ _ 73 rfl 2 2 law2 Try.underlying73 _ (w.heap.size + 1) kk D rfl (HOWN.out.alloc _) (by unfold maxLen; omega) _ _ _ rfl rfl hkey _ [] (plainElem_int Try.underlying2 (wf_mx HWC.out HWX.out.2)) ?_; intro w1 hown1 hgrow1; have HOWN1 := Aside0.mk hown1; have HGR := Aside0.mk hgrow1; clear hown1 hgrow1))
        all_goals go_roundg (l.length - (kk + 1))
        all_goals first | omega | exact ⟨kk + 1, by omega, by omega, by go_num, ⟨by rw [HST.out]; exact RedAt.step (x := ⟨x0, x1⟩) HM.out HBX.out HB.out hsz HAT.out (by rw [← HOK.out]; simp [redV, mx, K0.out, K1.out, K2.out]) HOWN1.out HGR.out⟩, by have := HGR.out.size; simp at this; omega⟩
    · have hk : kk = l.length := by omega
      have hltz : ¬ (kk : Int) < (l.length : Int) := by omega
      obtain ⟨D, hown, hM, hb, hB⟩ := HAT.out
      rw [hk, List.take_length] at hM
      rw [hk] at hown
      clear HAT hk hb
      have HB := Aside0.mk hB
      have HM := Aside0.mk hM
      have HOWN := Aside0.mk hown
      have HSD := Aside0.mk (owns_size hown)
      clear hB hM hown
      go_wp2_with (at_range; refine wpList_range_own _ rfl _ 73 rfl 2 2 law2 Try.underlying73 _ (w.heap.size + 1) l.length _ rfl HOWN.out ?_; intro w0 hrg0 hg0 hs0; have HRG0 := Aside0.mk hrg0; have HG0 := Aside0.mk hg0; clear hrg0 hg0)
      try go_frame
      obtain ⟨wo, rfl⟩ : ∃ wo : World, wo = wr := ⟨_, rfl⟩
      go_loopg [10] l.length (fun gg v10 wr2 => ∃ (left : Lit → Bool) (cnt : Nat) (out : List S36), cnt ≤ gg ∧ out.length + cnt ≤ l.length ∧ Aside0 (wr2.ranges Try.prog 2 (plainElem Try.prog 2) (w.heap.size + 1) wo.heap.size l.length D left cnt) ∧ Aside0 (Kd.R k36 36 wr2 w.heap.size (fun _ => True) v10 out) ∧ Aside0 (OutIs (redS a1 l) left out) ∧ Aside0 (Below w.heap.size w wr2))
      case atStart => exact ⟨_, _, [], HSD.out, by simpa using HSD.out, HRG0, ⟨Kd.R_nil _ _ _ _ _⟩, ⟨OutIs.start HM.out⟩, ⟨HB.out.grown HG0.out HB.out.size (fun k hk => by cases hk)⟩⟩
      case round =>
        clear HRG0 HG0 HB
        obtain ⟨left, cnt, out, hcg, hcl, HRG, HO, HOUT, HB⟩ := hrel
        go_wp2_with (first
          | (at_next; refine wpList_next_ranges_ii _ rfl _ rfl 2 2 .i64 .i64 law2 Try.underlying2 Try.underlying2 (w.heap.size + 1) wo.heap.size l.length _ _ _ rfl HRG.out ?_ ?_)
          | go_in)
        · intro hc0 hl0
          have HL0 := Aside0.mk hl0
          have hcl2 : out.length ≤ l.length := by omega
          clear hl0 hcl
          go_wp2
          go_ret
          refine ⟨_, out, rfl, HO.out, HB.out, ?_, hcl2⟩
          have e : left = fun _ => false := funext HL0.out
          have h := HOUT.out
          rw [e] at h
          exact h
        · intro x c w1 cnt1 hwx hwc hlx hat hrg1 hlt1 hg1 hs1 hen
          have HST := Aside0.mk (HOUT.out.step hlx (HM.out.there hat))
          have HO1 := Aside0.mk (R36_other HO.out hg1 (.inr (row_ne_iter' HO.out HRG.out).symm))
          have HB1 := Aside0.mk (HB.out.grown hg1 HB.out.size (fun k hk => by injection hk with hk; omega))
          have HRG1 := Aside0.mk hrg1
          have hcl2 : (out.length + 1) + cnt1 ≤ l.length := by omega
          have HAL := Aside0.mk (show (out.length + 1) * 16 ≤ 140737488355328 by have := HLL.out; omega)
          clear HO HB HRG HOUT hat hrg1 hg1 hlx hcl hs1
          go_wp2_with ((with_reducible refine gate_builtin (b := .append) (xs := #[.tmp 83, .tmp 87]) rfl ?_); at_builtin; refine Kd.R_append k36 (w0 := w) w.heap.size rfl (.tmp 83) (.tmp 87) 28 36 (.agg #[(.int .i64 0), (.int .i64 0)]) 16 rfl Try.underlying28 info36 rfl (by decide) (by omega) _ out (⟨x, c⟩ : S36) [.int .i64 x, .int .i64 c] (fun _ => True) (fun _ => False) rfl rfl ?aP (fun _ hk => hk.elim) ?aF ?aO ?aB ?aS ?aL ?_; (case aP => exact k36_mkM _ _ _ (⟨x, c⟩ : S36)); (case aB => exact HB1.out); (case aF => exact (fun _ _ => trivial)); (case aO => exact HO1.out); (case aS => exact (below_size HB1.out)); (case aL => exact HAL.out); intro v115 w13 ho hb hg hat2; have HB2 := Aside0.mk hb; have HO2 := Aside0.mk ho; have HG2 := Aside0.mk hg; clear ho hb hg hat2)
          go_roundg cnt1
          case measure => omega
          case rel => exact ⟨_, cnt1, out ++ [⟨x, c⟩], Nat.le_refl _, by simpa using hcl2, ⟨HRG1.out.kept HG2.out (row_ne_map' HO1.out HRG1.out.owns) (row_ne_iter' HO1.out HRG1.out)⟩, HO2, HST, HB2⟩
end Go.Proofs.Ytcihpjkjodhdpaa.X
namespace Go.Proofs.Ytcihpjkjodhdpaa.X
set_option linter.unusedVariables false
set_option linter.unusedSimpArgs false
open Go.ChangeShapes
open Go.RowKit Go.Maps Go.MapKept Go.Proofs.YtcihpjkjodhdpaaW.PrintWords Go.Proofs.YtcihpjkjodhdpaaW.PrintLast Go.Proofs.YtcihpjkjodhdpaaW.PrintMore
open Go.WideElems (Fit rd rg pl rd_val rd_key)
def grp (l : List S36) (key : Int) : List Int := (l.filter fun x => x.f0 == key).map S36.f1
def joinL (a b : List S36) : List S36 := a.flatMap fun r => (grp b r.f0).map fun v => ⟨r.f0, wrap64 (r.f1 + v)⟩
theorem grp_take (l : List S36) (k : Nat) (x : S36) (h : l[k]? = some x) : grp (l.take (k + 1)) = fun key => if key = x.f0 then grp (l.take k) x.f0 ++ [x.f1] else grp (l.take k) key := by
  funext key
  unfold grp
  rw [List.take_add_one, h]
  simp only [Option.toList_some, List.filter_append, List.map_append]
  by_cases e : key = x.f0
  · subst e
    simp [List.filter]
  · have e2 : (x.f0 == key) = false := beq_eq_false_iff_ne.2 (fun h => e h.symm)
    simp [List.filter, e2, e]
theorem grp_length (l : List S36) (key : Int) : (grp l key).length ≤ l.length := by
  unfold grp
  rw [List.length_map]
  exact List.length_filter_le _ _
theorem joinL_take (a b : List S36) (k : Nat) (x : S36) (h : a[k]? = some x) : joinL (a.take (k + 1)) b = joinL (a.take k) b ++ (grp b x.f0).map fun v => ⟨x.f0, wrap64 (x.f1 + v)⟩ := by
  unfold joinL
  rw [List.take_add_one, h]
  simp
theorem joinL_length (a b : List S36) : (joinL a b).length ≤ a.length * b.length := by
  induction a with
  | nil => simp [joinL]
  | cons x r ih =>
    unfold joinL at *
    rw [List.flatMap_cons, List.length_append, List.length_map, List.length_cons, Nat.add_mul, Nat.one_mul]
    have := grp_length b x.f0
    omega
def GroupIs (D : DataW Unit) (f : Int → List Int) : Prop :=
  Maps.IsMap D ∧ ∀ k, (f k = [] → D.atKey (.int .i64 k) .nil = .nil) ∧ (f k ≠ [] → D.atKey (.int .i64 k) .nil = .slice (lits .i64 (f k)) [])
theorem GroupIs.start : GroupIs (.map []) (fun _ => []) := ⟨Maps.isMap_empty, fun k => ⟨fun _ => rfl, fun h => absurd rfl h⟩⟩
theorem lits_inj {q : IntKind} {a b : List Int} (h : (lits q a : List (DataW Unit)) = lits q b) : a = b := by
  unfold lits at h
  exact (List.map_inj_right (fun x y e => by simpa using e)).1 h
theorem GroupIs.val {D : DataW Unit} {f : Int → List Int} (h : GroupIs D f) {k : Int} {w : World} {base : Nat} {v : Value} {zs : List Int} (hat : D.atKey (.int .i64 k) .nil = rowDatum .i64 v zs) (ho : w.ownsInts base 2 .i64 v zs) : zs = f k := by
  by_cases e : f k = []
  · rw [(h.2 k).1 e] at hat
    rw [e]
    rcases ho.datum (H := Unit) with ⟨_, h2⟩ | h2
    · exact h2
    · rw [h2] at hat; cases hat
  · rw [(h.2 k).2 e] at hat
    rcases ho.datum (H := Unit) with ⟨h1, _⟩ | h2
    · rw [h1] at hat; cases hat
    · rw [h2] at hat
      injection hat with h3 _
      exact (lits_inj h3).symm
theorem GroupIs.put {D : DataW Unit} {f : Int → List Int} (h : GroupIs D f) (k0 : Int) {w : World} {base : Nat} {v : Value} {zs : List Int} (ho : w.ownsInts base 2 .i64 v zs) (hne : zs ≠ []) :
    GroupIs (D.put (.int .i64 k0) (rowDatum .i64 v zs)) (fun k => if k = k0 then zs else f k) := by
  rw [ho.datum_pos hne]
  refine ⟨h.1.put _ _, fun k => ?_⟩
  by_cases e : k = k0
  · subst e
    rw [Maps.atKey_put_same (k := .int .i64 k) h.1 trivial]
    simp [hne]
  · rw [Maps.atKey_put_other (int_ne e)]
    simp only [e, if_false]
    exact h.2 k
theorem zero76 (w : World) : (zeroValue 76).run Try.prog w = .ok (.slice none 0 0) w := by kernel_rfl
theorem info2 : (Try.prog.info? 2).map (fun i => (i.zero, i.size, i.bytes)) = some (some (.int .i64 0), 1, 8) := by kernel_rfl
theorem look_stays {w : World} {b : Nat} {es : Array MapEntry} {clock : Nat} (hb : w.heap[b]? = some (.map es clock)) (hk : ∀ x ∈ es.toList, ∃ k, x.key = .int .i64 k) (k0 : Int) :
    ∃ v, ∀ W : World, W.heap[b]? = w.heap[b]? → (Instr.lookup 75 (.map (some b)) (.int .i64 k0) false).run Try.prog W = .ok v W := by
  have hkk : ∀ x ∈ es.toList, IsKey (.int .i64) x.key := fun x hx => by
    obtain ⟨k, e⟩ := hk x hx
    rw [e]
    simp [IsKey]
  have hc : ∀ W : World, (Instr.checkKey es.isEmpty 10000 2 (.int .i64 k0)).run Try.prog W = .ok () W := fun W => MapKept.run_checkKey (k := .int .i64 k0) Try.underlying2 (by simp [MapKept.IsKey]) _ 9999
  rcases findNow_spec (d := .int .i64) (k := .int .i64 k0) (by simp [IsKey]) es.toList 0 hkk with ⟨h1, _⟩ | ⟨j, e, h1, _⟩
  · refine ⟨.slice none 0 0, fun W hW => ?_⟩
    rw [hb] at hW
    simp [Instr.lookup, run_underlying Try.underlying75, MapKept.run_getObj_map hW, hc, MapKept.run_findKey Try.underlying2 h1, Result.andThen, zero76]
  · refine ⟨e.val, fun W hW => ?_⟩
    rw [hb] at hW
    simp [Instr.lookup, run_underlying Try.underlying75, MapKept.run_getObj_map hW, hc, MapKept.run_findKey Try.underlying2 h1, Result.andThen]
theorem look_groups {w : World} {b n base : Nat} {D : DataW Unit} (h : w.ownsGroups Try.prog 2 base 2 .i64 b n D) (hn : n < maxLen) {k0 : Int} (hkey : keyOf Try.prog 2 (.int .i64 k0) = some (.int .i64 k0)) :
    ∃ v zs, (∀ W : World, W.heap[b]? = w.heap[b]? → (Instr.lookup 75 (.map (some b)) (.int .i64 k0) false).run Try.prog W = .ok v W) ∧ D.atKey (.int .i64 k0) .nil = rowDatum .i64 v zs ∧ w.ownsInts base 2 .i64 v zs ∧ zs.length ≤ n ∧
      w.groupBack Try.prog 75 2 base 2 .i64 b n D (.int .i64 k0) (.int .i64 k0) v := by
  obtain ⟨v, zs, hrun, hat, ho, hl, hback⟩ := h.at law2 Try.underlying75 (zero76 w) hn hkey
  obtain ⟨es, clock, hb, F, _⟩ := h
  have hk : ∀ x ∈ es.toList, ∃ k, x.key = .int .i64 k := fun x hx => by
    obtain ⟨y, hy⟩ := F.reads x hx
    obtain ⟨k, e, _⟩ := Maps.keyOf_int_inv Try.underlying2 (rd_key hy)
    exact ⟨k, e⟩
  obtain ⟨v', hv'⟩ := look_stays hb hk k0
  have e := hv' w rfl
  rw [hrun] at e
  injection e with e1 _
  subst e1
  exact ⟨v, zs, hv', hat, ho, hl, hback⟩
theorem groups_keep {w w1 : World} {b n base : Nat} {D : DataW Unit} (h : w.ownsGroups Try.prog 2 base 2 .i64 b n D) (hg : w.grownBy w1 none) : w1.ownsGroups Try.prog 2 base 2 .i64 b n D :=
  h.kept hg (by simp) (fun _ _ _ x hx => by cases x.val.ownBlock <;> simp)
theorem groups_drew {w : World} {b n base : Nat} {D : DataW Unit} (h : w.ownsGroups Try.prog 2 base 2 .i64 b n D) : w.drew.ownsGroups Try.prog 2 base 2 .i64 b n D := h
theorem groups_other {w w1 : World} {b n base base2 : Nat} {ok : Nat → Prop} {D : DataW Unit} {v : Value} {xs : List S36} (h : w.ownsGroups Try.prog 2 base 2 .i64 b n D) (hr : Kd.R k36 36 w base2 ok v xs) (hg : w.grownBy w1 v.ownBlock) : w1.ownsGroups Try.prog 2 base 2 .i64 b n D := by
  obtain ⟨inner, hown⟩ := Kd.R_own hr
  refine h.kept hg (fun e => ?_) (fun es clock hb x hx => ?_)
  · obtain ⟨es, clock, hb, _⟩ := h
    obtain ⟨cells, hc⟩ := own_typed hown b e.symm
    rw [hb] at hc
    cases hc
  · obtain ⟨es', clock', hb', F, _⟩ := h
    obtain ⟨rfl, rfl⟩ : es' = es ∧ clock' = clock := by rw [hb'] at hb; simpa using hb
    obtain ⟨y, hy⟩ := F.reads x hx
    obtain ⟨z, hz, _⟩ := rd_val hy
    obtain ⟨ys, ho, _⟩ := rowElem_inv hz
    exact own_type_ne ho.1 hown (by decide)
theorem ints_other {w w1 : World} {base base2 : Nat} {ok : Nat → Prop} {v u : Value} {zs : List Int} {xs : List S36} (h : w.ownsInts base 2 .i64 u zs) (hr : Kd.R k36 36 w base2 ok v xs) (hg : w.grownBy w1 v.ownBlock) : w1.ownsInts base 2 .i64 u zs := by
  obtain ⟨inner, hown⟩ := Kd.R_own hr
  exact h.kept hg (own_type_ne h.1 hown (by decide))
end Go.Proofs.Ytcihpjkjodhdpaa.X
namespace Go.Proofs.Ytcihpjkjodhdpaa.X
set_option linter.unusedVariables false
set_option linter.unusedSimpArgs false
open Go.RowKit Go.Maps Go.Proofs.YtcihpjkjodhdpaaW.PrintWords Go.Proofs.YtcihpjkjodhdpaaW.PrintLast Go.Proofs.YtcihpjkjodhdpaaW.PrintMore
def joins.T5 : Bool × List (List Nat × List Nat) := (true, [([], []), ([], []), ([1], [1]), ([], []), ([], []), ([4], [4]), ([3, 5], [3, 5]), ([], []), ([7], [7]), ([8], [8]), ([6, 9], [6, 9]), ([0, 2, 10, 10, 0, 1, 2, 3, 4, 5, 6, 7, 8, 9, 10], [0, 2, 10])])
def joins.B5 : List Nat := [0, 0, 2, 0, 0, 16, 56, 0, 128, 384, 1016, 2047]
theorem joins.tab5 : rtab .any (opsOf Try.f30 5) = joins.T5 := by kernel_rfl
theorem joins.bits5 : waitsOk joins.T5.2 joins.B5 = true := by kernel_rfl
theorem spot_none {W : World} {ab ao : Nat} {asp : Option Nat} {v : Value} (h : W.cell? ⟨ab, ao, asp⟩ = some v) : asp = none := by
  cases asp with
  | none => rfl
  | some s => simp [World.cell?] at h; split at h <;> simp at h
section
variable {P : Program} {ops : Array Oper} {Q : Exit → Act → World → Prop}
theorem append_value {oi : Oper} {N : Option Tmp} {a : Act} {w w1 : World} {v' : Value} {K : Act → World → Prop} (s x : Operand) (t : TypeId) (vs vx : Value) (hw : Region.wanted oi (yielded ops a.tmps) = true) (hN : oi.dst = N)
    (ho : oi.op = .call { callee := .builtin .append, args := #[s, x], argTypes := #[t, t] }) (hs : a.eval s = vs) (hx : a.eval x = vx) (hr : (Builtin.append_ #[t, t] oi.type #[vs, vx]).run P w = .ok v' w1) (h : K (a.put N v') w1) :
    if Region.wanted oi (yielded ops a.tmps) = true then Oper.wp P oi a w K Q else K (a.put N undef) w := by
  refine value_ hw hN ?_ h
  unfold execOp
  simp only [ho, resolve, invoke, builtin, Sem.run_bind, Sem.run_pure, Result.andThen_ok, List.map_toArray, List.map_cons, List.map_nil, hs, hx, hr]
theorem store_skip {oi : Oper} {a : Act} {w w1 : World} {K : Act → World → Prop} (m x v : Operand) (t : TypeId) (vm vx vv : Value) (hw : Region.wanted oi (yielded ops a.tmps) = true) (hN : oi.dst = none)
    (ho : oi.op = Op.mapUpdate t m x v) (hm : a.eval m = vm) (hx : a.eval x = vx) (hv : a.eval v = vv) (hr : (Instr.mapUpdate t vm vx vv).run P w = .ok () w1) (h : K a w1) :
    if Region.wanted oi (yielded ops a.tmps) = true then Oper.wp P oi a w K Q else K (a.put none undef) w := by
  refine skip_ hw hN ?_ h
  simp [execOp, ho, hm, hx, hv, hr, Result.andThen]
end
theorem blk_same {W : World} {b : Nat} {o : Obj} (h : W.heap[b]? = some o) (o' : Obj) : (W.alloc o').heap[b]? = W.heap[b]? := by rw [blk_alloc h o', h]
set_option maxHeartbeats 4000000 in
set_option maxRecDepth 100000 in
theorem joins_calls (a0 a1 a2 a3 : Int) (A4 : Option Addr) (n4 c4 : Nat) (A : Option Addr) (c : Nat) (L : List (List S36)) (w : World) (hr : Kd.C (Kd.slice 36 k36) w A L.length L) (h1 : 2 ≤ L.length) (hl0 : (rd_L2 L 0).length ≤ 1000) (hl1 : (rd_L2 L 1).length ≤ 1000) (hwf0 : ∀ x ∈ rd_L2 L 0, wf36 x) (hwf : ∀ x ∈ rd_L2 L 1, wf36 x) :
    Calls Try.prog 30 #[.agg #[.int .u8 a0, .int .u8 a1, .int .i64 a2, .int .i64 a3, .slice A4 n4 c4], .slice A L.length c] w fun e w' => ∃ v, e = .returned v ∧ Kd.R k36 36 w' w.heap.size (fun _ => True) v (joinL (rd_L2 L 0) (rd_L2 L 1)) ∧ Below w.heap.size w w' := by
  have HLEN : L.length ≤ 9223372036854775807 := hr.2.1
  obtain ⟨ad, A0, c0, eA, q0, hc0, hr0⟩ := at_L2 hr 0 (by omega) (by omega)
  obtain ⟨ad', A1, c1, eA', q1, hc1, hr1⟩ := at_L2 hr 1 (by omega) (by omega)
  subst eA
  injection eA' with eA'
  subst eA'
  simp only [Int.toNat_zero, Int.toNat_one] at q0 q1
  have e0 : ad.add 0 = ad := by simp [Addr.add]
  rw [e0] at q0
  clear e0
  obtain ⟨ab, ao, asp⟩ := ad
  obtain rfl := spot_none q0
  have e1 : (⟨ab, ao, none⟩ : Addr).add 1 = ⟨ab, ao + 1, none⟩ := by simp [Addr.add]
  rw [e1] at q1
  clear e1
  have h1z : (1 : Int) < (L.length : Int) := by omega
  have h0z : (0 : Int) < (L.length : Int) := by omega
  generalize rd_L2 L 0 = a at q0 hc0 hr0 hl0 hwf0 ⊢
  generalize rd_L2 L 1 = l at q1 hc1 hr1 hl1 hwf ⊢
  have HR0 := Aside0.mk hr0
  have HR := Aside0.mk hr1
  have HW := Aside0.mk hwf
  have HW0 := Aside0.mk hwf0
  have HLL := Aside0.mk hl1
  have HLL0 := Aside0.mk hl0
  have HL9 : l.length ≤ 9223372036854775807 := by omega
  have HL90 : a.length ≤ 9223372036854775807 := by omega
  have hHB := Aside0.mk (Below.refl w.heap.size w)
  obtain ⟨i0, hi, hz0, hz1, hz2⟩ := info_parts info2
  obtain ⟨bx, hbx⟩ : ∃ bx : Obj, bx = .cells #[.int .u8 a0, .int .u8 a1, .int .i64 a2, .int .i64 a3, .slice A4 n4 c4] 24 := ⟨_, rfl⟩
  have hS : ((w.alloc bx).alloc (.map #[] 0)).ownsGroups Try.prog 2 (w.heap.size + 2) 2 .i64 (w.heap.size + 1) 0 (.map [] : DataW Unit) := by
    have h := World.ownsGroups_made (H := Unit) (w.alloc bx) Try.prog 2 2 .i64
    simpa using h
  have hB0 := below_alloc (below_alloc hHB.out bx) (.map #[] 0)
  have q0' := (hB0.cell (World.block_lt_of_cell? w _ q0)).trans q0
  have q1' := (hB0.cell (World.block_lt_of_cell? w _ q1)).trans q1
  have HQ0 := Aside0.mk q0
  subst hbx
  have HS := Aside0.mk hS
  have HB0 := Aside0.mk hB0
  have hmm := @run_makeMap Try.prog
  clear hr hr0 hr1 hl0 hl1 hwf hwf0 hc0 hc1 q0 q1 hS hB0
  go_enter Try.func30, Try.ntmps30
  go_wp2
  go_loopg [18] l.length (fun gg v18 wr => ∃ (kk : Nat) (D : DataW Unit), kk ≤ l.length ∧ l.length - kk ≤ gg ∧ v18 = .int .i64 kk ∧ Aside0 (wr.ownsGroups Try.prog 2 (w.heap.size + 2) 2 .i64 (w.heap.size + 1) kk D) ∧ Aside0 (GroupIs D (grp (l.take kk))) ∧ Aside0 (Below w.heap.size w wr) ∧ Aside0 (w.heap.size + 2 ≤ wr.heap.size))
  case atStart => exact ⟨0, .map [], Nat.zero_le _, by omega, rfl, HS, ⟨GroupIs.start⟩, HB0, ⟨by simp⟩⟩
  case round =>
    clear HS HB0 q0' q1'
    obtain ⟨kk, D, hkk, hg, rfl, HOWN, HG, HB, HSZ0⟩ := hrel
    by_cases hlt : kk < l.length
    · have hltz : (kk : Int) < (l.length : Int) := by omega
      obtain ⟨ad2, eA, q0, q1⟩ := at_T36 (Kd.C_below HR.out HB.out) (kk : Int) (by omega) hltz
      simp only [Int.toNat_natCast] at q0 q1
      have hx : l[kk]? = some (rd_T36 l (kk : Int)) := by simp [rd_T36, List.getD_eq_getElem?_getD, hlt]
      have hs := grp_take l kk _ hx
      have hwx := HW.out _ (List.mem_of_getElem? hx)
      generalize rd_T36 l (kk : Int) = x at q0 q1 hs hwx
      have HST := Aside0.mk hs
      have HWX := Aside0.mk hwx
      clear hs hx hwx
      subst eA
      obtain ⟨x0, x1⟩ := x
      simp only at q0 q1 HST HWX
      have hkey : keyOf Try.prog 2 (.int .i64 x0) = some (.int .i64 x0) := Maps.keyOf_int_mk Try.underlying2 HWX.out.1
      have hG0 := (World.grownBy_alloc wr (.cells #[.int .i64 x0, .int .i64 x1] 36) none)
      have hown := groups_drew (groups_keep HOWN.out hG0)
      obtain ⟨v, zs, hlk, hat, hoi, hzl, hback⟩ := look_groups hown (by have := HLL.out; unfold maxLen; omega) hkey
      have hzs := HG.out.val hat hoi
      have HZS := Aside0.mk hzs
      have HOI := Aside0.mk hoi
      have HZL := Aside0.mk hzl
      have HBACK := Aside0.mk hback
      have HLK := Aside0.mk hlk
      have HSZ := Aside0.mk (show w.heap.size + 2 ≤ (wr.alloc (.cells #[.int .i64 x0, .int .i64 x1] 36)).drew.heap.size from by have := HSZ0.out; simp; omega)
      have HG0 := Aside0.mk (show wr.grownBy (wr.alloc (.cells #[.int .i64 x0, .int .i64 x1] 36)).drew none from ⟨hG0.os, hG0.tape, hG0.output, hG0.size, hG0.block⟩)
      obtain ⟨es, clock, hbl, _⟩ := hown
      have HBLK := Aside0.mk hbl
      have HBOX := Aside0.mk (show (wr.alloc (.cells #[.int .i64 x0, .int .i64 x1] 36)).drew.heap[wr.heap.size]? = some (.cells #[.int .i64 x0, .int .i64 x1] 36 (0, 0)) from blk_new wr _)
      have hS0 : (fun W => W.cell? ⟨wr.heap.size, 0, none⟩ = some (.int .i64 x0) ∧ W.cell? ⟨wr.heap.size, 1, none⟩ = some (.int .i64 x1) ∧ (Instr.lookup 75 (.map (some (w.heap.size + 1))) (.int .i64 x0) false).run Try.prog W = .ok v W) ((wr.alloc (.cells #[.int .i64 x0, .int .i64 x1] 36)).drew) := ⟨by go_simp, by go_simp, hlk _ rfl⟩
      clear hzs hoi hzl hback hlk hG0 hat hbl
      go_wp2
      refine start_ (n := 12) (S := fun W => W.cell? ⟨wr.heap.size, 0, none⟩ = some (.int .i64 x0) ∧ W.cell? ⟨wr.heap.size, 1, none⟩ = some (.int .i64 x1) ∧ (Instr.lookup 75 (.map (some (w.heap.size + 1))) (.int .i64 x0) false).run Try.prog W = .ok v W) (ds := [11]) #[false, false, false, false, false, false, false, false, false, false, false, false] (by kernel_rfl) rfl rfl hS0 (fun hHeld => ?_)
      refine with_tabW joins.tab5 joins.bits5 (fun HT_ HW_ => ?_)
      clear hS0
      generalize (wr.alloc (.cells #[.int .i64 x0, .int .i64 x1] 36)).drew = w0 at hHeld HOI HBACK HLK HBLK HSZ HG0 HBOX ⊢
      refine pure_ (i := 0) (N := (some 22)) (v := ?_) (a' := ?_) #[true, false, false, false, false, false, false, false, false, false, false, false] rfl rfl (any_of HT_.out (by kernel_rfl)) (fun _ _ _ h => h) (Or.inl ⟨by rfl, ?_⟩) ?_ ?_
      rotate_left
      · intro w'
        go_simp
        (try with_reducible rfl)
      rotate_left
      · simp only [Act.put, List.setIfInBounds_toArray, List.set_cons_zero, List.set_cons_succ, i64_w, i32_w]
        rfl
      refine pure_ (i := 1) (N := (some 23)) (v := ?_) (a' := ?_) #[true, true, false, false, false, false, false, false, false, false, false, false] rfl rfl (any_of HT_.out (by kernel_rfl)) (fun _ _ _ h => h) (Or.inl ⟨by rfl, ?_⟩) ?_ ?_
      rotate_left
      · intro w'
        go_simp
        (try with_reducible rfl)
      rotate_left
      · simp only [Act.put, List.setIfInBounds_toArray, List.set_cons_zero, List.set_cons_succ, i64_w, i32_w]
        rfl
      refine take_ (i := 2) (N := (some 24)) (v := ?_) (a' := ?_) #[true, true, true, false, false, false, false, false, false, false, false, false] rfl rfl (take_ofW HT_.out HW_.out (by kernel_rfl)) (fun _ _ _ h => h) (Or.inl ⟨by rfl, ?_⟩) hHeld ?_ ?_
      rotate_left
      · rintro w' ⟨sx0, sx1, sx2⟩
        go_simp
        (try with_reducible rfl)
      rotate_left
      · simp only [Act.put, List.setIfInBounds_toArray, List.set_cons_zero, List.set_cons_succ, i64_w, i32_w]
        rfl
      refine pure_ (i := 3) (N := (some 25)) (v := ?_) (a' := ?_) #[true, true, true, true, false, false, false, false, false, false, false, false] rfl rfl (any_of HT_.out (by kernel_rfl)) (fun _ _ _ h => h) (Or.inl ⟨by rfl, ?_⟩) ?_ ?_
      rotate_left
      · intro w'
        go_simp
        (try with_reducible rfl)
      rotate_left
      · simp only [Act.put, List.setIfInBounds_toArray, List.set_cons_zero, List.set_cons_succ, i64_w, i32_w]
        rfl
      refine pure_ (i := 4) (N := (some 26)) (v := ?_) (a' := ?_) #[true, true, true, true, true, false, false, false, false, false, false, false] rfl rfl (any_of HT_.out (by kernel_rfl)) (fun _ _ _ h => h) (Or.inl ⟨by rfl, ?_⟩) ?_ ?_
      rotate_left
      · intro w'
        go_simp
        (try with_reducible rfl)
      rotate_left
      · simp only [Act.put, List.setIfInBounds_toArray, List.set_cons_zero, List.set_cons_succ, i64_w, i32_w]
        rfl
      refine take_ (i := 5) (N := (some 27)) (v := ?_) (a' := ?_) #[true, true, true, true, true, true, false, false, false, false, false, false] rfl rfl (take_ofW HT_.out HW_.out (by kernel_rfl)) (fun _ _ _ h => h) (Or.inl ⟨by rfl, ?_⟩) hHeld ?_ ?_
      rotate_left
      · rintro w' ⟨sx0, sx1, sx2⟩
        go_simp
        (try with_reducible rfl)
      rotate_left
      · simp only [Act.put, List.setIfInBounds_toArray, List.set_cons_zero, List.set_cons_succ, i64_w, i32_w]
        rfl
      refine take_ (i := 6) (N := (some 28)) (v := ?_) (a' := ?_) #[true, true, true, true, true, true, true, false, false, false, false, false] rfl rfl (take_ofW HT_.out HW_.out (by kernel_rfl)) (fun _ _ _ h => h) (Or.inl ⟨by rfl, ?_⟩) hHeld ?_ ?_
      rotate_left
      · rintro w' ⟨sx0, sx1, sx2⟩
        go_simp
        (try with_reducible rfl)
      rotate_left
      · simp only [Act.put, List.setIfInBounds_toArray, List.set_cons_zero, List.set_cons_succ, i64_w, i32_w]
        rfl
      refine pure_ (i := 7) (N := (some 29)) (v := ?_) (a' := ?_) #[true, true, true, true, true, true, true, true, false, false, false, false] rfl rfl (any_of HT_.out (by kernel_rfl)) (fun _ _ _ h => h) (Or.inl ⟨by rfl, ?_⟩) ?_ ?_
      rotate_left
      · intro w'
        go_simp
        (try with_reducible rfl)
      rotate_left
      · simp only [Act.put, List.setIfInBounds_toArray, List.set_cons_zero, List.set_cons_succ, i64_w, i32_w]
        rfl
      refine take_ (i := 8) (N := (some 30)) (v := ?_) (a' := ?_) #[true, true, true, true, true, true, true, true, true, false, false, false] rfl rfl (take_ofW HT_.out HW_.out (by kernel_rfl)) (fun _ _ _ h => h) (Or.inl ⟨by rfl, ?_⟩) hHeld ?_ ?_
      rotate_left
      · rintro w' ⟨sx0, sx1, sx2⟩
        go_simp
        (try with_reducible rfl)
      rotate_left
      · simp only [Act.put, List.setIfInBounds_toArray, List.set_cons_zero, List.set_cons_succ, i64_w, i32_w]
        rfl
      refine one_ (i := 9) (N := (some 31)) #[true, true, true, true, true, true, true, true, true, true, false, false] rfl rfl (one_of HT_.out (by kernel_rfl)) (by decide) (fun K hK => ?_)
      refine value_ (w1 := ?_) (v := ?_) (by rfl) rfl ?_ ?_
      rotate_left 2
      · go_simp
        constructor
        · rfl
        · rfl
      refine hK.out _ _ ⟨pw_cell_below (below_alloc (Below.refl w0.heap.size w0) _) hHeld.1, pw_cell_below (below_alloc (Below.refl w0.heap.size w0) _) hHeld.2.1, HLK.out _ (blk_same HBLK.out _)⟩ (fun hHeld => ?_)
      clear hK K
      refine norm_ (a' := ?_) ?_ ?_
      rotate_left
      · simp only [Act.put, List.setIfInBounds_toArray, List.set_cons_zero, List.set_cons_succ, i64_w, i32_w]
        rfl
      refine one_ (i := 10) (N := (some 32)) #[true, true, true, true, true, true, true, true, true, true, true, false] rfl rfl (one_of HT_.out (by kernel_rfl)) (by decide) (fun K hK => ?_)
      obtain ⟨v', w1, hrun, hown', hgrow, hnil, hloc⟩ := run_append_own_at (P := Try.prog) (w := w0.alloc (.cells #[.int .i64 x1] 2)) (w.heap.size + 2) 76 76 2 i0 (.int .i64 0) 1 8 Try.underlying76 hi hz0 hz1 hz2 rfl (by decide) v zs.length _ (HOI.out.1.alloc _) ⟨w0.heap.size, 0, none⟩ 1 1 [.int .i64 x1] rfl (cell_one_new _ _ _) (ints_oneCell .i64 [x1]) (by have := HZL.out; unfold maxLen; omega) (by have := HZL.out; have := HLL.out; omega) (by have := HSZ.out; simp; omega)
      refine append_value (w1 := w1) (v' := v') (.tmp 28) (.tmp 31) 76 v (.slice (some ⟨w0.heap.size, 0, none⟩) 1 1) (by rfl) rfl rfl rfl rfl hrun ?_
      have hne1 : some (w.heap.size + 1) ≠ v.ownBlock := fun e => by { obtain ⟨cells, hc⟩ := own_typed HOI.out.1 _ e.symm; rw [HBLK.out] at hc; cases hc }
      have hbw1 := blk_grown (blk_alloc HBOX.out (.cells #[.int .i64 x1] 2)) hgrow (own_ne HOI.out.1 HBOX.out (by decide))
      have HS1 := Aside0.mk (show w1.cell? ⟨wr.heap.size, 0, none⟩ = some (.int .i64 x0) ∧ w1.cell? ⟨wr.heap.size, 1, none⟩ = some (.int .i64 x1) ∧ (Instr.lookup 75 (.map (some (w.heap.size + 1))) (.int .i64 x0) false).run Try.prog w1 = .ok v w1 from ⟨(blk_cell hbw1 0).trans rfl, (blk_cell hbw1 1).trans rfl, HLK.out w1 ((hgrow.block _ (by have := HSZ.out; simp; omega) hne1).trans (blk_same HBLK.out _))⟩)
      refine hK.out _ _ HS1.out (fun hHeld => ?_)
      clear hK K
      refine norm_ (a' := ?_) ?_ ?_
      rotate_left
      · simp only [Act.put, List.setIfInBounds_toArray, List.set_cons_zero, List.set_cons_succ, i64_w, i32_w]
        rfl
      refine last_ (i := 11) (N := none) #[true, true, true, true, true, true, true, true, true, true, true, true] rfl rfl (one_of HT_.out (by kernel_rfl)) (by decide) (fun K hK => ?_)
      obtain ⟨w2, hrun2, hown2, hgrow2⟩ := HBACK.out w1 v' (zs ++ [x1]) ((World.grownBy_alloc _ _ _).trans hgrow) (HOI.out.appended hown' HWX.out.2) (by have := HZL.out; simp; omega) (hloc.imp id (fun h => ⟨_, h, by simp⟩))
      refine store_skip (w1 := w2) (.tmp 22) (.tmp 24) (.tmp 32) 75 (.map (some (w.heap.size + 1))) (.int .i64 x0) v' (by rfl) rfl rfl rfl rfl rfl hrun2 ?_
      refine hK.out _ _ ?_
      clear hK K
      refine done_ (done_of HT_.out (by kernel_rfl)) ?_
      go_wp2
      go_roundg (l.length - (kk + 1))
      case measure => omega
      case rel =>
        have hB0 : Below w.heap.size w w0 := HB.out.grown HG0.out HB.out.size (fun k hk => by cases hk)
        refine ⟨kk + 1, _, by omega, by omega, by go_num, ⟨hown2⟩, ⟨?_⟩, ⟨RowKit.Below.groups hB0 HOI.out ((World.grownBy_alloc _ _ _).trans hgrow) hgrow2 hB0.size (by omega) (by omega)⟩, ⟨?_⟩⟩
        · rw [HST.out]
          have h := HG.out.put x0 (HOI.out.appended hown' HWX.out.2) (by simp)
          rw [HZS.out] at h
          rw [HZS.out]
          exact h
        · have e1 := hgrow.size
          have e2 := hgrow2.size
          have e3 := HSZ.out
          simp at e1
          omega
    · have hk : kk = l.length := by omega
      have hltz : ¬ (kk : Int) < (l.length : Int) := by omega
      have hg1 := HG.out
      rw [hk, List.take_length] at hg1
      have ho1 := HOWN.out
      rw [hk] at ho1
      have HG1 := Aside0.mk hg1
      have HOWN1 := Aside0.mk ho1
      have q0 := (HB.out.cell (World.block_lt_of_cell? w _ HQ0.out)).trans HQ0.out
      clear hk hg1 ho1 HG HOWN
      go_wp2
      obtain ⟨wo, rfl⟩ : ∃ wo : World, wo = wr := ⟨_, rfl⟩
      go_loopg [8, 38] a.length (fun gg v8 v38 wr => ∃ kk : Nat, kk ≤ a.length ∧ a.length - kk ≤ gg ∧ v38 = .int .i64 kk ∧ Aside0 (Kd.R k36 36 wr w.heap.size (fun _ => True) v8 (joinL (a.take kk) l)) ∧ Aside0 (wr.ownsGroups Try.prog 2 (w.heap.size + 2) 2 .i64 (w.heap.size + 1) l.length D) ∧ Aside0 (Below w.heap.size w wr))
      case atStart => exact ⟨0, Nat.zero_le _, by omega, rfl, ⟨Kd.R_nil _ _ _ _ _⟩, HOWN1, HB⟩
      case round =>
        clear HB HOWN1 q0 HSZ0
        obtain ⟨k2, hk2, hg2, rfl, HO, HOWN, HB⟩ := hrel
        by_cases hlt2 : k2 < a.length
        · have hltz2 : (k2 : Int) < (a.length : Int) := by omega
          obtain ⟨ad2, eA, q0, q1⟩ := at_T36 (Kd.C_below HR0.out HB.out) (k2 : Int) (by omega) hltz2
          simp only [Int.toNat_natCast] at q0 q1
          have hx : a[k2]? = some (rd_T36 a (k2 : Int)) := by simp [rd_T36, List.getD_eq_getElem?_getD, hlt2]
          have hs := joinL_take a l k2 _ hx
          have hjl := joinL_length (a.take (k2 + 1)) l
          have hjm : (a.take (k2 + 1)).length * l.length ≤ 1000 * 1000 := Nat.mul_le_mul (by rw [List.length_take]; have := HLL0.out; omega) HLL.out
          have hwx := HW0.out _ (List.mem_of_getElem? hx)
          have hl2 := congrArg List.length hs
          rw [List.length_append, List.length_map] at hl2
          generalize rd_T36 a (k2 : Int) = x at q0 q1 hs hwx hl2
          have HST := Aside0.mk hs
          have HWX := Aside0.mk hwx
          have HLN := Aside0.mk (show (joinL (a.take k2) l).length + (grp l x.f0).length ≤ 1000000 by omega)
          clear hs hx hwx hjl hjm hl2
          subst eA
          obtain ⟨x0, x1⟩ := x
          simp only at q0 q1 HST HWX HLN
          have hkey : keyOf Try.prog 2 (.int .i64 x0) = some (.int .i64 x0) := Maps.keyOf_int_mk Try.underlying2 HWX.out.1
          have hml : l.length < maxLen := by have := HLL.out; unfold maxLen; omega
          have hG0 := (World.grownBy_alloc wr (.cells #[.int .i64 x0, .int .i64 x1] 36) none)
          have HOWNA := Aside0.mk (groups_keep HOWN.out hG0)
          generalize joinL (a.take k2) l = out at HO HST HLN
          have HOA := Aside0.mk (Kd.R_alloc (Kd.R_mono (ok' := fun k => k ≠ wr.heap.size) (Kd.R_bound HO.out) (fun k hk => by have := hk.2.2.1; omega)) (.cells #[.int .i64 x0, .int .i64 x1] 36))
          have HBX := Aside0.mk (blk_new wr (.cells #[.int .i64 x0, .int .i64 x1] 36))
          have HBA := Aside0.mk (below_alloc HB.out (.cells #[.int .i64 x0, .int .i64 x1] 36))
          clear HO HOWN HB hG0
          go_wp2_with (at_lookup; refine wpList_lookup_groups _ rfl _ _ 75 rfl 2 76 2 .i64 law2 Try.underlying75 (zero76 _) (w.heap.size + 2) (w.heap.size + 1) l.length D rfl HOWNA.out hml _ _ rfl hkey ?_; intro v zs hat hoi hzl hback; have HZS := Aside0.mk (HG1.out.val hat hoi); have hzl9 : zs.length ≤ 9223372036854775807 := by { have := HLL.out; omega }; have HOI := Aside0.mk hoi; obtain ⟨Az, cz, rfl⟩ := own_slice hoi.1; clear hat hoi hback)
          obtain ⟨w3, hw3⟩ : ∃ w3 : World, w3 = wr := ⟨_, rfl⟩
          subst hw3
          go_loopg [8, 47] zs.length (fun gg v8 v47 wr => ∃ j : Nat, j ≤ zs.length ∧ zs.length - j ≤ gg ∧ v47 = .int .i64 j ∧ Aside0 (Kd.R k36 36 wr w.heap.size (fun k => k ≠ w3.heap.size) v8 (out ++ (zs.take j).map fun z => ⟨x0, wrap64 (x1 + z)⟩)) ∧ Aside0 (wr.ownsInts (w.heap.size + 2) 2 .i64 (.slice Az zs.length cz) zs) ∧
            Aside0 (wr.ownsGroups Try.prog 2 (w.heap.size + 2) 2 .i64 (w.heap.size + 1) l.length D) ∧ Aside0 (wr.heap[w3.heap.size]? = some (.cells #[.int .i64 x0, .int .i64 x1] 36 (0, 0))) ∧ Aside0 (Below w.heap.size w wr))
          case atStart => exact ⟨0, Nat.zero_le _, by omega, rfl, ⟨by simpa using HOA.out⟩, HOI, HOWNA, HBX, HBA⟩
          case round =>
            clear HOA HOI HOWNA HBX HBA q0 q1
            obtain ⟨j, hj, hg3, rfl, HO, HOI, HOWN, HBX, HB⟩ := hrel
            by_cases hlt3 : j < zs.length
            · have hltz3 : (j : Int) < (zs.length : Int) := by omega
              obtain ⟨A', c', ev, hrd⟩ := own_reads (xs := zs) HOI.out.1
              injection ev with e1 e2 e3
              subst e1
              obtain ⟨adz, eZ, qz⟩ := hrd.at_ (j : Int) (by omega) hltz3
              simp only [Int.toNat_natCast] at qz
              have hz : zs[j]? = some (rd zs (j : Int)) := by simp [rd, List.getD_eq_getElem?_getD, hlt3]
              have ht : zs.take (j + 1) = zs.take j ++ [rd zs (j : Int)] := by rw [List.take_add_one, hz]; rfl
              generalize rd zs (j : Int) = z at qz ht
              have HT := Aside0.mk ht
              have HZB := Aside0.mk (show zs.length ≤ 1000 from by rw [HZS.out]; exact Nat.le_trans (grp_length l x0) HLL.out)
              have HAL := Aside0.mk (show ((out ++ (zs.take j).map fun z => (⟨x0, wrap64 (x1 + z)⟩ : S36)).length + 1) * 16 ≤ 140737488355328 from by have h1 := HLN.out; have h2 := HZB.out; rw [List.length_append, List.length_map, List.length_take]; omega)
              have HGL := Aside0.mk (blk_lt HBX.out)
              have p0 := (blk_cell HBX.out 0).trans rfl
              have p1 := (blk_cell HBX.out 1).trans rfl
              clear hz ht hrd e2 e3
              subst eZ
              go_wp2_with ((with_reducible refine gate_builtin (b := .append) (xs := #[.tmp 51, .tmp 59]) rfl ?_); at_builtin; refine Kd.R_append k36 (w0 := w) w.heap.size rfl (.tmp 51) (.tmp 59) 28 36 (.agg #[(.int .i64 0), (.int .i64 0)]) 16 rfl Try.underlying28 info36 rfl (by decide) (by omega) u8 (out ++ (zs.take j).map fun z => (⟨x0, wrap64 (x1 + z)⟩ : S36)) (⟨x0, wrap64 (x1 + z)⟩ : S36) [.int .i64 x0, .int .i64 (wrap64 (x1 + z))] (fun k => k ≠ w3.heap.size) (fun _ => False) rfl rfl ?aP (fun _ hk => hk.elim) ?aF ?aO ?aB ?aS ?aL ?_; (case aP => exact k36_mkM _ _ _ (⟨x0, wrap64 (x1 + z)⟩ : S36)); (case aB => exact HB.out); (case aF => exact (fun k hk => by have := HGL.out; omega)); (case aO => exact HO.out); (case aS => exact (below_size HB.out)); (case aL => exact HAL.out); intro v115 w13 ho hb hg hat2; have HB2 := Aside0.mk hb; have HO2 := Aside0.mk ho; have HG2 := Aside0.mk hg; clear ho hb hg hat2)
              go_roundg (zs.length - (j + 1))
              case measure => omega
              case rel => exact ⟨j + 1, by omega, by omega, by go_num, ⟨by rw [HT.out, List.map_append, ← List.append_assoc]; exact HO2.out⟩, ⟨ints_other HOI.out HO.out HG2.out⟩, ⟨groups_other HOWN.out HO.out HG2.out⟩, ⟨blk_grown HBX.out HG2.out (fun e => HO.out.1 _ e.symm rfl)⟩, HB2⟩
            · have hj2 : j = zs.length := by omega
              have HJ := Aside0.mk hj2
              clear hj2
              have hltz3 : ¬ (j : Int) < (zs.length : Int) := by omega
              go_wp2
              go_roundg (a.length - (k2 + 1))
              case measure => omega
              case rel =>
                refine ⟨k2 + 1, by omega, by omega, by go_num, ⟨?_⟩, HOWN, HB⟩
                have h := HO.out
                rw [HJ.out, List.take_length, HZS.out] at h
                rw [HST.out]
                exact Kd.R_mono h (fun _ _ => trivial)
        · have hk : k2 = a.length := by omega
          have HK := Aside0.mk hk
          clear hk
          have hltz2 : ¬ (k2 : Int) < (a.length : Int) := by omega
          go_wp2
          go_ret
          refine ⟨_, rfl, ?_, HB.out⟩
          have h1 := HO.out
          rw [HK.out, List.take_length] at h1
          exact h1
end Go.Proofs.Ytcihpjkjodhdpaa.X
