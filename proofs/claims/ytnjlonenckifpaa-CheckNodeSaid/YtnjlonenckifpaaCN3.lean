/- A part of the proof. -/
import Derived.Test.YtnjlonenckifpaaCN2
import Derived.WideMake
import Derived.Laws.MakeOwn
import Derived.Laws.Rows
import Derived.Outline
import Derived.Deep.DeepMust
import Derived.Deep.RegionHeld3
import Derived.StillTailTactics
import Derived.Laws.NewBlocks
namespace Go.Proofs.Ytnjlonenckifpaa.X
set_option linter.unusedVariables false
set_option linter.unusedSimpArgs false
open Go.RowKit Go.Proofs.YtnjlonenckifpaaW.PrintWords Go.Proofs.YtnjlonenckifpaaW.PrintLast Go.Proofs.YtnjlonenckifpaaW.PrintMore
theorem heap_alloc_last (W : World) (o : Obj) : (W.alloc o).heap[W.heap.size]? = some o := by
  show (W.heap.push o)[W.heap.size]? = _
  simp
theorem set_alloc_last (W : World) (o o' : Obj) : ({ W.alloc o with heap := (W.alloc o).heap.setIfInBounds W.heap.size o' } : World) = W.alloc o' := by
  have h : (W.heap.push o).setIfInBounds W.heap.size o' = W.heap.push o' := by
    apply Array.ext_getElem?
    intro i
    rw [Array.getElem?_setIfInBounds]
    by_cases hi : W.heap.size = i
    · subst hi; simp
    · rw [if_neg hi]
      simp only [Array.getElem?_push]
      rw [if_neg (by omega), if_neg (by omega)]
  show ({ W.alloc o with heap := (W.heap.push o).setIfInBounds W.heap.size o' } : World) = _
  rw [h]
  rfl
theorem run_ins0 {P : Program} (mt kt et : TypeId) (hm : P.underlying mt = some (.map kt et)) (hk : P.underlying kt = some (.int .u8)) (w : World) (r : Nat) (es : Array MapEntry) (n : Nat) (k : Int) (v : Value)
    (hb : w.heap[r]? = some (.map es n)) (hf : Instr.findNow (.int .u8) (.int .u8 k) es.toList 0 = some none) :
    (Instr.mapUpdate mt (.map (some r)) (.int .u8 k) v).run P w = .ok () { w with heap := w.heap.setIfInBounds r (.map (es.push { key := .int .u8 k, val := v, born := n }) (n + 1)) } := by
  have hc : (Instr.checkKey false 10000 kt (.int .u8 k)).run P w = .ok () w := MapKept.run_checkKey (k := .int .u8 k) hk (by simp [MapKept.IsKey]) false 9999
  simp [Instr.mapUpdate, run_underlying hm, MapKept.run_getObj_map hb, hc, MapKept.run_findKey hk hf, MapKept.run_setObj_map _ hb, Result.andThen]
theorem run_ins {P : Program} (mt kt et : TypeId) (hm : P.underlying mt = some (.map kt et)) (hk : P.underlying kt = some (.int .u8)) (W : World) (es : Array MapEntry) (n : Nat) (k : Int) (v : Value)
    (hf : Instr.findNow (.int .u8) (.int .u8 k) es.toList 0 = some none) :
    (Instr.mapUpdate mt (.map (some W.heap.size)) (.int .u8 k) v).run P (W.alloc (.map es n)) = .ok () (W.alloc (.map (es.push ⟨.int .u8 k, v, n⟩) (n + 1))) := by
  rw [run_ins0 mt kt et hm hk _ _ es n k v (heap_alloc_last W (.map es n)) hf, set_alloc_last]
theorem run_find {P : Program} (mt kt et : TypeId) (hm : P.underlying mt = some (.map kt et)) (hk : P.underlying kt = some (.int .u8)) (W : World) (b : Nat) (es : Array MapEntry) (n : Nat) (k : Int) (v : Value) (i : Nat)
    (hb : W.heap[b]? = some (.map es n)) (hf : Instr.findNow (.int .u8) (.int .u8 k) es.toList 0 = some (some (i, v))) :
    (Instr.lookup mt (.map (some b)) (.int .u8 k) true).run P W = .ok (.tuple #[v, .bool true]) W := by
  have hc : (Instr.checkKey es.isEmpty 10000 kt (.int .u8 k)).run P W = .ok () W := MapKept.run_checkKey (k := .int .u8 k) hk (by simp [MapKept.IsKey]) _ 9999
  simp [Instr.lookup, run_underlying hm, MapKept.run_getObj_map hb, hc, MapKept.run_findKey hk hf, Result.andThen]
theorem run_miss {P : Program} (mt kt et : TypeId) (hm : P.underlying mt = some (.map kt et)) (hk : P.underlying kt = some (.int .u8)) (W : World) (b : Nat) (es : Array MapEntry) (n : Nat) (k : Int) (z : Value)
    (hz : (zeroValue et).run P W = .ok z W) (hb : W.heap[b]? = some (.map es n)) (hf : Instr.findNow (.int .u8) (.int .u8 k) es.toList 0 = some none) :
    (Instr.lookup mt (.map (some b)) (.int .u8 k) true).run P W = .ok (.tuple #[z, .bool false]) W := by
  have hc : (Instr.checkKey es.isEmpty 10000 kt (.int .u8 k)).run P W = .ok () W := MapKept.run_checkKey (k := .int .u8 k) hk (by simp [MapKept.IsKey]) _ 9999
  simp [Instr.lookup, run_underlying hm, MapKept.run_getObj_map hb, hc, MapKept.run_findKey hk hf, Result.andThen, hz]
def km1 : Array MapEntry := #[⟨.int .u8 2, .func (.func 35) #[] #[], 0⟩]
def km2 : Array MapEntry := #[⟨.int .u8 2, .func (.func 35) #[] #[], 0⟩, ⟨.int .u8 3, .func (.func 36) #[] #[], 1⟩]
def km3 : Array MapEntry := #[⟨.int .u8 2, .func (.func 35) #[] #[], 0⟩, ⟨.int .u8 3, .func (.func 36) #[] #[], 1⟩, ⟨.int .u8 5, .func (.func 37) #[] #[], 2⟩]
def km4 : Array MapEntry := #[⟨.int .u8 2, .func (.func 35) #[] #[], 0⟩, ⟨.int .u8 3, .func (.func 36) #[] #[], 1⟩, ⟨.int .u8 5, .func (.func 37) #[] #[], 2⟩, ⟨.int .u8 9, .func (.func 38) #[] #[], 3⟩]
def km5 : Array MapEntry := #[⟨.int .u8 2, .func (.func 35) #[] #[], 0⟩, ⟨.int .u8 3, .func (.func 36) #[] #[], 1⟩, ⟨.int .u8 5, .func (.func 37) #[] #[], 2⟩, ⟨.int .u8 9, .func (.func 38) #[] #[], 3⟩, ⟨.int .u8 1, .func (.func 39) #[] #[], 4⟩]
def km6 : Array MapEntry := #[⟨.int .u8 2, .func (.func 35) #[] #[], 0⟩, ⟨.int .u8 3, .func (.func 36) #[] #[], 1⟩, ⟨.int .u8 5, .func (.func 37) #[] #[], 2⟩, ⟨.int .u8 9, .func (.func 38) #[] #[], 3⟩, ⟨.int .u8 1, .func (.func 39) #[] #[], 4⟩, ⟨.int .u8 4, .func (.func 39) #[] #[], 5⟩]
def km7 : Array MapEntry := #[⟨.int .u8 2, .func (.func 35) #[] #[], 0⟩, ⟨.int .u8 3, .func (.func 36) #[] #[], 1⟩, ⟨.int .u8 5, .func (.func 37) #[] #[], 2⟩, ⟨.int .u8 9, .func (.func 38) #[] #[], 3⟩, ⟨.int .u8 1, .func (.func 39) #[] #[], 4⟩, ⟨.int .u8 4, .func (.func 39) #[] #[], 5⟩, ⟨.int .u8 6, .func (.func 39) #[] #[], 6⟩]
def km8 : Array MapEntry := #[⟨.int .u8 2, .func (.func 35) #[] #[], 0⟩, ⟨.int .u8 3, .func (.func 36) #[] #[], 1⟩, ⟨.int .u8 5, .func (.func 37) #[] #[], 2⟩, ⟨.int .u8 9, .func (.func 38) #[] #[], 3⟩, ⟨.int .u8 1, .func (.func 39) #[] #[], 4⟩, ⟨.int .u8 4, .func (.func 39) #[] #[], 5⟩, ⟨.int .u8 6, .func (.func 39) #[] #[], 6⟩, ⟨.int .u8 7, .func (.func 39) #[] #[], 7⟩]
def km9 : Array MapEntry := #[⟨.int .u8 2, .func (.func 35) #[] #[], 0⟩, ⟨.int .u8 3, .func (.func 36) #[] #[], 1⟩, ⟨.int .u8 5, .func (.func 37) #[] #[], 2⟩, ⟨.int .u8 9, .func (.func 38) #[] #[], 3⟩, ⟨.int .u8 1, .func (.func 39) #[] #[], 4⟩, ⟨.int .u8 4, .func (.func 39) #[] #[], 5⟩, ⟨.int .u8 6, .func (.func 39) #[] #[], 6⟩, ⟨.int .u8 7, .func (.func 39) #[] #[], 7⟩, ⟨.int .u8 8, .func (.func 39) #[] #[], 8⟩]
def km10 : Array MapEntry := #[⟨.int .u8 2, .func (.func 35) #[] #[], 0⟩, ⟨.int .u8 3, .func (.func 36) #[] #[], 1⟩, ⟨.int .u8 5, .func (.func 37) #[] #[], 2⟩, ⟨.int .u8 9, .func (.func 38) #[] #[], 3⟩, ⟨.int .u8 1, .func (.func 39) #[] #[], 4⟩, ⟨.int .u8 4, .func (.func 39) #[] #[], 5⟩, ⟨.int .u8 6, .func (.func 39) #[] #[], 6⟩, ⟨.int .u8 7, .func (.func 39) #[] #[], 7⟩, ⟨.int .u8 8, .func (.func 39) #[] #[], 8⟩, ⟨.int .u8 10, .func (.func 39) #[] #[], 9⟩]
theorem ins0 (W : World) : (Instr.mapUpdate 53 (.map (some W.heap.size)) (.int .u8 2) (.func (.func 35) #[] #[])).run Try.prog (W.alloc (.map #[] 0)) = .ok () (W.alloc (.map km1 1)) := run_ins 53 5 46 Try.underlying53 Try.underlying5 W #[] 0 2 _ rfl
theorem ins1 (W : World) : (Instr.mapUpdate 53 (.map (some W.heap.size)) (.int .u8 3) (.func (.func 36) #[] #[])).run Try.prog (W.alloc (.map km1 1)) = .ok () (W.alloc (.map km2 2)) := run_ins 53 5 46 Try.underlying53 Try.underlying5 W km1 1 3 _ rfl
theorem ins2 (W : World) : (Instr.mapUpdate 53 (.map (some W.heap.size)) (.int .u8 5) (.func (.func 37) #[] #[])).run Try.prog (W.alloc (.map km2 2)) = .ok () (W.alloc (.map km3 3)) := run_ins 53 5 46 Try.underlying53 Try.underlying5 W km2 2 5 _ rfl
theorem ins3 (W : World) : (Instr.mapUpdate 53 (.map (some W.heap.size)) (.int .u8 9) (.func (.func 38) #[] #[])).run Try.prog (W.alloc (.map km3 3)) = .ok () (W.alloc (.map km4 4)) := run_ins 53 5 46 Try.underlying53 Try.underlying5 W km3 3 9 _ rfl
theorem ins4 (W : World) : (Instr.mapUpdate 53 (.map (some W.heap.size)) (.int .u8 1) (.func (.func 39) #[] #[])).run Try.prog (W.alloc (.map km4 4)) = .ok () (W.alloc (.map km5 5)) := run_ins 53 5 46 Try.underlying53 Try.underlying5 W km4 4 1 _ rfl
theorem ins5 (W : World) : (Instr.mapUpdate 53 (.map (some W.heap.size)) (.int .u8 4) (.func (.func 39) #[] #[])).run Try.prog (W.alloc (.map km5 5)) = .ok () (W.alloc (.map km6 6)) := run_ins 53 5 46 Try.underlying53 Try.underlying5 W km5 5 4 _ rfl
theorem ins6 (W : World) : (Instr.mapUpdate 53 (.map (some W.heap.size)) (.int .u8 6) (.func (.func 39) #[] #[])).run Try.prog (W.alloc (.map km6 6)) = .ok () (W.alloc (.map km7 7)) := run_ins 53 5 46 Try.underlying53 Try.underlying5 W km6 6 6 _ rfl
theorem ins7 (W : World) : (Instr.mapUpdate 53 (.map (some W.heap.size)) (.int .u8 7) (.func (.func 39) #[] #[])).run Try.prog (W.alloc (.map km7 7)) = .ok () (W.alloc (.map km8 8)) := run_ins 53 5 46 Try.underlying53 Try.underlying5 W km7 7 7 _ rfl
theorem ins8 (W : World) : (Instr.mapUpdate 53 (.map (some W.heap.size)) (.int .u8 8) (.func (.func 39) #[] #[])).run Try.prog (W.alloc (.map km8 8)) = .ok () (W.alloc (.map km9 9)) := run_ins 53 5 46 Try.underlying53 Try.underlying5 W km8 8 8 _ rfl
theorem ins9 (W : World) : (Instr.mapUpdate 53 (.map (some W.heap.size)) (.int .u8 10) (.func (.func 39) #[] #[])).run Try.prog (W.alloc (.map km9 9)) = .ok () (W.alloc (.map km10 10)) := run_ins 53 5 46 Try.underlying53 Try.underlying5 W km9 9 10 _ rfl
set_option maxHeartbeats 4000000 in
theorem num_hit (a0 a1 a2 a3 : Int) (A : Option Addr) (c : Nat) (l : List Int) (r : Bool) (w : World) (f i : Nat) (hf : Instr.findNow (.int .u8) (.int .u8 a0) km10.toList 0 = some (some (i, .func (.func f) #[] #[])))
    (eg : ∀ args w, (callFunc f args).run Try.prog w = .ok (.enter f args) w)
    (hC : ∀ W, Below w.heap.size w W → Calls Try.prog f #[.agg #[.int .u8 a0, .int .u8 a1, .int .i64 a2, .int .i64 a3, .slice A l.length c]] W fun e w' => e = .returned (.bool r) ∧ Below W.heap.size W w') :
    Calls Try.prog 24 #[.agg #[.int .u8 a0, .int .u8 a1, .int .i64 a2, .int .i64 a3, .slice A l.length c]] w fun e w' => e = .returned (.bool r) ∧ Below w.heap.size w w' := by
  have m0 : (Instr.mapUpdate 53 (.map (some (w.heap.size + 1))) (.int .u8 2) (.func (.func 35) #[] #[])).run Try.prog ((w.alloc (.cells #[.int .u8 a0, .int .u8 a1, .int .i64 a2, .int .i64 a3, .slice A l.length c] 39)).alloc (.map #[] 0)) = .ok () ((w.alloc (.cells #[.int .u8 a0, .int .u8 a1, .int .i64 a2, .int .i64 a3, .slice A l.length c] 39)).alloc (.map km1 1)) := by simpa using ins0 (w.alloc (.cells #[.int .u8 a0, .int .u8 a1, .int .i64 a2, .int .i64 a3, .slice A l.length c] 39))
  have m1 : (Instr.mapUpdate 53 (.map (some (w.heap.size + 1))) (.int .u8 3) (.func (.func 36) #[] #[])).run Try.prog ((w.alloc (.cells #[.int .u8 a0, .int .u8 a1, .int .i64 a2, .int .i64 a3, .slice A l.length c] 39)).alloc (.map km1 1)) = .ok () ((w.alloc (.cells #[.int .u8 a0, .int .u8 a1, .int .i64 a2, .int .i64 a3, .slice A l.length c] 39)).alloc (.map km2 2)) := by simpa using ins1 (w.alloc (.cells #[.int .u8 a0, .int .u8 a1, .int .i64 a2, .int .i64 a3, .slice A l.length c] 39))
  have m2 : (Instr.mapUpdate 53 (.map (some (w.heap.size + 1))) (.int .u8 5) (.func (.func 37) #[] #[])).run Try.prog ((w.alloc (.cells #[.int .u8 a0, .int .u8 a1, .int .i64 a2, .int .i64 a3, .slice A l.length c] 39)).alloc (.map km2 2)) = .ok () ((w.alloc (.cells #[.int .u8 a0, .int .u8 a1, .int .i64 a2, .int .i64 a3, .slice A l.length c] 39)).alloc (.map km3 3)) := by simpa using ins2 (w.alloc (.cells #[.int .u8 a0, .int .u8 a1, .int .i64 a2, .int .i64 a3, .slice A l.length c] 39))
  have m3 : (Instr.mapUpdate 53 (.map (some (w.heap.size + 1))) (.int .u8 9) (.func (.func 38) #[] #[])).run Try.prog ((w.alloc (.cells #[.int .u8 a0, .int .u8 a1, .int .i64 a2, .int .i64 a3, .slice A l.length c] 39)).alloc (.map km3 3)) = .ok () ((w.alloc (.cells #[.int .u8 a0, .int .u8 a1, .int .i64 a2, .int .i64 a3, .slice A l.length c] 39)).alloc (.map km4 4)) := by simpa using ins3 (w.alloc (.cells #[.int .u8 a0, .int .u8 a1, .int .i64 a2, .int .i64 a3, .slice A l.length c] 39))
  have m4 : (Instr.mapUpdate 53 (.map (some (w.heap.size + 1))) (.int .u8 1) (.func (.func 39) #[] #[])).run Try.prog ((w.alloc (.cells #[.int .u8 a0, .int .u8 a1, .int .i64 a2, .int .i64 a3, .slice A l.length c] 39)).alloc (.map km4 4)) = .ok () ((w.alloc (.cells #[.int .u8 a0, .int .u8 a1, .int .i64 a2, .int .i64 a3, .slice A l.length c] 39)).alloc (.map km5 5)) := by simpa using ins4 (w.alloc (.cells #[.int .u8 a0, .int .u8 a1, .int .i64 a2, .int .i64 a3, .slice A l.length c] 39))
  have m5 : (Instr.mapUpdate 53 (.map (some (w.heap.size + 1))) (.int .u8 4) (.func (.func 39) #[] #[])).run Try.prog ((w.alloc (.cells #[.int .u8 a0, .int .u8 a1, .int .i64 a2, .int .i64 a3, .slice A l.length c] 39)).alloc (.map km5 5)) = .ok () ((w.alloc (.cells #[.int .u8 a0, .int .u8 a1, .int .i64 a2, .int .i64 a3, .slice A l.length c] 39)).alloc (.map km6 6)) := by simpa using ins5 (w.alloc (.cells #[.int .u8 a0, .int .u8 a1, .int .i64 a2, .int .i64 a3, .slice A l.length c] 39))
  have m6 : (Instr.mapUpdate 53 (.map (some (w.heap.size + 1))) (.int .u8 6) (.func (.func 39) #[] #[])).run Try.prog ((w.alloc (.cells #[.int .u8 a0, .int .u8 a1, .int .i64 a2, .int .i64 a3, .slice A l.length c] 39)).alloc (.map km6 6)) = .ok () ((w.alloc (.cells #[.int .u8 a0, .int .u8 a1, .int .i64 a2, .int .i64 a3, .slice A l.length c] 39)).alloc (.map km7 7)) := by simpa using ins6 (w.alloc (.cells #[.int .u8 a0, .int .u8 a1, .int .i64 a2, .int .i64 a3, .slice A l.length c] 39))
  have m7 : (Instr.mapUpdate 53 (.map (some (w.heap.size + 1))) (.int .u8 7) (.func (.func 39) #[] #[])).run Try.prog ((w.alloc (.cells #[.int .u8 a0, .int .u8 a1, .int .i64 a2, .int .i64 a3, .slice A l.length c] 39)).alloc (.map km7 7)) = .ok () ((w.alloc (.cells #[.int .u8 a0, .int .u8 a1, .int .i64 a2, .int .i64 a3, .slice A l.length c] 39)).alloc (.map km8 8)) := by simpa using ins7 (w.alloc (.cells #[.int .u8 a0, .int .u8 a1, .int .i64 a2, .int .i64 a3, .slice A l.length c] 39))
  have m8 : (Instr.mapUpdate 53 (.map (some (w.heap.size + 1))) (.int .u8 8) (.func (.func 39) #[] #[])).run Try.prog ((w.alloc (.cells #[.int .u8 a0, .int .u8 a1, .int .i64 a2, .int .i64 a3, .slice A l.length c] 39)).alloc (.map km8 8)) = .ok () ((w.alloc (.cells #[.int .u8 a0, .int .u8 a1, .int .i64 a2, .int .i64 a3, .slice A l.length c] 39)).alloc (.map km9 9)) := by simpa using ins8 (w.alloc (.cells #[.int .u8 a0, .int .u8 a1, .int .i64 a2, .int .i64 a3, .slice A l.length c] 39))
  have m9 : (Instr.mapUpdate 53 (.map (some (w.heap.size + 1))) (.int .u8 10) (.func (.func 39) #[] #[])).run Try.prog ((w.alloc (.cells #[.int .u8 a0, .int .u8 a1, .int .i64 a2, .int .i64 a3, .slice A l.length c] 39)).alloc (.map km9 9)) = .ok () ((w.alloc (.cells #[.int .u8 a0, .int .u8 a1, .int .i64 a2, .int .i64 a3, .slice A l.length c] 39)).alloc (.map km10 10)) := by simpa using ins9 (w.alloc (.cells #[.int .u8 a0, .int .u8 a1, .int .i64 a2, .int .i64 a3, .slice A l.length c] 39))
  have mk := @run_makeMap Try.prog
  have lk : (Instr.lookup 53 (.map (some (w.heap.size + 1))) (.int .u8 a0) true).run Try.prog ((w.alloc (.cells #[.int .u8 a0, .int .u8 a1, .int .i64 a2, .int .i64 a3, .slice A l.length c] 39)).alloc (.map km10 10)) = .ok (.tuple #[.func (.func f) #[] #[], .bool true]) ((w.alloc (.cells #[.int .u8 a0, .int .u8 a1, .int .i64 a2, .int .i64 a3, .slice A l.length c] 39)).alloc (.map km10 10)) :=
    run_find 53 5 46 Try.underlying53 Try.underlying5 _ _ km10 10 a0 _ i (by simpa using heap_alloc_last (w.alloc (.cells #[.int .u8 a0, .int .u8 a1, .int .i64 a2, .int .i64 a3, .slice A l.length c] 39)) (.map km10 10)) hf
  have HC := Aside0.mk hC
  have HHB := Aside0.mk (Below.refl w.heap.size w)
  clear hf hC
  go_enter Try.func24, Try.ntmps24
  go_wp2_with (go_at_fn f; refine (HC.out _ (below_alloc (below_alloc HHB.out _) _)).mono ?_; rintro e w' ⟨rfl, hb⟩; (have HD := Aside0.mk hb; clear hb))
  go_ret
  exact ⟨rfl, (below_alloc (below_alloc HHB.out _) _).trans (HD.out.mono (by simp; omega))⟩
set_option maxHeartbeats 4000000 in
theorem num_miss (a0 a1 a2 a3 : Int) (A : Option Addr) (c : Nat) (l : List Int) (w : World) (hf : Instr.findNow (.int .u8) (.int .u8 a0) km10.toList 0 = some none) :
    Calls Try.prog 24 #[.agg #[.int .u8 a0, .int .u8 a1, .int .i64 a2, .int .i64 a3, .slice A l.length c]] w fun e w' => e = .returned (.bool false) ∧ Below w.heap.size w w' := by
  have m0 : (Instr.mapUpdate 53 (.map (some (w.heap.size + 1))) (.int .u8 2) (.func (.func 35) #[] #[])).run Try.prog ((w.alloc (.cells #[.int .u8 a0, .int .u8 a1, .int .i64 a2, .int .i64 a3, .slice A l.length c] 39)).alloc (.map #[] 0)) = .ok () ((w.alloc (.cells #[.int .u8 a0, .int .u8 a1, .int .i64 a2, .int .i64 a3, .slice A l.length c] 39)).alloc (.map km1 1)) := by simpa using ins0 (w.alloc (.cells #[.int .u8 a0, .int .u8 a1, .int .i64 a2, .int .i64 a3, .slice A l.length c] 39))
  have m1 : (Instr.mapUpdate 53 (.map (some (w.heap.size + 1))) (.int .u8 3) (.func (.func 36) #[] #[])).run Try.prog ((w.alloc (.cells #[.int .u8 a0, .int .u8 a1, .int .i64 a2, .int .i64 a3, .slice A l.length c] 39)).alloc (.map km1 1)) = .ok () ((w.alloc (.cells #[.int .u8 a0, .int .u8 a1, .int .i64 a2, .int .i64 a3, .slice A l.length c] 39)).alloc (.map km2 2)) := by simpa using ins1 (w.alloc (.cells #[.int .u8 a0, .int .u8 a1, .int .i64 a2, .int .i64 a3, .slice A l.length c] 39))
  have m2 : (Instr.mapUpdate 53 (.map (some (w.heap.size + 1))) (.int .u8 5) (.func (.func 37) #[] #[])).run Try.prog ((w.alloc (.cells #[.int .u8 a0, .int .u8 a1, .int .i64 a2, .int .i64 a3, .slice A l.length c] 39)).alloc (.map km2 2)) = .ok () ((w.alloc (.cells #[.int .u8 a0, .int .u8 a1, .int .i64 a2, .int .i64 a3, .slice A l.length c] 39)).alloc (.map km3 3)) := by simpa using ins2 (w.alloc (.cells #[.int .u8 a0, .int .u8 a1, .int .i64 a2, .int .i64 a3, .slice A l.length c] 39))
  have m3 : (Instr.mapUpdate 53 (.map (some (w.heap.size + 1))) (.int .u8 9) (.func (.func 38) #[] #[])).run Try.prog ((w.alloc (.cells #[.int .u8 a0, .int .u8 a1, .int .i64 a2, .int .i64 a3, .slice A l.length c] 39)).alloc (.map km3 3)) = .ok () ((w.alloc (.cells #[.int .u8 a0, .int .u8 a1, .int .i64 a2, .int .i64 a3, .slice A l.length c] 39)).alloc (.map km4 4)) := by simpa using ins3 (w.alloc (.cells #[.int .u8 a0, .int .u8 a1, .int .i64 a2, .int .i64 a3, .slice A l.length c] 39))
  have m4 : (Instr.mapUpdate 53 (.map (some (w.heap.size + 1))) (.int .u8 1) (.func (.func 39) #[] #[])).run Try.prog ((w.alloc (.cells #[.int .u8 a0, .int .u8 a1, .int .i64 a2, .int .i64 a3, .slice A l.length c] 39)).alloc (.map km4 4)) = .ok () ((w.alloc (.cells #[.int .u8 a0, .int .u8 a1, .int .i64 a2, .int .i64 a3, .slice A l.length c] 39)).alloc (.map km5 5)) := by simpa using ins4 (w.alloc (.cells #[.int .u8 a0, .int .u8 a1, .int .i64 a2, .int .i64 a3, .slice A l.length c] 39))
  have m5 : (Instr.mapUpdate 53 (.map (some (w.heap.size + 1))) (.int .u8 4) (.func (.func 39) #[] #[])).run Try.prog ((w.alloc (.cells #[.int .u8 a0, .int .u8 a1, .int .i64 a2, .int .i64 a3, .slice A l.length c] 39)).alloc (.map km5 5)) = .ok () ((w.alloc (.cells #[.int .u8 a0, .int .u8 a1, .int .i64 a2, .int .i64 a3, .slice A l.length c] 39)).alloc (.map km6 6)) := by simpa using ins5 (w.alloc (.cells #[.int .u8 a0, .int .u8 a1, .int .i64 a2, .int .i64 a3, .slice A l.length c] 39))
  have m6 : (Instr.mapUpdate 53 (.map (some (w.heap.size + 1))) (.int .u8 6) (.func (.func 39) #[] #[])).run Try.prog ((w.alloc (.cells #[.int .u8 a0, .int .u8 a1, .int .i64 a2, .int .i64 a3, .slice A l.length c] 39)).alloc (.map km6 6)) = .ok () ((w.alloc (.cells #[.int .u8 a0, .int .u8 a1, .int .i64 a2, .int .i64 a3, .slice A l.length c] 39)).alloc (.map km7 7)) := by simpa using ins6 (w.alloc (.cells #[.int .u8 a0, .int .u8 a1, .int .i64 a2, .int .i64 a3, .slice A l.length c] 39))
  have m7 : (Instr.mapUpdate 53 (.map (some (w.heap.size + 1))) (.int .u8 7) (.func (.func 39) #[] #[])).run Try.prog ((w.alloc (.cells #[.int .u8 a0, .int .u8 a1, .int .i64 a2, .int .i64 a3, .slice A l.length c] 39)).alloc (.map km7 7)) = .ok () ((w.alloc (.cells #[.int .u8 a0, .int .u8 a1, .int .i64 a2, .int .i64 a3, .slice A l.length c] 39)).alloc (.map km8 8)) := by simpa using ins7 (w.alloc (.cells #[.int .u8 a0, .int .u8 a1, .int .i64 a2, .int .i64 a3, .slice A l.length c] 39))
  have m8 : (Instr.mapUpdate 53 (.map (some (w.heap.size + 1))) (.int .u8 8) (.func (.func 39) #[] #[])).run Try.prog ((w.alloc (.cells #[.int .u8 a0, .int .u8 a1, .int .i64 a2, .int .i64 a3, .slice A l.length c] 39)).alloc (.map km8 8)) = .ok () ((w.alloc (.cells #[.int .u8 a0, .int .u8 a1, .int .i64 a2, .int .i64 a3, .slice A l.length c] 39)).alloc (.map km9 9)) := by simpa using ins8 (w.alloc (.cells #[.int .u8 a0, .int .u8 a1, .int .i64 a2, .int .i64 a3, .slice A l.length c] 39))
  have m9 : (Instr.mapUpdate 53 (.map (some (w.heap.size + 1))) (.int .u8 10) (.func (.func 39) #[] #[])).run Try.prog ((w.alloc (.cells #[.int .u8 a0, .int .u8 a1, .int .i64 a2, .int .i64 a3, .slice A l.length c] 39)).alloc (.map km9 9)) = .ok () ((w.alloc (.cells #[.int .u8 a0, .int .u8 a1, .int .i64 a2, .int .i64 a3, .slice A l.length c] 39)).alloc (.map km10 10)) := by simpa using ins9 (w.alloc (.cells #[.int .u8 a0, .int .u8 a1, .int .i64 a2, .int .i64 a3, .slice A l.length c] 39))
  have mk := @run_makeMap Try.prog
  have hz : ∀ W, (zeroValue 46).run Try.prog W = .ok .nilFunc W := fun _ => by kernel_rfl
  have lk : (Instr.lookup 53 (.map (some (w.heap.size + 1))) (.int .u8 a0) true).run Try.prog ((w.alloc (.cells #[.int .u8 a0, .int .u8 a1, .int .i64 a2, .int .i64 a3, .slice A l.length c] 39)).alloc (.map km10 10)) = .ok (.tuple #[.nilFunc, .bool false]) ((w.alloc (.cells #[.int .u8 a0, .int .u8 a1, .int .i64 a2, .int .i64 a3, .slice A l.length c] 39)).alloc (.map km10 10)) :=
    run_miss 53 5 46 Try.underlying53 Try.underlying5 _ _ km10 10 a0 .nilFunc (hz _) (by simpa using heap_alloc_last (w.alloc (.cells #[.int .u8 a0, .int .u8 a1, .int .i64 a2, .int .i64 a3, .slice A l.length c] 39)) (.map km10 10)) hf
  have HHB := Aside0.mk (Below.refl w.heap.size w)
  clear hf hz
  go_enter Try.func24, Try.ntmps24
  go_wp2
  go_ret
  exact ⟨rfl, below_alloc (below_alloc HHB.out _) _⟩
def numB (k a b : Int) : Bool :=
  if k = 2 then decide (a ≤ 3) && (decide (a < 3) || decide (0 < b))
  else if k = 3 then decide (a ≤ 2) && (a != 1 || decide (0 < b))
  else if k = 5 then decide (a ≤ 3) && b == 0
  else if k = 9 then a == 0 && decide (1 ≤ b) && decide (b ≤ 16)
  else decide (k = 1 ∨ k = 4 ∨ k = 6 ∨ k = 7 ∨ k = 8 ∨ k = 10) && (a == 0 && b == 0)
def check_numbers.f (a0 a1 a2 _a3 : Int) (_l : List Int) : Option Bool := some (numB a0 a1 a2)
theorem plain_f (a0 a1 a2 a3 : Int) (l : List Int) : check_plain.f a0 a1 a2 a3 l = some (a1 == 0 && a2 == 0) := by
  unfold check_plain.f
  by_cases h : a1 = 0 <;> simp [h]
theorem check_numbers.calls (a0 a1 a2 a3 : Int) (A : Option Addr) (c : Nat) (l : List Int) (r : Bool) (w : World) (hr : Kd.C (Kd.int .i64) w A l.length l) (hc : l.length ≤ c) (h : check_numbers.f a0 a1 a2 a3 l = some r) :
    Calls Try.prog 24 #[.agg #[.int .u8 a0, .int .u8 a1, .int .i64 a2, .int .i64 a3, .slice A l.length c]] w fun e w' => e = .returned (.bool r) ∧ Below w.heap.size w w' := by
  have hm : r = numB a0 a1 a2 := by simpa [check_numbers.f] using h.symm
  subst hm
  clear h
  by_cases k2 : a0 = 2
  · subst k2
    refine num_hit 2 a1 a2 a3 A c l _ w 35 0 rfl (enters_of Try.func35 (by kernel_rfl) rfl) fun W hb => check_numbers_1.calls 2 a1 a2 a3 A c l _ W (Kd.C_below hr hb) hc ?_
    unfold check_numbers_1.f numB
    by_cases h1 : a1 ≤ 3 <;> by_cases h2 : a1 < 3 <;> simp [h1, h2]
  by_cases k3 : a0 = 3
  · subst k3
    refine num_hit 3 a1 a2 a3 A c l _ w 36 1 rfl (enters_of Try.func36 (by kernel_rfl) rfl) fun W hb => check_numbers_2.calls 3 a1 a2 a3 A c l _ W (Kd.C_below hr hb) hc ?_
    unfold check_numbers_2.f numB
    by_cases h1 : a1 ≤ 2 <;> by_cases h2 : a1 = 1 <;> simp [h1, h2]
  by_cases k5 : a0 = 5
  · subst k5
    refine num_hit 5 a1 a2 a3 A c l _ w 37 2 rfl (enters_of Try.func37 (by kernel_rfl) rfl) fun W hb => check_numbers_3.calls 5 a1 a2 a3 A c l _ W (Kd.C_below hr hb) hc ?_
    unfold check_numbers_3.f numB
    by_cases h1 : a1 ≤ 3 <;> simp [h1]
  by_cases k9 : a0 = 9
  · subst k9
    refine num_hit 9 a1 a2 a3 A c l _ w 38 3 rfl (enters_of Try.func38 (by kernel_rfl) rfl) fun W hb => check_numbers_4.calls 9 a1 a2 a3 A c l _ W (Kd.C_below hr hb) hc ?_
    unfold check_numbers_4.f numB
    by_cases h1 : a1 = 0 <;> by_cases h2 : a2 ≥ 1 <;> simp [h1, h2]
  by_cases k1 : a0 = 1
  · subst k1
    exact num_hit 1 a1 a2 a3 A c l _ w 39 4 rfl (enters_of Try.func39 (by kernel_rfl) rfl) fun W hb => check_plain.calls 1 a1 a2 a3 A c l _ W (Kd.C_below hr hb) hc (by rw [plain_f]; rfl)
  by_cases k4 : a0 = 4
  · subst k4
    exact num_hit 4 a1 a2 a3 A c l _ w 39 5 rfl (enters_of Try.func39 (by kernel_rfl) rfl) fun W hb => check_plain.calls 4 a1 a2 a3 A c l _ W (Kd.C_below hr hb) hc (by rw [plain_f]; rfl)
  by_cases k6 : a0 = 6
  · subst k6
    exact num_hit 6 a1 a2 a3 A c l _ w 39 6 rfl (enters_of Try.func39 (by kernel_rfl) rfl) fun W hb => check_plain.calls 6 a1 a2 a3 A c l _ W (Kd.C_below hr hb) hc (by rw [plain_f]; rfl)
  by_cases k7 : a0 = 7
  · subst k7
    exact num_hit 7 a1 a2 a3 A c l _ w 39 7 rfl (enters_of Try.func39 (by kernel_rfl) rfl) fun W hb => check_plain.calls 7 a1 a2 a3 A c l _ W (Kd.C_below hr hb) hc (by rw [plain_f]; rfl)
  by_cases k8 : a0 = 8
  · subst k8
    exact num_hit 8 a1 a2 a3 A c l _ w 39 8 rfl (enters_of Try.func39 (by kernel_rfl) rfl) fun W hb => check_plain.calls 8 a1 a2 a3 A c l _ W (Kd.C_below hr hb) hc (by rw [plain_f]; rfl)
  by_cases k10 : a0 = 10
  · subst k10
    exact num_hit 10 a1 a2 a3 A c l _ w 39 9 rfl (enters_of Try.func39 (by kernel_rfl) rfl) fun W hb => check_plain.calls 10 a1 a2 a3 A c l _ W (Kd.C_below hr hb) hc (by rw [plain_f]; rfl)
  have hz : numB a0 a1 a2 = false := by simp [numB, k2, k3, k5, k9, k1, k4, k6, k7, k8, k10]
  rw [hz]
  refine num_miss a0 a1 a2 a3 A c l w ?_
  simp [km10, Instr.findNow, Instr.sameNow, beq_eq_false_iff_ne.2 k2, beq_eq_false_iff_ne.2 k3, beq_eq_false_iff_ne.2 k5, beq_eq_false_iff_ne.2 k9, beq_eq_false_iff_ne.2 k1, beq_eq_false_iff_ne.2 k4, beq_eq_false_iff_ne.2 k6, beq_eq_false_iff_ne.2 k7, beq_eq_false_iff_ne.2 k8, beq_eq_false_iff_ne.2 k10]
end Go.Proofs.Ytnjlonenckifpaa.X
namespace Go.Proofs.Ytnjlonenckifpaa.X
set_option linter.unusedVariables false
set_option linter.unusedSimpArgs false
open Go.RowKit Go.Proofs.YtnjlonenckifpaaW.PrintWords Go.Proofs.YtnjlonenckifpaaW.PrintLast Go.Proofs.YtnjlonenckifpaaW.PrintMore
def gone (th : List Bool) (x : Int) : Bool := !th.getD x.toNat false
def okAt (G : List S39) (th : List Bool) (i : Nat) : Bool := !th.getD i false && ((rd_T39 G (i : Int)).f0 == 9 || !(rd_T39 G (i : Int)).f4.any (gone th))
def orderGo (G : List S39) : Nat → List Bool → List Int → List Int
  | 0, _, out => out
  | f + 1, th, out => match (List.range G.length).find? (okAt G th) with
    | none => out
    | some i => orderGo G f (th.set i true) (out ++ [(i : Int)])
def orderL (G : List S39) : List Int := orderGo G (G.length + 1) (List.replicate G.length false) []
def insOk (G : List S39) : Bool := decide (G.length ≤ 64) && G.all fun n => n.f4.all (inRange G)
def check_order.f (G : List S39) : Option (List Int) := if insOk G = true then some (orderL G) else none
theorem find_range_some {n : Nat} {p : Nat → Bool} {i : Nat} (hi : i < n) (hp : p i = true) (hb : ∀ j, j < i → p j = false) : (List.range n).find? p = some i := by
  rw [List.find?_eq_some_iff_append]
  refine ⟨hp, List.range i, (List.range (n - i - 1)).map (i + 1 + ·), ?_, fun j hj => by simp [hb j (List.mem_range.1 hj)]⟩
  apply List.ext_getElem?
  intro k
  rcases Nat.lt_trichotomy k i with h | h | h
  · rw [List.getElem?_append_left (by simpa using h)]
    simp [h, show k < n by omega]
  · subst h
    rw [List.getElem?_append_right (by simp)]
    simp [hi]
  · rw [List.getElem?_append_right (by simp; omega)]
    simp only [List.length_range]
    rw [show k - i = (k - i - 1) + 1 by omega, List.getElem?_cons_succ]
    by_cases hk : k < n
    · simp [hk, show k - i - 1 < n - i - 1 by omega]; omega
    · rw [List.getElem?_eq_none (by simp; omega), List.getElem?_eq_none (by simp; omega)]
theorem find_range_none {n : Nat} {p : Nat → Bool} (hb : ∀ j, j < n → p j = false) : (List.range n).find? p = none := by
  rw [List.find?_eq_none]
  intro j hj
  simp [hb j (List.mem_range.1 hj)]
theorem count_set {th : List Bool} {i : Nat} (hi : i < th.length) (h : th.getD i false = false) : (th.set i true).count false + 1 = th.count false := by
  have h1 : th[i]? = some false := by
    simp only [List.getD_eq_getElem?_getD] at h
    rw [List.getElem?_eq_getElem hi] at h ⊢
    simpa using h
  have h2 : th[i] = false := by rw [List.getElem?_eq_getElem hi] at h1; simpa using h1
  rw [List.count_set hi]
  have h3 : 0 < th.count false := List.count_pos_iff.2 (List.mem_of_getElem? h1)
  simp [h2]
  omega
def boolRow (th : List Bool) : Array Value := (th.map Value.bool).toArray
theorem boolRow_set (th : List Bool) (i : Nat) (v : Bool) : (boolRow th).setIfInBounds i (.bool v) = boolRow (th.set i v) := by
  simp [boolRow, List.map_set]
theorem madeBools (n : Nat) : madeCells #[.bool false] (n * 1) = boolRow (List.replicate n false) := by
  apply Array.ext
  · simp [madeCells, boolRow]
  · intro i h1 h2
    simp [madeCells, boolRow, Nat.mod_one]
structure Row (w : World) (b : Nat) (th : List Bool) : Prop where mk :: (blk : w.heap[b]? = some (.cells (boolRow th) 4 (0, 0)))
theorem Row.cell {w : World} {b : Nat} {th : List Bool} (h : Row w b th) (i : Nat) (hi : i < th.length) : w.cell? ⟨b, i, none⟩ = some (.bool (th.getD i false)) := by
  simp [World.cell?, h.blk, boolRow, hi]
theorem Row.free {w : World} {b : Nat} {th : List Bool} (h : Row w b th) (i : Nat) : w.frozen? ⟨b, i, none⟩ = false := by
  simp [World.frozen?, h.blk]
theorem Row.lt {w : World} {b : Nat} {th : List Bool} (h : Row w b th) : b < w.heap.size := (Array.getElem?_eq_some_iff.1 h.blk).1
theorem Row.below {w w1 : World} {b : Nat} {th : List Bool} (h : Row w b th) (hb : Below w.heap.size w w1) : Row w1 b th := ⟨(hb.block b h.lt).trans h.blk⟩
theorem Row.grown {w w1 : World} {b : Nat} {th : List Bool} {row : Option Nat} (h : Row w b th) (hg : w.grownBy w1 row) (hne : some b ≠ row) : Row w1 b th := ⟨(hg.block b h.lt hne).trans h.blk⟩
theorem Row.drewN {w : World} {b : Nat} {th : List Bool} (h : Row w b th) (n : Nat) : Row (w.drewN n) b th := ⟨h.blk⟩
theorem Row.alloc {w : World} {b : Nat} {th : List Bool} (h : Row w b th) (o : Obj) : Row (w.alloc o) b th := h.below (below_alloc (Below.refl _ _) o)
theorem Row.set {w : World} {b : Nat} {th : List Bool} (h : Row w b th) (i : Nat) (v : Bool) : Row (w.setCell ⟨b, i, none⟩ (.bool v)) b (th.set i v) := ⟨by
  rw [heap_setCell_same w b i _ 4 _ h.blk, boolRow_set]⟩
theorem Row.far {w : World} {b : Nat} {th : List Bool} (h : Row w b th) {p : Addr} (hp : b ≠ p.block) (u : Value) : Row (w.setCell p u) b th := ⟨(Below.heap_setCell w p u b hp).trans h.blk⟩
structure Var (w : World) (b : Nat) (v : Value) (t : TypeId) : Prop where mk :: (blk : w.heap[b]? = some (.cells #[v] t (0, 0)))
theorem Var.cell {w : World} {b : Nat} {v : Value} {t : TypeId} (h : Var w b v t) : w.cell? ⟨b, 0, none⟩ = some v := by simp [World.cell?, h.blk]
theorem Var.lt {w : World} {b : Nat} {v : Value} {t : TypeId} (h : Var w b v t) : b < w.heap.size := (Array.getElem?_eq_some_iff.1 h.blk).1
theorem Var.below {w w1 : World} {b : Nat} {v : Value} {t : TypeId} (h : Var w b v t) (hb : Below w.heap.size w w1) : Var w1 b v t := ⟨(hb.block b h.lt).trans h.blk⟩
theorem Var.grown {w w1 : World} {b : Nat} {v : Value} {t : TypeId} {row : Option Nat} (h : Var w b v t) (hg : w.grownBy w1 row) (hne : some b ≠ row) : Var w1 b v t := ⟨(hg.block b h.lt hne).trans h.blk⟩
theorem Var.drewN {w : World} {b : Nat} {v : Value} {t : TypeId} (h : Var w b v t) (n : Nat) : Var (w.drewN n) b v t := ⟨h.blk⟩
theorem Var.alloc {w : World} {b : Nat} {v : Value} {t : TypeId} (h : Var w b v t) (o : Obj) : Var (w.alloc o) b v t := h.below (below_alloc (Below.refl _ _) o)
theorem Var.far {w : World} {b : Nat} {v : Value} {t : TypeId} (h : Var w b v t) {p : Addr} (hp : b ≠ p.block) (u : Value) : Var (w.setCell p u) b v t := ⟨(Below.heap_setCell w p u b hp).trans h.blk⟩
set_option maxHeartbeats 2000000 in
theorem gone_calls (th : List Bool) (n : Nat) (hn : th.length = n) (hn2 : n ≤ 64) (x : Int) (h0 : 0 ≤ x) (h1 : x < (n : Int)) (b0 b1 : Nat) (w : World) (hv : Var w b1 (.slice (some ⟨b0, 0, none⟩) n n) 37) (hr : Row w b0 th) :
    Calls Try.prog 51 #[.int .i64 x, .pointer (some ⟨b1, 0, none⟩)] w fun e w' => e = .returned (.bool (gone th x)) ∧ ∃ q', w' = w.drewN q' := by
  have hc1 := hv.cell
  have hc0 := hr.cell x.toNat (by omega)
  have HP := Aside0.mk (show gone th x = !(th.getD x.toNat false) from rfl)
  have hk : n ≤ 9223372036854775807 := by omega
  generalize th.getD x.toNat false = v at hc0 HP
  clear hv hr hn
  go_enter Try.func51, Try.ntmps51
  go_wp2
  go_ret
  exact ⟨by rw [HP.out]; rfl, 0, rfl⟩
theorem Asks.gone {th : List Bool} {n : Nat} (hn : th.length = n) (hn2 : n ≤ 64) {l : List Int} (hl : ∀ x ∈ l, 0 ≤ x ∧ x < (n : Int)) {b0 b1 : Nat} {w : World} (hv : Var w b1 (.slice (some ⟨b0, 0, none⟩) n n) 37) (hr : Row w b0 th) :
    Asks 51 #[.pointer (some ⟨b1, 0, none⟩)] (gone th) l w := fun j x hj q =>
  gone_calls th n hn hn2 x (hl x (List.mem_of_getElem? hj)).1 (hl x (List.mem_of_getElem? hj)).2 b0 b1 _ (hv.drewN q) (hr.drewN q)
end Go.Proofs.Ytnjlonenckifpaa.X
namespace Go.Proofs.Ytnjlonenckifpaa.X
set_option linter.unusedVariables false
set_option linter.unusedSimpArgs false
open Go.RowKit Go.Proofs.YtnjlonenckifpaaW.PrintWords Go.Proofs.YtnjlonenckifpaaW.PrintLast Go.Proofs.YtnjlonenckifpaaW.PrintMore
theorem insOk_at {G : List S39} (h : insOk G = true) (i : Nat) (hi : i < G.length) : ∀ x ∈ (rd_T39 G (i : Int)).f4, 0 ≤ x ∧ x < (G.length : Int) := by
  simp only [insOk, Bool.and_eq_true, List.all_eq_true] at h
  intro x hx
  have := h.2 (rd_T39 G (i : Int)) (by simp [rd_T39, hi]) x hx
  simpa [inRange] using this
theorem run_make_row0 (n : Nat) (hn : n ≤ 64) (W : World) : (Instr.makeSlice 37 (.int .i64 (n : Int)) (.int .i64 (n : Int))).run Try.prog W = .ok (.slice (some ⟨W.heap.size, 0, none⟩) n n) (W.alloc (.cells (boolRow (List.replicate n false)) 4)) := by
  obtain ⟨i, hi, hz, hs, hb⟩ := info_parts info4
  have := run_make (P := Try.prog) W 37 4 i (.bool false) Try.underlying37 hi hz .i64 .i64 (n : Int) (n : Int) (by omega) (by omega) (by rw [hb]; omega) (by omega)
  simp only [Int.toNat_natCast, hs] at this
  rw [this, ← madeBools]
  rfl
theorem okAt_step {G : List S39} {th : List Bool} {k : Nat} (h : ∀ j, j < k → okAt G th j = false) (hk : okAt G th k = false) : ∀ j, j < k + 1 → okAt G th j = false := fun j hj => by
  by_cases e : j = k
  · rw [e]; exact hk
  · exact h j (by omega)
theorem orderGo_found {G : List S39} {th : List Bool} {out : List Int} {k : Nat} (f : Nat) (hk : k < G.length) (hF : okAt G th k = true) (hb : ∀ j, j < k → okAt G th j = false) : orderGo G (f + 1) th out = orderGo G f (th.set k true) (out ++ [(k : Int)]) := by
  rw [orderGo, find_range_some hk hF hb]
theorem orderGo_none {G : List S39} {th : List Bool} {out : List Int} (f : Nat) (hb : ∀ j, j < G.length → okAt G th j = false) : orderGo G (f + 1) th out = out := by
  rw [orderGo, find_range_none hb]
theorem below_at {w W W' : World} (h : W' = W) (k : Below w.heap.size w W) : Below w.heap.size w W' := by rw [h]; exact k
theorem row_at {W W' : World} (h : W' = W) {b : Nat} {th : List Bool} (k : Row W b th) : Row W' b th := by rw [h]; exact k
theorem var_at {W W' : World} (h : W' = W) {b : Nat} {v : Value} {t : TypeId} (k : Var W b v t) : Var W' b v t := by rw [h]; exact k
theorem r_at {W W' : World} (h : W' = W) {α : Type} {d : Kd α} {e base : Nat} {ok : Nat → Prop} {v : Value} {xs : List α} (k : Kd.R d e W base ok v xs) : Kd.R d e W' base ok v xs := by rw [h]; exact k
theorem ne34 : ∀ q, q ∈ 3 :: (Kd.int .i64).E → q ≠ 4 := by
  intro q hq
  simp [Kd.int, Kd.scalar] at hq
  omega
set_option maxHeartbeats 8000000 in
set_option maxRecDepth 100000 in
theorem check_order.calls (A : Option Addr) (c : Nat) (G : List S39) (r : List Int) (w : World) (hr : Kd.C k39 w A G.length G) (_hc : G.length ≤ c) (h : check_order.f G = some r) :
    Calls Try.prog 34 #[.slice A G.length c] w fun e w' => ∃ v0_ : Value, e = .returned (v0_) ∧ Kd.R (Kd.int .i64) 3 w' w.heap.size (fun _ => True) v0_ r ∧ Below w.heap.size w w' := by
  have hm : insOk G = true ∧ orderL G = r := by simpa [check_order.f] using h
  obtain ⟨hok, hres⟩ := hm
  clear h _hc
  have hn : G.length ≤ 64 := by simp [insOk] at hok; exact hok.1
  have HOK := Aside0.mk hok
  have HRES := Aside0.mk hres
  have HR := Aside0.mk hr
  clear hr hok hres
  have hmk := fun W : World => run_make_row0 G.length hn W
  have eg := enters_of Try.func51 (by kernel_rfl) rfl
  have HB0 := Aside0.mk (Below.refl w.heap.size w)
  go_enter Try.func34, Try.ntmps34
  go_wp2
  go_loopg [5, 6] (G.length + 1) (fun gg v5 v6 wr => ∃ (th : List Bool) (out : List Int) (fb : Bool), v6 = .bool fb ∧ Aside0 (th.length = G.length) ∧ Aside0 (Row wr w.heap.size th) ∧
      Aside0 (Var wr (w.heap.size + 1) (.slice (some ⟨w.heap.size, 0, none⟩) G.length G.length) 37) ∧ Aside0 (Kd.R (Kd.int .i64) 3 wr w.heap.size (fun _ => True) v5 out) ∧
      Aside0 ((fb = true → orderGo G gg th out = r ∧ th.count false < gg) ∧ (fb = false → out = r)) ∧ Aside0 (out.length + th.count false ≤ 64) ∧ Aside0 (Below w.heap.size w wr))
  case atStart =>
    refine ⟨List.replicate G.length false, [], true, rfl, ⟨by simp⟩, ⟨Row.alloc ⟨heap_alloc_last w _⟩ _⟩, ⟨⟨?_⟩⟩, ⟨Kd.R_nil _ _ _ _ _⟩, ⟨fun _ => ⟨HRES.out, ?_⟩, fun h => by cases h⟩, ⟨?_⟩, ⟨below_alloc (below_alloc HB0.out _) _⟩⟩
    · have := heap_alloc_last (w.alloc (.cells (boolRow (List.replicate G.length false)) 4)) (.cells #[.slice (some ⟨w.heap.size, 0, none⟩) G.length G.length] 37)
      simpa using this
    · simp
    · simp; omega
  case round =>
    obtain ⟨th, out, fb, rfl, HTL, HROW, HVAR, HOUT, HGO, HCNT, HB⟩ := hrel
    cases fb with
    | false =>
      obtain rfl := HGO.out.2 rfl
      clear HGO
      go_wp2
      go_ret
      exact ⟨u5, rfl, HOUT.out, HB.out⟩
    | true =>
      cases gk with
      | zero => exact absurd (HGO.out.1 rfl).2 (by omega)
      | succ gg =>
        have HGO1 := Aside0.mk (HGO.out.1 rfl).1
        have HGO2 := Aside0.mk (HGO.out.1 rfl).2
        clear HGO
        go_wp2
        obtain ⟨wo, rfl⟩ : ∃ wo : World, wo = wr := ⟨_, rfl⟩
        go_loopg [5, 6, 16] G.length (fun g2 v5 v6 v16 wr => v5 = u5 ∧ v6 = .bool false ∧ ∃ k : Nat, v16 = .int .i64 k ∧ k ≤ G.length ∧ G.length - k ≤ g2 ∧ Aside0 (∀ j, j < k → okAt G th j = false) ∧ Aside0 (Row wr w.heap.size th) ∧
          Aside0 (Var wr (w.heap.size + 1) (.slice (some ⟨w.heap.size, 0, none⟩) G.length G.length) 37) ∧ Aside0 (Kd.R (Kd.int .i64) 3 wr w.heap.size (fun _ => True) u5 out) ∧ Aside0 (Below w.heap.size w wr))
        case atStart => exact ⟨rfl, rfl, 0, rfl, Nat.zero_le _, by omega, ⟨fun j hj => absurd hj (Nat.not_lt_zero _)⟩, HROW, HVAR, HOUT, HB⟩
        case round =>
          clear HROW HVAR HOUT HB
          obtain ⟨rfl, rfl, k, rfl, hk, hg2, HNO, HROW, HVAR, HOUT, HB⟩ := hrel
          by_cases hlt : k < G.length
          · have hltz : (k : Int) < (G.length : Int) := by omega
            obtain ⟨ad, A4, c4, eA, q0, q1, q2, q3, q4, hl4, hC4⟩ := at_T39 (Kd.C_below HR.out HB.out) (k : Int) (by omega) hltz
            subst eA
            simp only [Int.toNat_natCast] at q0 q1 q2 q3 q4
            have HC4 := Aside0.mk hC4
            have HIN := Aside0.mk (insOk_at HOK.out k hlt)
            have HOKAT := Aside0.mk (show okAt G th k = (!th.getD k false && ((rd_T39 G (k : Int)).f0 == 9 || !(rd_T39 G (k : Int)).f4.any (gone th))) from rfl)
            clear hC4 hl4
            have hc1 := HVAR.out.cell
            have hl1 := HVAR.out.lt
            have hc0 := HROW.out.cell k (by rw [HTL.out]; exact hlt)
            have hl0 := HROW.out.lt
            have hf0 := HROW.out.free k
            generalize rd_T39 G (k : Int) = nd at q0 q1 q2 q3 q4 HC4 HIN HOKAT
            have hkb : k ≤ 64 := by omega
            by_cases hth : th.getD k false = true
            · rw [hth] at hc0
              have HF := Aside0.mk (show okAt G th k = false by rw [HOKAT.out, hth]; rfl)
              clear hth
              go_wp2
              go_roundg (G.length - (k + 1))
              case measure => omega
              case rel => exact ⟨rfl, rfl, k + 1, by go_num, by omega, by omega, ⟨okAt_step HNO.out HF.out⟩, ⟨HROW.out.alloc _⟩, ⟨HVAR.out.alloc _⟩, ⟨Kd.R_alloc HOUT.out _⟩, ⟨below_alloc HB.out _⟩⟩
            · have hth' : th.getD k false = false := by simpa using hth
              clear hth
              rw [hth'] at hc0
              have HCS := Aside0.mk (count_set (by rw [HTL.out]; exact hlt) hth')
              have HTH := Aside0.mk hth'
              have HNA := Aside0.mk (Kd.R_ne HOUT.out HROW.out.blk (by decide))
              have HNB := Aside0.mk (Kd.R_ne HOUT.out HVAR.out.blk (by decide))
              clear hth'
              have HNEXT0 := Aside0.mk (fun hF : okAt G th k = true => (orderGo_found (out := out) gg hlt hF HNO.out).symm.trans HGO1.out)
              by_cases h9 : nd.f0 = 9
              · have h9b : (nd.f0 == 9) = true := beq_iff_eq.2 h9
                have HNEXT := Aside0.mk (HNEXT0.out (by rw [HOKAT.out, HTH.out, h9b]; rfl))
                clear h9
                go_wp2_with (first | ((with_reducible refine gate_builtin (b := .append) (xs := #[.tmp 41, .tmp 43]) rfl ?_); at_builtin; (refine Kd.R_append (Kd.int .i64) (w0 := w) w.heap.size rfl (.tmp 41) (.tmp 43) 33 3 (.int .i64 0) 8 rfl Try.underlying33 info3 rfl (by decide) (by omega) u5 out (k : Int) [.int .i64 (k : Int)] (fun _ => True) (fun _ => False) rfl ?aX ?aP (fun _ hk => hk.elim) ?aF ?aO ?aB ?aS ?aL ?_; (case aX => show Value.slice (some ⟨wr.heap.size + 1, 0, none⟩) 1 1 = _; simp); (case aP => exact rfl); (case aB => exact below_alloc (below_set HB.out (Nat.le_refl _)) _); (case aF => exact (fun _ _ => trivial)); (case aO => exact Kd.R_alloc (Kd.R_set HOUT.out HROW.out.blk ne34 k (.bool true)) _); (case aS => exact below_size (below_alloc (below_set HB.out (Nat.le_refl _)) _)); (case aL => have := HCNT.out; omega); intro v118 w4 ho hb hg hat; (have HOUT1 := Aside0.mk ho); (have HB1 := Aside0.mk hb); (have HROW1 := Aside0.mk (Row.grown (Row.alloc (Row.set HROW.out k true) _) hg HNA.out)); (have HVAR1 := Aside0.mk (Var.grown (Var.alloc (Var.far HVAR.out (p := ⟨w.heap.size, k, none⟩) (by simp) _) _) hg HNB.out)); clear ho hb hg hat)))
                go_roundg gg
                case measure => omega
                case rel => exact ⟨th.set k true, out ++ [(k : Int)], true, rfl, ⟨by rw [List.length_set]; exact HTL.out⟩, HROW1, HVAR1, HOUT1, ⟨(fun _ => ⟨HNEXT.out, by have := HCS.out; have := HGO2.out; omega⟩), (fun h => nomatch h)⟩, ⟨by rw [List.length_append]; have := HCS.out; have := HCNT.out; simp; omega⟩, HB1⟩
              · have h9b : (nd.f0 == 9) = false := beq_eq_false_iff_ne.2 h9
                clear h9
                cases hany : nd.f4.any (gone th) with
                | true =>
                  have HF := Aside0.mk (show okAt G th k = false by rw [HOKAT.out, hany, h9b]; simp)
                  have HANY := Aside0.mk hany
                  clear hany
                  go_wp2_with (first | (go_at_call 42; refine (contains_calls A4 c4 nd.f4 51 #[.pointer (some ⟨w.heap.size + 1, 0, none⟩)] (gone th) eg _ (Kd.C_alloc HC4.out _) (Asks.gone HTL.out hn HIN.out (HVAR.out.alloc _) (HROW.out.alloc _))).mono ?_; rintro e w6 ⟨rfl, q, hw⟩; (have HW := Aside0.mk hw; clear hw); (have HB6 := Aside0.mk (below_at HW.out (pw_below_drewN (below_alloc HB.out _) q))); (have HROW6 := Aside0.mk (row_at HW.out ((HROW.out.alloc _).drewN q))); (have HVAR6 := Aside0.mk (var_at HW.out ((HVAR.out.alloc _).drewN q))); (have HOUT6 := Aside0.mk (r_at HW.out (Kd.R_drewN (Kd.R_alloc HOUT.out _) q))); clear HW; (rw [HANY.out])))
                  go_roundg (G.length - (k + 1))
                  case measure => omega
                  case rel => exact ⟨rfl, rfl, k + 1, by go_num, by omega, by omega, ⟨okAt_step HNO.out HF.out⟩, HROW6, HVAR6, HOUT6, HB6⟩
                | false =>
                  have HNEXT := Aside0.mk (HNEXT0.out (by rw [HOKAT.out, HTH.out, h9b, hany]; rfl))
                  have HANY := Aside0.mk hany
                  clear hany
                  go_wp2_with (first | (go_at_call 42; refine (contains_calls A4 c4 nd.f4 51 #[.pointer (some ⟨w.heap.size + 1, 0, none⟩)] (gone th) eg _ (Kd.C_alloc HC4.out _) (Asks.gone HTL.out hn HIN.out (HVAR.out.alloc _) (HROW.out.alloc _))).mono ?_; rintro e w6 ⟨rfl, q, hw⟩; (have HW := Aside0.mk hw; clear hw); (have HB6 := Aside0.mk (below_at HW.out (pw_below_drewN (below_alloc HB.out _) q))); (have HROW6 := Aside0.mk (row_at HW.out ((HROW.out.alloc _).drewN q))); (have HVAR6 := Aside0.mk (var_at HW.out ((HVAR.out.alloc _).drewN q))); (have HOUT6 := Aside0.mk (r_at HW.out (Kd.R_drewN (Kd.R_alloc HOUT.out _) q))); clear HW; (rw [HANY.out]); (have c61 := HVAR6.out.cell); (have c60 := HROW6.out.cell k (by rw [HTL.out]; exact hlt)); (rw [HTH.out] at c60); (have f60 := HROW6.out.free k); (have l60 := HROW6.out.lt)) | ((with_reducible refine gate_builtin (b := .append) (xs := #[.tmp 41, .tmp 43]) rfl ?_); at_builtin; (refine Kd.R_append (Kd.int .i64) (w0 := w) w.heap.size rfl (.tmp 41) (.tmp 43) 33 3 (.int .i64 0) 8 rfl Try.underlying33 info3 rfl (by decide) (by omega) u5 out (k : Int) [.int .i64 (k : Int)] (fun _ => True) (fun _ => False) rfl ?aX ?aP (fun _ hk => hk.elim) ?aF ?aO ?aB ?aS ?aL ?_; (case aX => show Value.slice (some ⟨w6.heap.size, 0, none⟩) 1 1 = _; simp); (case aP => exact rfl); (case aB => exact below_set HB6.out (Nat.le_refl _)); (case aF => exact (fun _ _ => trivial)); (case aO => exact Kd.R_set HOUT6.out HROW6.out.blk ne34 k (.bool true)); (case aS => exact below_size (below_set HB6.out (Nat.le_refl _))); (case aL => have := HCNT.out; omega); intro v118 w4 ho hb hg hat; (have HOUT1 := Aside0.mk ho); (have HB1 := Aside0.mk hb); (have HROW1 := Aside0.mk (Row.grown (Row.set HROW6.out k true) hg HNA.out)); (have HVAR1 := Aside0.mk (Var.grown (Var.far HVAR6.out (p := ⟨w.heap.size, k, none⟩) (by simp) _) hg HNB.out)); clear ho hb hg hat)))
                  go_roundg gg
                  case measure => omega
                  case rel => exact ⟨th.set k true, out ++ [(k : Int)], true, rfl, ⟨by rw [List.length_set]; exact HTL.out⟩, HROW1, HVAR1, HOUT1, ⟨(fun _ => ⟨HNEXT.out, by have := HCS.out; have := HGO2.out; omega⟩), (fun h => nomatch h)⟩, ⟨by rw [List.length_append]; have := HCS.out; have := HCNT.out; simp; omega⟩, HB1⟩
          · have hke : k = G.length := by omega
            subst hke
            have HFIN := Aside0.mk (show out = r by have := HGO1.out; rw [orderGo_none gg HNO.out] at this; exact this)
            have hltz : ¬ (G.length : Int) < (G.length : Int) := by omega
            go_wp2
            go_roundg gg
            case measure => omega
            case rel => exact ⟨th, out, false, rfl, HTL, HROW, HVAR, HOUT, ⟨(fun h => nomatch h), fun _ => HFIN.out⟩, HCNT, HB⟩
end Go.Proofs.Ytnjlonenckifpaa.X
namespace Go.Proofs.Ytnjlonenckifpaa.X
set_option linter.unusedVariables false
set_option linter.unusedSimpArgs false
open Go.RowKit Go.Proofs.YtnjlonenckifpaaW.PrintWords Go.Proofs.YtnjlonenckifpaaW.PrintLast Go.Proofs.YtnjlonenckifpaaW.PrintMore
def portsOf (i a : Int) : List Int → Int → List S69
  | [], _ => []
  | x :: xs, k => if x = i then ⟨a, k⟩ :: portsOf i a xs (k + 1) else portsOf i a xs (k + 1)
def toFrom (i : Int) : List S39 → Int → List S69
  | [], _ => []
  | n :: ns, a => portsOf i a n.f4 0 ++ toFrom i ns (a + 1)
def toL (G : List S39) (i : Int) : List S69 := toFrom i G 0
def small (G : List S39) : Bool := decide (G.length ≤ 64) && G.all fun n => decide (n.f4.length ≤ 64)
theorem portsOf_length (i a : Int) : ∀ (l : List Int) (k : Int), (portsOf i a l k).length ≤ l.length
  | [], _ => by simp [portsOf]
  | x :: xs, k => by
    have := portsOf_length i a xs (k + 1)
    unfold portsOf
    split <;> simp <;> omega
theorem portsOf_mem (i a : Int) : ∀ (l : List Int) (k : Int) (p : S69), p ∈ portsOf i a l k → p.f0 = a
  | [], _, _, h => by simp [portsOf] at h
  | x :: xs, k, p, h => by
    unfold portsOf at h
    split at h
    · rcases List.mem_cons.1 h with rfl | h
      · rfl
      · exact portsOf_mem i a xs _ p h
    · exact portsOf_mem i a xs _ p h
theorem portsOf_any (i a : Int) : ∀ (l : List Int) (k : Int), (portsOf i a l k ≠ []) ↔ i ∈ l
  | [], _ => by simp [portsOf]
  | x :: xs, k => by
    unfold portsOf
    by_cases h : x = i
    · simp [h]
    · rw [if_neg h, portsOf_any i a xs]
      simp [Ne.symm h]
theorem toFrom_mem (i : Int) : ∀ (G : List S39) (a : Int) (p : S69), p ∈ toFrom i G a → a ≤ p.f0 ∧ p.f0 < a + G.length
  | [], _, _, h => by simp [toFrom] at h
  | n :: ns, a, p, h => by
    rcases List.mem_append.1 h with h | h
    · have := portsOf_mem _ _ _ _ _ h
      simp; omega
    · have := toFrom_mem i ns (a + 1) p h
      simp; omega
theorem toFrom_has (i : Int) : ∀ (G : List S39) (a : Int) (j : Nat), (∃ p, p ∈ toFrom i G a ∧ p.f0 = a + j) ↔ ∃ n, G[j]? = some n ∧ i ∈ n.f4
  | [], _, _ => by simp [toFrom]
  | n :: ns, a, j => by
    have ih := toFrom_has i ns (a + 1)
    constructor
    · rintro ⟨p, hp, hj⟩
      rcases List.mem_append.1 hp with h | h
      · have h0 := portsOf_mem _ _ _ _ _ h
        have : j = 0 := by omega
        subst this
        exact ⟨n, by simp, (portsOf_any i a n.f4 0).1 (List.ne_nil_of_mem h)⟩
      · have h0 := toFrom_mem i ns (a + 1) p h
        obtain ⟨m, rfl⟩ : ∃ m, j = m + 1 := ⟨j - 1, by omega⟩
        obtain ⟨n', hn, hi⟩ := (ih m).1 ⟨p, h, by omega⟩
        exact ⟨n', by simpa using hn, hi⟩
    · rintro ⟨n', hn, hi⟩
      cases j with
      | zero =>
        simp at hn
        subst hn
        have h := (portsOf_any i a n.f4 0).2 hi
        obtain ⟨p, hp⟩ := List.exists_mem_of_ne_nil _ h
        exact ⟨p, List.mem_append_left _ hp, by have := portsOf_mem _ _ _ _ _ hp; omega⟩
      | succ m =>
        obtain ⟨p, hp, h0⟩ := (ih m).2 ⟨n', by simpa using hn, hi⟩
        exact ⟨p, List.mem_append_right _ hp, by omega⟩
theorem toL_mem {G : List S39} {i : Int} {p : S69} (h : p ∈ toL G i) : 0 ≤ p.f0 ∧ p.f0 < G.length := by
  have := toFrom_mem i G 0 p h
  omega
theorem toL_has (G : List S39) (i : Int) (j : Nat) : ((toL G i).any fun p => p.f0.toNat == j) = true ↔ ∃ n, G[j]? = some n ∧ i ∈ n.f4 := by
  rw [← toFrom_has i G 0 j, List.any_eq_true]
  constructor
  · rintro ⟨p, hp, h⟩
    have h1 := toL_mem hp
    have : p.f0.toNat = j := by simpa using h
    exact ⟨p, hp, by omega⟩
  · rintro ⟨p, hp, h⟩
    exact ⟨p, hp, by simp; omega⟩
theorem toFrom_length (i : Int) : ∀ (G : List S39) (a : Int), (∀ n ∈ G, n.f4.length ≤ 64) → (toFrom i G a).length ≤ G.length * 64
  | [], _, _ => by simp [toFrom]
  | n :: ns, a, h => by
    have h1 := toFrom_length i ns (a + 1) (fun m hm => h m (List.mem_cons_of_mem _ hm))
    have h2 := portsOf_length i a n.f4 0
    have h3 := h n List.mem_cons_self
    simp only [toFrom, List.length_append, List.length_cons]
    omega
theorem wrap_small {x : Int} (h0 : -1000000 ≤ x) (h1 : x ≤ 1000000) : wrap64 x = x := by unfold wrap64; omega
theorem rd_nat (xs : List Int) (k : Nat) : rd xs (k : Int) = xs.getD k 0 := by simp [rd]
theorem to_l1 (G : List S39) (i : Int) (a : Nat) (ha : a < G.length) (hs : small G = true) : ∀ (d k q : Nat) (out : List S69), q + d = (rd_T39 G (a : Int)).f4.length → d < k → out.length + d ≤ 1000000 →
    flow_To.l1 k i out (a : Int) G (G.length : Int) (a : Int) ((rd_T39 G (a : Int)).f4) (((rd_T39 G (a : Int)).f4).length : Int) (q : Int) =
      flow_To.l0 (k - d - 1) i (out ++ portsOf i (a : Int) ((rd_T39 G (a : Int)).f4.drop q) (q : Int)) G (G.length : Int) ((a : Int) + 1)
  | 0, k, q, out, hq, hk, _ => by
    obtain ⟨k, rfl⟩ : ∃ m, k = m + 1 := ⟨k - 1, by omega⟩
    have hG : G.length ≤ 64 := by simp [small] at hs; exact hs.1
    rw [flow_To.l1, if_neg (by omega), List.drop_eq_nil_of_le (by omega), wrap_small (by omega) (by omega)]
    simp [portsOf]
  | d + 1, k, q, out, hq, hk, hout => by
    obtain ⟨k, rfl⟩ : ∃ m, k = m + 1 := ⟨k - 1, by omega⟩
    have hG : G.length ≤ 64 := by simp [small] at hs; exact hs.1
    have hl : (rd_T39 G (a : Int)).f4.length ≤ 64 := by
      simp only [small, Bool.and_eq_true, List.all_eq_true, decide_eq_true_eq] at hs
      exact hs.2 _ (by simp [rd_T39, ha])
    have hlt : q < (rd_T39 G (a : Int)).f4.length := by omega
    rw [flow_To.l1, if_pos (by omega), if_pos (by omega), if_pos (by omega), wrap_small (by omega) (by omega), rd_nat]
    have hd : (rd_T39 G (a : Int)).f4.drop q = (rd_T39 G (a : Int)).f4.getD q 0 :: (rd_T39 G (a : Int)).f4.drop (q + 1) := by
      rw [List.drop_eq_getElem_cons hlt]; simp [hlt]
    rw [hd, portsOf]
    by_cases h : (rd_T39 G (a : Int)).f4.getD q 0 = i
    · rw [if_pos h, if_pos (by omega), if_pos h]
      have := to_l1 G i a ha hs d k (q + 1) (out ++ [⟨(a : Int), (q : Int)⟩]) (by omega) (by omega) (by simp; omega)
      rw [show ((q : Int) + 1) = ((q + 1 : Nat) : Int) by omega, this, List.append_assoc]
      rw [show k - d - 1 = k + 1 - (d + 1) - 1 by omega]
      rfl
    · rw [if_neg h, if_neg h]
      have := to_l1 G i a ha hs d k (q + 1) out (by omega) (by omega) (by omega)
      rw [show ((q : Int) + 1) = ((q + 1 : Nat) : Int) by omega, this]
      rw [show k - d - 1 = k + 1 - (d + 1) - 1 by omega]
theorem to_l0 (G : List S39) (i : Int) (hs : small G = true) : ∀ (d k a : Nat) (out : List S69), a + d = G.length → d * 70 < k → out.length + d * 64 ≤ 900000 →
    flow_To.l0 k i out G (G.length : Int) (a : Int) = some (out ++ toFrom i (G.drop a) (a : Int))
  | 0, k, a, out, ha, hk, _ => by
    obtain ⟨k, rfl⟩ : ∃ m, k = m + 1 := ⟨k - 1, by omega⟩
    rw [flow_To.l0, if_neg (by omega), List.drop_eq_nil_of_le (by omega)]
    simp [toFrom]
  | d + 1, k, a, out, ha, hk, hout => by
    obtain ⟨k, rfl⟩ : ∃ m, k = m + 1 := ⟨k - 1, by omega⟩
    have hlt : a < G.length := by omega
    have hl : (rd_T39 G (a : Int)).f4.length ≤ 64 := by
      simp only [small, Bool.and_eq_true, List.all_eq_true, decide_eq_true_eq] at hs
      exact hs.2 _ (by simp [rd_T39, hlt])
    have hp := portsOf_length i (a : Int) ((rd_T39 G (a : Int)).f4) 0
    have h1 := to_l1 G i a hlt hs (rd_T39 G (a : Int)).f4.length k 0 out (by omega) (by omega) (by omega)
    have hd : G.drop a = rd_T39 G (a : Int) :: G.drop (a + 1) := by
      rw [List.drop_eq_getElem_cons hlt]; simp [rd_T39, hlt]
    rw [flow_To.l0, if_pos (by omega), if_pos (by omega), if_pos (by omega), hd, toFrom]
    rw [show ((0 : Nat) : Int) = 0 from rfl, List.drop_zero] at h1
    rw [h1, show ((a : Int) + 1) = ((a + 1 : Nat) : Int) by omega, to_l0 G i hs d _ (a + 1) _ (by omega) (by omega) (by simp; omega), List.append_assoc]
theorem to_tells (G : List S39) (i : Int) (hs : small G = true) : ∃ k, flow_To.f k G i = some (toL G i) :=
  ⟨G.length * 70 + 1, by
    have hG : G.length ≤ 64 := by simp [small] at hs; exact hs.1
    have := to_l0 G i hs G.length (G.length * 70 + 1) 0 [] (by omega) (by omega) (by simp; omega)
    unfold flow_To.f toL
    simpa using this⟩
end Go.Proofs.Ytnjlonenckifpaa.X
namespace Go.Proofs.Ytnjlonenckifpaa.X
set_option linter.unusedVariables false
set_option linter.unusedSimpArgs false
open Go.RowKit Go.Proofs.YtnjlonenckifpaaW.PrintWords Go.Proofs.YtnjlonenckifpaaW.PrintLast Go.Proofs.YtnjlonenckifpaaW.PrintMore
def staysB (kind d least : Int) : Bool := decide (least < d) || (d == least && kind != 9)
def staysAt (G : List S39) (least : Int) (i : Nat) : Bool := staysB (rd_T39 G (i : Int)).f0 (rd_T39 G (i : Int)).f3 least
def rowF (ps : List S69) (val : Nat → Bool) : Nat → Bool := fun j => (ps.any fun p => p.f0.toNat == j) && val j
def edgeM (G : List S39) (least : Int) (i : Nat) : Nat → Bool := rowF (toL G (i : Int)) fun j => staysAt G least i && staysAt G least j
def upd2 (M : Nat → Nat → Bool) (i j : Nat) (v : Bool) : Nat → Nat → Bool := fun a b => if a = i ∧ b = j then v else M a b
def stepJ (k i : Nat) (M : Nat → Nat → Bool) (j : Nat) : Nat → Nat → Bool := upd2 M i j (M i j || (M i k && M k j))
def rowW (n k : Nat) (M : Nat → Nat → Bool) (i : Nat) : Nat → Nat → Bool := (List.range n).foldl (stepJ k i) M
def colW (n : Nat) (M : Nat → Nat → Bool) (k : Nat) : Nat → Nat → Bool := (List.range n).foldl (rowW n k) M
def wsh (n : Nat) (M : Nat → Nat → Bool) : Nat → Nat → Bool := (List.range n).foldl (colW n) M
def waysM (G : List S39) (least : Int) : Nat → Nat → Bool := wsh G.length (edgeM G least)
theorem fold_range_succ {α : Type} (f : α → Nat → α) (a : α) (n : Nat) : (List.range (n + 1)).foldl f a = f ((List.range n).foldl f a) n := by
  rw [List.range_succ, List.foldl_append]; rfl
theorem rowF_succ (ps : List S69) (val : Nat → Bool) (q : Nat) (p : S69) (h : ps[q]? = some p) : rowF (ps.take (q + 1)) val = fun j => if j = p.f0.toNat then val j else rowF (ps.take q) val j := by
  funext j
  simp only [rowF]
  rw [List.take_add_one, h]
  by_cases e : j = p.f0.toNat
  · simp [e]
  · have e2 : (p.f0.toNat == j) = false := by simp; omega
    simp [e, e2]
def rowL (n : Nat) (f : Nat → Bool) : List Bool := (List.range n).map f
theorem rowL_set (n : Nat) (f : Nat → Bool) (j : Nat) (v : Bool) : (rowL n f).set j v = rowL n (fun b => if b = j then v else f b) := by
  apply List.ext_getElem?
  intro a
  simp only [rowL, List.getElem?_set, List.getElem?_map, List.length_map, List.length_range]
  by_cases e : j = a
  · subst e
    by_cases h : j < n <;> simp [h]
  · by_cases h : a < n <;> simp [e, h, Ne.symm e]
theorem rowL_length (n : Nat) (f : Nat → Bool) : (rowL n f).length = n := by simp [rowL]
theorem rowL_getD (n : Nat) (f : Nat → Bool) (j : Nat) (h : j < n) : (rowL n f).getD j false = f j := by simp [rowL, h]
theorem rowL_congr {n : Nat} {f g : Nat → Bool} (h : ∀ j, j < n → f j = g j) : rowL n f = rowL n g := by
  simp only [rowL]
  exact List.map_congr_left fun j hj => h j (List.mem_range.1 hj)
theorem rowL_false (n : Nat) : List.replicate n false = rowL n (fun _ => false) := by
  apply List.ext_getElem?
  intro a
  by_cases h : a < n <;> simp [rowL, h]
def outerA (n k : Nat) (R : Nat → Nat) : Array Value := ((List.range n).map fun i => if i < k then Value.slice (some ⟨R i, 0, none⟩) n n else .slice none 0 0).toArray
structure Mat (w : World) (base gb n k : Nat) (R : Nat → Nat) (M : Nat → Nat → Bool) : Prop where
  out : w.heap[gb]? = some (.cells (outerA n k R) 37 (0, 0))
  row : ∀ i, i < k → Row w (R i) (rowL n (M i))
  geg : base ≤ gb
  ge : ∀ i, i < k → base ≤ R i
  inj : ∀ i j, i < k → j < k → R i = R j → i = j
section
variable {w w1 : World} {base gb n k : Nat} {R : Nat → Nat} {M : Nat → Nat → Bool}
theorem Mat.lt (h : Mat w base gb n k R M) : gb < w.heap.size := (Array.getElem?_eq_some_iff.1 h.out).1
theorem Mat.below (h : Mat w base gb n k R M) (hb : Below w.heap.size w w1) : Mat w1 base gb n k R M :=
  ⟨(hb.block gb h.lt).trans h.out, fun i hi => (h.row i hi).below hb, h.geg, h.ge, h.inj⟩
theorem Mat.alloc (h : Mat w base gb n k R M) (o : Obj) : Mat (w.alloc o) base gb n k R M := h.below (below_alloc (Below.refl _ _) o)
theorem Mat.drewN (h : Mat w base gb n k R M) (m : Nat) : Mat (w.drewN m) base gb n k R M := ⟨h.out, fun i hi => (h.row i hi).drewN m, h.geg, h.ge, h.inj⟩
theorem Mat.ocell (h : Mat w base gb n k R M) (i : Nat) (hi : i < k) (hn : i < n) : w.cell? ⟨gb, i, none⟩ = some (.slice (some ⟨R i, 0, none⟩) n n) := by
  simp [World.cell?, h.out, outerA, hi, hn]
theorem Mat.onil (h : Mat w base gb n k R M) (i : Nat) (hi : k ≤ i) (hn : i < n) : w.cell? ⟨gb, i, none⟩ = some (.slice none 0 0) := by
  simp [World.cell?, h.out, outerA, hn, show ¬ i < k by omega]
theorem Mat.ofree (h : Mat w base gb n k R M) (i : Nat) : w.frozen? ⟨gb, i, none⟩ = false := by simp [World.frozen?, h.out]
theorem Mat.cell (h : Mat w base gb n k R M) (i j : Nat) (hi : i < k) (hj : j < n) : w.cell? ⟨R i, j, none⟩ = some (.bool (M i j)) := by
  rw [(h.row i hi).cell j (by rw [rowL_length]; exact hj), rowL_getD _ _ _ hj]
theorem Mat.free (h : Mat w base gb n k R M) (i j : Nat) (hi : i < k) : w.frozen? ⟨R i, j, none⟩ = false := (h.row i hi).free j
theorem Mat.ne (h : Mat w base gb n k R M) (i : Nat) (hi : i < k) : gb ≠ R i := by
  intro e
  have h1 := h.out
  rw [e, (h.row i hi).blk] at h1
  injection h1 with h1
  injection h1 with _ h1
  exact absurd h1 (by decide)
theorem Mat.set (h : Mat w base gb n k R M) (i j : Nat) (hi : i < k) (v : Bool) : Mat (w.setCell ⟨R i, j, none⟩ (.bool v)) base gb n k R (upd2 M i j v) := by
  refine ⟨(Below.heap_setCell w _ _ gb (h.ne i hi)).trans h.out, fun a ha => ?_, h.geg, h.ge, h.inj⟩
  by_cases e : a = i
  · subst e
    have := (h.row a hi).set j v
    rw [rowL_set] at this
    rw [rowL_congr (g := fun b => if b = j then v else M a b) fun b _ => by simp [upd2]]
    exact this
  · rw [rowL_congr (g := M a) fun b _ => by simp [upd2, e]]
    exact (h.row a ha).far (fun e2 => e (h.inj a i ha hi e2)) _
theorem Mat.push (h : Mat w base gb n k R M) (nb : Nat) (hk : k < n) (hr : Row w nb (rowL n fun _ => false)) (hge : base ≤ nb) (hne : ∀ i, i < k → R i ≠ nb) :
    Mat (w.setCell ⟨gb, k, none⟩ (.slice (some ⟨nb, 0, none⟩) n n)) base gb n (k + 1) (fun i => if i = k then nb else R i) (fun i => if i = k then fun _ => false else M i) := by
  have hgn : gb ≠ nb := by
    intro e
    have h1 := h.out
    rw [e, hr.blk] at h1
    injection h1 with h1
    injection h1 with _ h1
    exact absurd h1 (by decide)
  refine ⟨?_, fun a ha => ?_, h.geg, fun a ha => ?_, fun a b ha hb e => ?_⟩
  · rw [heap_setCell_same w gb k _ 37 _ h.out]
    congr 2
    apply Array.ext_getElem?
    intro a
    simp only [outerA, Array.getElem?_setIfInBounds, List.getElem?_toArray, List.getElem?_map, List.size_toArray, List.length_map, List.length_range]
    by_cases e : k = a
    · subst e; simp [hk]
    · by_cases h2 : a < n
      · simp only [e, if_false, List.getElem?_range h2, Option.map_some, Ne.symm e]
        by_cases h3 : a < k
        · simp [h3, show a < k + 1 by omega]
        · simp [h3, show ¬ a < k + 1 by omega]
      · simp [e, h2]
  · by_cases e : a = k
    · subst e
      simp only [if_true]
      exact hr.far (Ne.symm hgn) _
    · simp only [e, if_false]
      exact (h.row a (by omega)).far (Ne.symm (h.ne a (by omega))) _
  · by_cases e : a = k
    · simp [e, hge]
    · simp only [e, if_false]
      exact h.ge a (by omega)
  · by_cases e1 : a = k <;> by_cases e2 : b = k
    · omega
    · simp only [e1, e2, if_true, if_false] at e
      exact absurd e.symm (hne b (by omega))
    · simp only [e1, e2, if_true, if_false] at e
      exact absurd e (hne a (by omega))
    · simp only [e1, e2, if_false] at e
      exact h.inj a b (by omega) (by omega) e
theorem Mat.congr {M' : Nat → Nat → Bool} (h : Mat w base gb n k R M) (e : ∀ i j, i < k → j < n → M i j = M' i j) : Mat w base gb n k R M' :=
  ⟨h.out, fun i hi => by rw [← rowL_congr (f := M i) fun j hj => e i j hi hj]; exact h.row i hi, h.geg, h.ge, h.inj⟩
end
set_option maxHeartbeats 4000000 in
theorem stays_calls (nd : S39) (A4 : Option Addr) (c4 : Nat) (least : Int) (bl : Nat) (w : World) (hv : Var w bl (.int .i64 least) 3) :
    Calls Try.prog 54 #[.agg #[.int .u8 nd.f0, .int .u8 nd.f1, .int .i64 nd.f2, .int .i64 nd.f3, .slice A4 nd.f4.length c4], .pointer (some ⟨bl, 0, none⟩)] w fun e w' => e = .returned (.bool (staysB nd.f0 nd.f3 least)) ∧ Below w.heap.size w w' := by
  have hc := hv.cell
  have hl := hv.lt
  have HB := Aside0.mk (Below.refl w.heap.size w)
  clear hv
  generalize nd.f4.length = ln
  generalize nd.f0 = kd
  generalize nd.f1 = kb
  generalize nd.f2 = kc
  generalize nd.f3 = d
  by_cases h1 : least < d
  · have HP := Aside0.mk (show staysB kd d least = true by simp [staysB, h1])
    go_enter Try.func54, Try.ntmps54
    go_wp2
    go_ret
    exact ⟨by rw [HP.out]; rfl, below_alloc HB.out _⟩
  · by_cases h2 : d = least
    · subst h2
      have hb : (d == d) = true := by simp
      have HP := Aside0.mk (show staysB kd d d = (kd != 9) by simp [staysB])
      clear h1
      by_cases h3 : kd = 9
      · have h3b : (kd != 9) = false := by simp [h3]
        rw [h3b] at HP
        clear h3
        go_enter Try.func54, Try.ntmps54
        go_wp2
        go_ret
        exact ⟨by rw [HP.out]; rfl, below_alloc HB.out _⟩
      · have h3b : (kd != 9) = true := by simp [h3]
        rw [h3b] at HP
        clear h3
        go_enter Try.func54, Try.ntmps54
        go_wp2
        go_ret
        exact ⟨by rw [HP.out]; rfl, below_alloc HB.out _⟩
    · have hb : (d == least) = false := beq_eq_false_iff_ne.2 h2
      have h1' : d ≤ least := by omega
      have HP := Aside0.mk (show staysB kd d least = decide (least < d) by simp [staysB, hb])
      clear h1 h2
      go_enter Try.func54, Try.ntmps54
      go_wp2
      go_ret
      exact ⟨by rw [HP.out]; rfl, below_alloc HB.out _⟩
end Go.Proofs.Ytnjlonenckifpaa.X
namespace Go.Proofs.Ytnjlonenckifpaa.X
set_option linter.unusedVariables false
set_option linter.unusedSimpArgs false
open Go.RowKit Go.Proofs.YtnjlonenckifpaaW.PrintWords Go.Proofs.YtnjlonenckifpaaW.PrintLast Go.Proofs.YtnjlonenckifpaaW.PrintMore
theorem info37 : (Try.prog.info? 37).map (fun i => (i.zero, i.size, i.bytes)) = some (some (.slice none 0 0), 1, 24) := by kernel_rfl
theorem run_make_outer (n : Nat) (hn : n ≤ 64) (R : Nat → Nat) (W : World) : (Instr.makeSlice 58 (.int .i64 (n : Int)) (.int .i64 (n : Int))).run Try.prog W = .ok (.slice (some ⟨W.heap.size, 0, none⟩) n n) (W.alloc (.cells (outerA n 0 R) 37)) := by
  obtain ⟨i, hi, hz, hs, hb⟩ := info_parts info37
  have := run_make (P := Try.prog) W 58 37 i (.slice none 0 0) Try.underlying58 hi hz .i64 .i64 (n : Int) (n : Int) (by omega) (by omega) (by rw [hb]; omega) (by omega)
  simp only [Int.toNat_natCast, hs] at this
  rw [this]
  congr 3
  apply Array.ext
  · simp [madeCells, outerA]
  · intro j h1 h2
    simp [madeCells, outerA, Nat.mod_one, Value.cells]
theorem Mat.push' {w : World} {base gb n k : Nat} {R : Nat → Nat} {M : Nat → Nat → Bool} (h : Mat w base gb n k R M) (hk : k < n) (hge : base ≤ w.heap.size) :
    Mat ((w.setCell ⟨gb, k, none⟩ (.slice (some ⟨w.heap.size, 0, none⟩) n n)).alloc (.cells (boolRow (List.replicate n false)) 4)) base gb n (k + 1) (fun i => if i = k then w.heap.size else R i) (fun i => if i = k then fun _ => false else M i) := by
  have h1 := Mat.push (h.alloc (.cells (boolRow (List.replicate n false)) 4)) w.heap.size hk ⟨by rw [← rowL_false]; exact heap_alloc_last w _⟩ hge (fun i hi e => by have := (h.row i hi).lt; omega)
  rw [World.setCell_alloc_past _ _ _ _ h.lt] at h1
  exact h1
theorem toL_length {G : List S39} (h : small G = true) (i : Int) : (toL G i).length ≤ 10000 := by
  simp only [small, Bool.and_eq_true, List.all_eq_true, decide_eq_true_eq] at h
  have := toFrom_length i G 0 h.2
  unfold toL
  omega
def ways.T10 : Bool × List (List Nat × List Nat) := (true, [([], []), ([], []), ([0, 1], [0, 1]), ([2], [2]), ([], []), ([4], [4]), ([], []), ([], []), ([], []), ([7, 8], [7, 8]), ([9], [9]), ([6, 10], [6, 10]), ([11, 11], [11]), ([12], [12]), ([12], [12]), ([12], [12]), ([15, 12], [12, 15]), ([14, 16, 12], [12, 14, 16]), ([17, 12], [12, 17]), ([13, 18, 12, 12], [12, 13, 18]), ([12, 19], [12, 19]), ([3, 5, 0, 1, 2, 3, 4, 5, 6, 7, 8, 9, 10, 11, 12, 13, 14, 15, 16, 17, 18, 19, 20], [3, 5]), ([21, 20, 19, 0, 1, 2, 3, 4, 5, 6, 7, 8, 9, 10, 11, 12, 13, 14, 15, 16, 17, 18, 19, 20], [20, 21])])
def ways.B10 : List Nat := [0, 0, 3, 7, 0, 16, 0, 0, 0, 384, 896, 1984, 4032, 8128, 8128, 8128, 40896, 122816, 253888, 524224, 1048512, 2097151, 4194303]
theorem ways.tab10 : rtab .any (opsOf Try.f45 10) = ways.T10 := by kernel_rfl
theorem ways.bits10 : waitsOk ways.T10.2 ways.B10 = true := by kernel_rfl
theorem ne69 : ∀ q, q ∈ 69 :: k69.E → q ≠ 4 := by
  intro q hq
  simp [k69, Kd.iso, Kd.pair, Kd.int, Kd.scalar] at hq
  omega
theorem step_row {n k j : Nat} {r r' val : Nat → Bool} {E : Nat → Nat → Bool} {p : S69} {v : Bool} (h : r' = fun b => if b = p.f0.toNat then val b else r b) (hj : p.f0.toNat = j) (hv : val j = v) :
    ∀ a b, a < k + 1 → b < n → upd2 (fun i => if i = k then r else E i) k j v a b = (fun i => if i = k then r' else E i) a b := by
  intro a b _ _
  subst h
  by_cases e : a = k
  · by_cases e2 : b = j
    · simp [upd2, e, e2, hj, hv]
    · simp [upd2, e, e2, hj]
  · simp [upd2, e]
def ways.T22 : Bool × List (List Nat × List Nat) := (true, [([], []), ([], []), ([0, 1], [0, 1]), ([2], [2]), ([], []), ([], []), ([], []), ([5, 6], [5, 6]), ([7], [7]), ([], []), ([8, 9], [8, 9]), ([10], [10]), ([11], [11]), ([12], [12]), ([12], [12]), ([13, 14, 12], [12, 13, 14]), ([15, 12], [12, 15]), ([12], [12]), ([16, 17, 12], [12, 16, 17]), ([18, 12], [12, 18]), ([19, 12, 12], [12, 19]), ([20], [20]), ([20], [20]), ([21, 22, 20], [20, 21, 22]), ([23, 20], [20, 23]), ([20], [20]), ([24, 25, 20], [20, 24, 25]), ([26, 20], [20, 26]), ([20, 27, 12], [12, 20, 27]), ([12, 28], [12, 28]), ([3, 4, 0, 1, 2, 3, 4, 5, 6, 7, 8, 9, 10, 11, 12, 13, 14, 15, 16, 17, 18, 19, 20, 21, 22, 23, 24, 25, 26, 27, 28, 29], [3, 4]), ([30, 29, 20, 0, 1, 2, 3, 4, 5, 6, 7, 8, 9, 10, 11, 12, 13, 14, 15, 16, 17, 18, 19, 20, 21, 22, 23, 24, 25, 26, 27, 28, 29], [29, 30])])
def ways.B22 : List Nat := [0, 0, 3, 7, 0, 0, 0, 96, 224, 0, 992, 2016, 4064, 8160, 8160, 32736, 65504, 8160, 262112, 524256, 1048544, 2097120, 2097120, 8388576, 16777184, 2097120, 67108832, 134217696, 268435424, 536870880, 1073741823, 2147483647]
theorem ways.tab22 : rtab .any (opsOf Try.f45 22) = ways.T22 := by kernel_rfl
theorem ways.bits22 : waitsOk ways.T22.2 ways.B22 = true := by kernel_rfl
theorem Var.ne_row {w : World} {b b2 : Nat} {v : Value} {t : TypeId} {th : List Bool} (h : Var w b v t) (hr : Row w b2 th) (ht : t ≠ 4) : b ≠ b2 := by
  rintro rfl
  have h1 := h.blk
  rw [hr.blk] at h1
  injection h1 with h1
  injection h1 with _ h1
  exact ht h1.symm
def WaysPost (G : List S39) (least : Int) (w : World) (e : Ending) (w' : World) : Prop :=
  ∃ gb R, e = .returned (.slice (some ⟨gb, 0, none⟩) G.length G.length) ∧ Mat w' w.heap.size gb G.length G.length R (waysM G least) ∧ Below w.heap.size w w'
set_option maxHeartbeats 8000000 in
set_option maxRecDepth 100000 in
theorem ways_calls (A : Option Addr) (c : Nat) (G : List S39) (least : Int) (w : World) (hr : Kd.C k39 w A G.length G) (hc : G.length ≤ c) (hs : small G = true) :
    Calls Try.prog 45 #[.slice A G.length c, .int .i64 least] w (WaysPost G least w) := by
  have hn : G.length ≤ 64 := by simp [small] at hs; exact hs.1
  have HS := Aside0.mk hs
  have HR := Aside0.mk hr
  have HC := Aside0.mk hc
  clear hr hs hc
  have hmk := fun W : World => run_make_row0 G.length hn W
  have hmo := fun W : World => run_make_outer G.length hn (fun _ => 0) W
  have HB0 := Aside0.mk (Below.refl w.heap.size w)
  go_enter Try.func45, Try.ntmps45
  go_wp2
  go_loopg [19] G.length (fun gg v19 wr => ∃ (k : Nat) (R : Nat → Nat), v19 = .int .i64 k ∧ k ≤ G.length ∧ G.length - k ≤ gg ∧ Aside0 (Mat wr w.heap.size (w.heap.size + 1) G.length k R (edgeM G least)) ∧
      Aside0 (Var wr w.heap.size (.int .i64 least) 3) ∧ Aside0 (Below w.heap.size w wr))
  case atStart =>
    refine ⟨0, fun _ => 0, rfl, Nat.zero_le _, by omega, ⟨⟨?_, fun i hi => absurd hi (Nat.not_lt_zero _), by omega, fun i hi => absurd hi (Nat.not_lt_zero _), fun i j hi => absurd hi (Nat.not_lt_zero _)⟩⟩, ⟨Var.alloc ⟨heap_alloc_last w _⟩ _⟩, ⟨below_alloc (below_alloc HB0.out _) _⟩⟩
    have := heap_alloc_last (w.alloc (.cells #[.int .i64 least] 3)) (.cells (outerA G.length 0 (fun _ => 0)) 37)
    simpa using this
  case round =>
    obtain ⟨k, R, rfl, hk, hg, HM, HV, HB⟩ := hrel
    by_cases hlt : k < G.length
    · have hltz : (k : Int) < (G.length : Int) := by omega
      obtain ⟨kk, hkk⟩ := to_tells G (k : Int) HS.out
      have HKK := Aside0.mk hkk
      clear hkk
      have c1 := HM.out.onil k (Nat.le_refl _) hlt
      have f1 := HM.out.ofree k
      have l1 := HM.out.lt
      have HM1 := Aside0.mk (Mat.push' HM.out hlt HB.out.size)
      have HV1 := Aside0.mk ((HV.out.far (p := ⟨w.heap.size + 1, k, none⟩) (by simp) (.slice (some ⟨wr.heap.size, 0, none⟩) G.length G.length)).alloc (.cells (boolRow (List.replicate G.length false)) 4))
      have HB1 := Aside0.mk (below_alloc (below_set (g := w.heap.size + 1) (j := k) (v := .slice (some ⟨wr.heap.size, 0, none⟩) G.length G.length) HB.out (by omega)) (.cells (boolRow (List.replicate G.length false)) 4))
      clear HM HV HB
      go_wp2_with (go_at_call 55; go_must (refine (flow_To.calls kk A c G (k : Int) (toL G (k : Int)) _ (Kd.C_below HR.out HB1.out) HC.out HKK.out).mono ?_; rintro e w6 ⟨v0, rfl, ho, hb⟩; (obtain ⟨A6, c6, rfl, hl6, -⟩ := Kd.R_reads ho); (have HO := Aside0.mk (Kd.R_lower ho HB1.out.size)); (have HM6 := Aside0.mk (HM1.out.below hb)); (have HV6 := Aside0.mk (HV1.out.below hb)); (have HB6 := Aside0.mk (below_then HB1.out HB1.out.size hb)); clear ho hb hl6))
      have hps := fun p hp => toL_mem (G := G) (i := (k : Int)) (p := p) hp
      have hln : (toL G (k : Int)).length ≤ 10000 := toL_length HS.out _
      have HED := Aside0.mk (show edgeM G least k = rowF (toL G (k : Int)) (fun j => staysAt G least k && staysAt G least j) from rfl)
      generalize toL G (k : Int) = ps at HO HED hps hln
      have HPS := Aside0.mk hps
      clear hps HKK
      have HM7 := Aside0.mk (Mat.congr (M' := fun i => if i = k then rowF (ps.take 0) (fun j => staysAt G least k && staysAt G least j) else edgeM G least i) HM6.out (fun i j _ _ => by
        by_cases e : i = k
        · simp [e, rowF]
        · simp [e]))
      generalize (fun i => if i = k then wr.heap.size else R i) = R1 at HM7
      clear HM6
      go_loopg [32] ps.length (fun g2 v32 wr => ∃ q : Nat, v32 = .int .i64 q ∧ q ≤ ps.length ∧ ps.length - q ≤ g2 ∧
        Aside0 (Mat wr w.heap.size (w.heap.size + 1) G.length (k + 1) R1 (fun i => if i = k then rowF (ps.take q) (fun j => staysAt G least k && staysAt G least j) else edgeM G least i)) ∧
        Aside0 (Var wr w.heap.size (.int .i64 least) 3) ∧ Aside0 (Kd.R k69 69 wr w.heap.size (fun _ => True) (.slice A6 ps.length c6) ps) ∧ Aside0 (Below w.heap.size w wr))
      case atStart => exact ⟨0, rfl, Nat.zero_le _, by omega, HM7, HV6, HO, HB6⟩
      case round =>
        clear HM7 HV6 HO HB6 HM1 HV1 HB1 c1 f1 l1
        obtain ⟨q, rfl, hq, hg2, HM, HV, HO, HB⟩ := hrel
        by_cases hq1 : q < ps.length
        · have hqz : (q : Int) < (ps.length : Int) := by omega
          obtain ⟨A7, c7, e7, -, hC7⟩ := Kd.R_reads HO.out
          obtain ⟨a6, eA6, p0, p1⟩ := at_T69 hC7 (q : Int) (by omega) hqz
          have hA7 : A6 = some a6 := by injection e7 with e7 _ _; rw [e7, eA6]
          clear e7 eA6 hC7
          subst hA7
          have hpq : ps[q]? = some (rd_T69 ps (q : Int)) := by simp [rd_T69, hq1]
          have hmem := HPS.out _ (List.mem_of_getElem? hpq)
          generalize rd_T69 ps (q : Int) = p at p0 p1 hpq hmem
          obtain ⟨j, hj⟩ : ∃ j : Nat, p.f0 = (j : Int) := ⟨p.f0.toNat, by omega⟩
          have HSTEP := Aside0.mk (rowF_succ ps (fun j => staysAt G least k && staysAt G least j) q p hpq)
          clear hpq
          rw [hj] at p0 hmem
          have HJ := Aside0.mk hj
          clear hj
          generalize p.f1 = pin at p1
          obtain ⟨hj0, hj1⟩ := hmem
          simp only [Int.toNat_natCast] at p0 p1
          have hjn : j < G.length := by omega
          obtain ⟨ad, A4, c4, eA, q0, q1, q2, q3, q4, -, -⟩ := at_T39 (Kd.C_below HR.out HB.out) (k : Int) (by omega) hltz
          obtain ⟨ad', A4', c4', eA', s0, s1, s2, s3, s4, -, -⟩ := at_T39 (Kd.C_below HR.out HB.out) (j : Int) (by omega) (by omega)
          have : ad' = ad := by rw [eA] at eA'; exact (Option.some.inj eA').symm
          subst this
          clear eA'
          subst eA
          simp only [Int.toNat_natCast] at q0 q1 q2 q3 q4 s0 s1 s2 s3 s4
          have m0 := HM.out.ocell k (by omega) hlt
          have m1 := HM.out.cell k j (by omega) hjn
          have m2 := HM.out.free k j (by omega)
          have lx := (HM.out.row k (by omega)).lt
          have lg := HM.out.lt
          have ha : ad'.block < w.heap.size := by
            obtain ⟨ad2, A42, c42, eA2, t0, -⟩ := at_T39 HR.out (k : Int) (by omega) hltz
            have hlt2 := World.block_lt_of_cell? w _ t0
            have : ad' = ad2 := Option.some.inj eA2
            subst this
            rw [add_block] at hlt2
            exact hlt2
          have hge := HM.out.ge k (by omega)
          have hgn := HM.out.ne k (by omega)
          have hb1 := HB.out.size
          have hSK : staysAt G least k = staysB (rd_T39 G (k : Int)).f0 (rd_T39 G (k : Int)).f3 least := rfl
          have hSJ : staysAt G least j = staysB (rd_T39 G (j : Int)).f0 (rd_T39 G (j : Int)).f3 least := rfl
          generalize rd_T39 G (k : Int) = nk at q0 q1 q2 q3 q4 hSK
          generalize rd_T39 G (j : Int) = nj at s0 s1 s2 s3 s4 hSJ
          obtain ⟨th0, hth0⟩ : ∃ th0, th0 = rowL G.length (rowF (ps.take q) (fun j => staysAt G least k && staysAt G least j)) := ⟨_, rfl⟩
          have hrow := HM.out.row k (by omega)
          simp only [if_true] at hrow
          rw [← hth0] at hrow
          have HTH := Aside0.mk hth0
          clear hth0
          have KS : ∀ W, Below (wr.alloc (.cells #[.int .i64 (j : Int), .int .i64 pin] 69)).heap.size (wr.alloc (.cells #[.int .i64 (j : Int), .int .i64 pin] 69)) W → W.cell? ⟨w.heap.size + 1, k, none⟩ = some (.slice (some ⟨R1 k, 0, none⟩) G.length G.length) ∧ W.cell? ⟨wr.heap.size, 0, none⟩ = some (.int .i64 (j : Int)) ∧ W.cell? (ad'.add (k * 5)) = some (.int .u8 nk.f0) ∧ W.cell? ⟨(ad'.add (k * 5)).block, (ad'.add (k * 5)).off + 1, none⟩ = some (.int .u8 nk.f1) ∧ W.cell? ⟨(ad'.add (k * 5)).block, (ad'.add (k * 5)).off + 2, none⟩ = some (.int .i64 nk.f2) ∧ W.cell? ⟨(ad'.add (k * 5)).block, (ad'.add (k * 5)).off + 3, none⟩ = some (.int .i64 nk.f3) ∧ W.cell? ⟨(ad'.add (k * 5)).block, (ad'.add (k * 5)).off + 4, none⟩ = some (.slice A4 nk.f4.length c4) ∧ W.cell? (ad'.add (j * 5)) = some (.int .u8 nj.f0) ∧ W.cell? ⟨(ad'.add (j * 5)).block, (ad'.add (j * 5)).off + 1, none⟩ = some (.int .u8 nj.f1) ∧ W.cell? ⟨(ad'.add (j * 5)).block, (ad'.add (j * 5)).off + 2, none⟩ = some (.int .i64 nj.f2) ∧ W.cell? ⟨(ad'.add (j * 5)).block, (ad'.add (j * 5)).off + 3, none⟩ = some (.int .i64 nj.f3) ∧ W.cell? ⟨(ad'.add (j * 5)).block, (ad'.add (j * 5)).off + 4, none⟩ = some (.slice A4' nj.f4.length c4') ∧ Var W w.heap.size (.int .i64 least) 3 ∧ Below (wr.alloc (.cells #[.int .i64 (j : Int), .int .i64 pin] 69)).heap.size (wr.alloc (.cells #[.int .i64 (j : Int), .int .i64 pin] 69)) W := by
            intro W h
            have al : ∀ {a : Addr} {u : Value}, wr.cell? a = some u → W.cell? a = some u := fun hc => pw_cell_below h (pw_cell_below (below_alloc (Below.refl _ _) _) hc)
            exact ⟨al m0, pw_cell_below h (by go_simp), al q0, al q1, al q2, al q3, al q4, al s0, al s1, al s2, al s3, al s4, (HV.out.alloc _).below h, h⟩
          have eg := enters_of Try.func54 (by kernel_rfl) rfl
          cases hsk : staysAt G least k with
          | false =>
            rw [hsk] at hSK
            have HSK := Aside0.mk hSK
            have HSTEP2 := Aside0.mk (step_row (n := G.length) (k := k) (j := j) (val := fun b => staysAt G least k && staysAt G least b) (E := edgeM G least) HSTEP.out (by have := HJ.out; omega) (v := false) (by simp [hsk]))
            clear hSK hSJ hsk
            go_wp2
            refine start_ (n := 23) (S := fun W => W.cell? ⟨w.heap.size + 1, k, none⟩ = some (.slice (some ⟨R1 k, 0, none⟩) G.length G.length) ∧ W.cell? ⟨wr.heap.size, 0, none⟩ = some (.int .i64 (j : Int)) ∧ W.cell? (ad'.add (k * 5)) = some (.int .u8 nk.f0) ∧ W.cell? ⟨(ad'.add (k * 5)).block, (ad'.add (k * 5)).off + 1, none⟩ = some (.int .u8 nk.f1) ∧ W.cell? ⟨(ad'.add (k * 5)).block, (ad'.add (k * 5)).off + 2, none⟩ = some (.int .i64 nk.f2) ∧ W.cell? ⟨(ad'.add (k * 5)).block, (ad'.add (k * 5)).off + 3, none⟩ = some (.int .i64 nk.f3) ∧ W.cell? ⟨(ad'.add (k * 5)).block, (ad'.add (k * 5)).off + 4, none⟩ = some (.slice A4 nk.f4.length c4) ∧ W.cell? (ad'.add (j * 5)) = some (.int .u8 nj.f0) ∧ W.cell? ⟨(ad'.add (j * 5)).block, (ad'.add (j * 5)).off + 1, none⟩ = some (.int .u8 nj.f1) ∧ W.cell? ⟨(ad'.add (j * 5)).block, (ad'.add (j * 5)).off + 2, none⟩ = some (.int .i64 nj.f2) ∧ W.cell? ⟨(ad'.add (j * 5)).block, (ad'.add (j * 5)).off + 3, none⟩ = some (.int .i64 nj.f3) ∧ W.cell? ⟨(ad'.add (j * 5)).block, (ad'.add (j * 5)).off + 4, none⟩ = some (.slice A4' nj.f4.length c4') ∧ Var W w.heap.size (.int .i64 least) 3 ∧ Below (wr.alloc (.cells #[.int .i64 (j : Int), .int .i64 pin] 69)).heap.size (wr.alloc (.cells #[.int .i64 (j : Int), .int .i64 pin] 69)) W) (ds := [22]) #[false, false, false, false, false, false, false, false, false, false, false, false, false, false, false, false, false, false, false, false, false, false, false] (by kernel_rfl) rfl rfl (KS _ (Below.refl _ _).drew) (fun hHeld => ?_)
            refine with_tabW ways.tab10 ways.bits10 (fun HT_ HW_ => ?_)
            generalize (wr.alloc (.cells #[.int .i64 (j : Int), .int .i64 pin] 69)).drew = w0 at hHeld ⊢
            refine pure_ (i := 0) (N := (some 36)) (v := ?_) (a' := ?_) #[true, false, false, false, false, false, false, false, false, false, false, false, false, false, false, false, false, false, false, false, false, false, false] rfl rfl (any_of HT_.out (by kernel_rfl)) (fun _ _ _ h => h) (Or.inl ⟨by rfl, ?_⟩) ?_ ?_
            rotate_left
            · intro w'
              go_simp
              (try with_reducible rfl)
            rotate_left
            · simp only [Act.put, List.setIfInBounds_toArray, List.set_cons_zero, List.set_cons_succ, i64_w, i32_w]
              rfl
            refine pure_ (i := 1) (N := (some 37)) (v := ?_) (a' := ?_) #[true, true, false, false, false, false, false, false, false, false, false, false, false, false, false, false, false, false, false, false, false, false, false] rfl rfl (any_of HT_.out (by kernel_rfl)) (fun _ _ _ h => h) (Or.inl ⟨by rfl, ?_⟩) ?_ ?_
            rotate_left
            · intro w'
              go_simp
              (try with_reducible rfl)
            rotate_left
            · simp only [Act.put, List.setIfInBounds_toArray, List.set_cons_zero, List.set_cons_succ, i64_w, i32_w]
              rfl
            refine pure_ (i := 2) (N := (some 38)) (v := ?_) (a' := ?_) #[true, true, true, false, false, false, false, false, false, false, false, false, false, false, false, false, false, false, false, false, false, false, false] rfl rfl (any_of HT_.out (by kernel_rfl)) (fun _ _ _ h => h) (Or.inl ⟨by rfl, ?_⟩) ?_ ?_
            rotate_left
            · intro w'
              go_simp
              (try with_reducible rfl)
            rotate_left
            · simp only [Act.put, List.setIfInBounds_toArray, List.set_cons_zero, List.set_cons_succ, i64_w, i32_w]
              rfl
            refine take_ (i := 3) (N := (some 39)) (v := ?_) (a' := ?_) #[true, true, true, true, false, false, false, false, false, false, false, false, false, false, false, false, false, false, false, false, false, false, false] rfl rfl (take_ofW HT_.out HW_.out (by kernel_rfl)) (fun _ _ _ h => h) (Or.inl ⟨by rfl, ?_⟩) hHeld ?_ ?_
            rotate_left
            · rintro w' ⟨sx0, sx1, sx2, sx3, sx4, sx5, sx6, sx7, sx8, sx9, sx10, sx11, sx12, sx13⟩
              go_simp
              (try with_reducible rfl)
            rotate_left
            · simp only [Act.put, List.setIfInBounds_toArray, List.set_cons_zero, List.set_cons_succ, i64_w, i32_w]
              rfl
            refine pure_ (i := 4) (N := (some 40)) (v := ?_) (a' := ?_) #[true, true, true, true, true, false, false, false, false, false, false, false, false, false, false, false, false, false, false, false, false, false, false] rfl rfl (any_of HT_.out (by kernel_rfl)) (fun _ _ _ h => h) (Or.inl ⟨by rfl, ?_⟩) ?_ ?_
            rotate_left
            · intro w'
              go_simp
              (try with_reducible rfl)
            rotate_left
            · simp only [Act.put, List.setIfInBounds_toArray, List.set_cons_zero, List.set_cons_succ, i64_w, i32_w]
              rfl
            refine take_ (i := 5) (N := (some 41)) (v := ?_) (a' := ?_) #[true, true, true, true, true, true, false, false, false, false, false, false, false, false, false, false, false, false, false, false, false, false, false] rfl rfl (take_ofW HT_.out HW_.out (by kernel_rfl)) (fun _ _ _ h => h) (Or.inl ⟨by rfl, ?_⟩) hHeld ?_ ?_
            rotate_left
            · rintro w' ⟨sx0, sx1, sx2, sx3, sx4, sx5, sx6, sx7, sx8, sx9, sx10, sx11, sx12, sx13⟩
              go_simp
              (try with_reducible rfl)
            rotate_left
            · simp only [Act.put, List.setIfInBounds_toArray, List.set_cons_zero, List.set_cons_succ, i64_w, i32_w]
              rfl
            refine pure_ (i := 6) (N := (some 42)) (v := ?_) (a' := ?_) #[true, true, true, true, true, true, true, false, false, false, false, false, false, false, false, false, false, false, false, false, false, false, false] rfl rfl (any_of HT_.out (by kernel_rfl)) (fun _ _ _ h => h) (Or.inl ⟨by rfl, ?_⟩) ?_ ?_
            rotate_left
            · intro w'
              go_simp
              (try with_reducible rfl)
            rotate_left
            · simp only [Act.put, List.setIfInBounds_toArray, List.set_cons_zero, List.set_cons_succ, i64_w, i32_w]
              rfl
            refine pure_ (i := 7) (N := (some 43)) (v := ?_) (a' := ?_) #[true, true, true, true, true, true, true, true, false, false, false, false, false, false, false, false, false, false, false, false, false, false, false] rfl rfl (any_of HT_.out (by kernel_rfl)) (fun _ _ _ h => h) (Or.inl ⟨by rfl, ?_⟩) ?_ ?_
            rotate_left
            · intro w'
              go_simp
              (try with_reducible rfl)
            rotate_left
            · simp only [Act.put, List.setIfInBounds_toArray, List.set_cons_zero, List.set_cons_succ, i64_w, i32_w]
              rfl
            refine pure_ (i := 8) (N := (some 44)) (v := ?_) (a' := ?_) #[true, true, true, true, true, true, true, true, true, false, false, false, false, false, false, false, false, false, false, false, false, false, false] rfl rfl (any_of HT_.out (by kernel_rfl)) (fun _ _ _ h => h) (Or.inl ⟨by rfl, ?_⟩) ?_ ?_
            rotate_left
            · intro w'
              go_simp
              (try with_reducible rfl)
            rotate_left
            · simp only [Act.put, List.setIfInBounds_toArray, List.set_cons_zero, List.set_cons_succ, i64_w, i32_w]
              rfl
            refine pure_ (i := 9) (N := (some 45)) (v := ?_) (a' := ?_) #[true, true, true, true, true, true, true, true, true, true, false, false, false, false, false, false, false, false, false, false, false, false, false] rfl rfl (any_of HT_.out (by kernel_rfl)) (fun _ _ _ h => h) (Or.inl ⟨by rfl, ?_⟩) ?_ ?_
            rotate_left
            · intro w'
              go_simp
              (try with_reducible rfl)
            rotate_left
            · simp only [Act.put, List.setIfInBounds_toArray, List.set_cons_zero, List.set_cons_succ, i64_w, i32_w]
              rfl
            refine take_ (i := 10) (N := (some 46)) (v := ?_) (a' := ?_) #[true, true, true, true, true, true, true, true, true, true, true, false, false, false, false, false, false, false, false, false, false, false, false] rfl rfl (take_ofW HT_.out HW_.out (by kernel_rfl)) (fun _ _ _ h => h) (Or.inl ⟨by rfl, ?_⟩) hHeld ?_ ?_
            rotate_left
            · rintro w' ⟨sx0, sx1, sx2, sx3, sx4, sx5, sx6, sx7, sx8, sx9, sx10, sx11, sx12, sx13⟩
              go_simp
              (try with_reducible rfl)
            rotate_left
            · simp only [Act.put, List.setIfInBounds_toArray, List.set_cons_zero, List.set_cons_succ, i64_w, i32_w]
              rfl
            refine one_ (i := 11) (N := (some 47)) #[true, true, true, true, true, true, true, true, true, true, true, true, false, false, false, false, false, false, false, false, false, false, false] rfl rfl (one_of HT_.out (by kernel_rfl)) (by decide) (fun K hK => ?_)
            have hV := hHeld.2.2.2.2.2.2.2.2.2.2.2.2.1
            have hBX := hHeld.2.2.2.2.2.2.2.2.2.2.2.2.2
            refine call_ 54 #[.agg #[.int .u8 nk.f0, .int .u8 nk.f1, .int .i64 nk.f2, .int .i64 nk.f3, .slice A4 nk.f4.length c4], .pointer (some ⟨w.heap.size, 0, none⟩)] (by rfl) rfl (by go_simp) ?_
            refine (stays_calls nk A4 c4 least w.heap.size _ hV).mono ?_
            rintro e w1 ⟨rfl, hb⟩
            rw [← HSK.out]
            refine ⟨_, rfl, ?_⟩
            refine hK.out _ _ (KS _ (below_then hBX hBX.size hb)) (fun hHeld => ?_)
            clear hK K hV hBX hb
            refine norm_ (a' := ?_) ?_ ?_
            rotate_left
            · simp only [Act.put, List.setIfInBounds_toArray, List.set_cons_zero, List.set_cons_succ]
              rfl
            refine pure_ (i := 12) (N := (some 48)) (v := ?_) (a' := ?_) #[true, true, true, true, true, true, true, true, true, true, true, true, true, false, false, false, false, false, false, false, false, false, false] rfl rfl (any_of HT_.out (by kernel_rfl)) (fun _ _ _ h => h) (Or.inl ⟨by rfl, ?_⟩) ?_ ?_
            rotate_left
            · intro w'
              go_simp
              (try with_reducible rfl)
            rotate_left
            · simp only [Act.put, List.setIfInBounds_toArray, List.set_cons_zero, List.set_cons_succ, i64_w, i32_w]
              rfl
            refine pure_ (i := 13) (N := (some 49)) (v := undef) (a' := ?_) #[true, true, true, true, true, true, true, true, true, true, true, true, true, true, false, false, false, false, false, false, false, false, false] rfl rfl (any_of HT_.out (by kernel_rfl)) (fun _ _ _ h => h) (Or.inr ⟨by rfl, rfl⟩) ?_ ?_
            rotate_left
            · simp only [Act.put, List.setIfInBounds_toArray, List.set_cons_zero, List.set_cons_succ, i64_w, i32_w]
              rfl
            refine pure_ (i := 14) (N := (some 50)) (v := undef) (a' := ?_) #[true, true, true, true, true, true, true, true, true, true, true, true, true, true, true, false, false, false, false, false, false, false, false] rfl rfl (any_of HT_.out (by kernel_rfl)) (fun _ _ _ h => h) (Or.inr ⟨by rfl, rfl⟩) ?_ ?_
            rotate_left
            · simp only [Act.put, List.setIfInBounds_toArray, List.set_cons_zero, List.set_cons_succ, i64_w, i32_w]
              rfl
            refine pure_ (i := 15) (N := (some 51)) (v := undef) (a' := ?_) #[true, true, true, true, true, true, true, true, true, true, true, true, true, true, true, true, false, false, false, false, false, false, false] rfl rfl (any_of HT_.out (by kernel_rfl)) (fun _ _ _ h => h) (Or.inr ⟨by rfl, rfl⟩) ?_ ?_
            rotate_left
            · simp only [Act.put, List.setIfInBounds_toArray, List.set_cons_zero, List.set_cons_succ, i64_w, i32_w]
              rfl
            refine pure_ (i := 16) (N := (some 52)) (v := undef) (a' := ?_) #[true, true, true, true, true, true, true, true, true, true, true, true, true, true, true, true, true, false, false, false, false, false, false] rfl rfl (any_of HT_.out (by kernel_rfl)) (fun _ _ _ h => h) (Or.inr ⟨by rfl, rfl⟩) ?_ ?_
            rotate_left
            · simp only [Act.put, List.setIfInBounds_toArray, List.set_cons_zero, List.set_cons_succ, i64_w, i32_w]
              rfl
            refine pure_ (i := 17) (N := (some 53)) (v := undef) (a' := ?_) #[true, true, true, true, true, true, true, true, true, true, true, true, true, true, true, true, true, true, false, false, false, false, false] rfl rfl (any_of HT_.out (by kernel_rfl)) (fun _ _ _ h => h) (Or.inr ⟨by rfl, rfl⟩) ?_ ?_
            rotate_left
            · simp only [Act.put, List.setIfInBounds_toArray, List.set_cons_zero, List.set_cons_succ, i64_w, i32_w]
              rfl
            refine pure_ (i := 18) (N := (some 54)) (v := undef) (a' := ?_) #[true, true, true, true, true, true, true, true, true, true, true, true, true, true, true, true, true, true, true, false, false, false, false] rfl rfl (any_of HT_.out (by kernel_rfl)) (fun _ _ _ h => h) (Or.inr ⟨by rfl, rfl⟩) ?_ ?_
            rotate_left
            · simp only [Act.put, List.setIfInBounds_toArray, List.set_cons_zero, List.set_cons_succ, i64_w, i32_w]
              rfl
            refine pure_ (i := 19) (N := (some 55)) (v := undef) (a' := ?_) #[true, true, true, true, true, true, true, true, true, true, true, true, true, true, true, true, true, true, true, true, false, false, false] rfl rfl (any_of HT_.out (by kernel_rfl)) (fun _ _ _ h => h) (Or.inr ⟨by rfl, rfl⟩) ?_ ?_
            rotate_left
            · simp only [Act.put, List.setIfInBounds_toArray, List.set_cons_zero, List.set_cons_succ, i64_w, i32_w]
              rfl
            refine pure_ (i := 20) (N := (some 56)) (v := ?_) (a' := ?_) #[true, true, true, true, true, true, true, true, true, true, true, true, true, true, true, true, true, true, true, true, true, false, false] rfl rfl (any_of HT_.out (by kernel_rfl)) (fun _ _ _ h => h) (Or.inl ⟨by rfl, ?_⟩) ?_ ?_
            rotate_left
            · intro w'
              go_simp
              (try with_reducible rfl)
            rotate_left
            · simp only [Act.put, List.setIfInBounds_toArray, List.set_cons_zero, List.set_cons_succ, i64_w, i32_w]
              rfl
            refine pure_ (i := 21) (N := (some 57)) (v := ?_) (a' := ?_) #[true, true, true, true, true, true, true, true, true, true, true, true, true, true, true, true, true, true, true, true, true, true, false] rfl rfl (any_of HT_.out (by kernel_rfl)) (fun _ _ _ h => h) (Or.inl ⟨by rfl, ?_⟩) ?_ ?_
            rotate_left
            · intro w'
              go_simp
              (try with_reducible rfl)
            rotate_left
            · simp only [Act.put, List.setIfInBounds_toArray, List.set_cons_zero, List.set_cons_succ, i64_w, i32_w]
              rfl
            refine last_ (i := 22) (N := none) #[true, true, true, true, true, true, true, true, true, true, true, true, true, true, true, true, true, true, true, true, true, true, true] rfl rfl (one_of HT_.out (by kernel_rfl)) (by decide) (fun K hK => ?_)
            have hBX := hHeld.2.2.2.2.2.2.2.2.2.2.2.2.2
            have hMX := (HM.out.alloc (.cells #[.int .i64 (j : Int), .int .i64 pin] 69)).below hBX
            have tc := hMX.cell k j (by omega) hjn
            have tf := hMX.free k j (by omega)
            refine skip_ (w1 := ?_) (by rfl) rfl ?_ ?_
            rotate_left
            · go_simp
              rfl
            refine hK.out _ _ ?_
            clear hK K
            refine done_ (done_of HT_.out (by kernel_rfl)) ?_
            go_wp2
            go_roundg (ps.length - (q + 1))
            case measure => omega
            case rel => exact ⟨q + 1, by go_num, by omega, by omega, ⟨Mat.congr (hMX.set k j (by omega) _) HSTEP2.out⟩, ⟨((HV.out.alloc _).below hBX).far ((HV.out.alloc _).below hBX |>.ne_row (hMX.row k (by omega)) (by decide)) _⟩, ⟨Kd.R_set (Kd.R_below (Kd.R_alloc HO.out _) hBX) (hMX.row k (by omega)).blk ne69 j _⟩, ⟨below_set (below_then (below_alloc HB.out _) (below_alloc HB.out _).size hBX) (hMX.ge k (by omega))⟩⟩
          | true =>
            rw [hsk] at hSK
            have HSK := Aside0.mk hSK
            have HSJ := Aside0.mk hSJ
            have HSTEP2 := Aside0.mk (step_row (n := G.length) (k := k) (j := j) (val := fun b => staysAt G least k && staysAt G least b) (E := edgeM G least) HSTEP.out (by have := HJ.out; omega) (v := staysAt G least j) (by simp [hsk]))
            clear hSK hSJ hsk
            generalize staysAt G least j = sj at HSJ HSTEP2
            go_wp2
            refine start_ (n := 23) (S := fun W => W.cell? ⟨w.heap.size + 1, k, none⟩ = some (.slice (some ⟨R1 k, 0, none⟩) G.length G.length) ∧ W.cell? ⟨wr.heap.size, 0, none⟩ = some (.int .i64 (j : Int)) ∧ W.cell? (ad'.add (k * 5)) = some (.int .u8 nk.f0) ∧ W.cell? ⟨(ad'.add (k * 5)).block, (ad'.add (k * 5)).off + 1, none⟩ = some (.int .u8 nk.f1) ∧ W.cell? ⟨(ad'.add (k * 5)).block, (ad'.add (k * 5)).off + 2, none⟩ = some (.int .i64 nk.f2) ∧ W.cell? ⟨(ad'.add (k * 5)).block, (ad'.add (k * 5)).off + 3, none⟩ = some (.int .i64 nk.f3) ∧ W.cell? ⟨(ad'.add (k * 5)).block, (ad'.add (k * 5)).off + 4, none⟩ = some (.slice A4 nk.f4.length c4) ∧ W.cell? (ad'.add (j * 5)) = some (.int .u8 nj.f0) ∧ W.cell? ⟨(ad'.add (j * 5)).block, (ad'.add (j * 5)).off + 1, none⟩ = some (.int .u8 nj.f1) ∧ W.cell? ⟨(ad'.add (j * 5)).block, (ad'.add (j * 5)).off + 2, none⟩ = some (.int .i64 nj.f2) ∧ W.cell? ⟨(ad'.add (j * 5)).block, (ad'.add (j * 5)).off + 3, none⟩ = some (.int .i64 nj.f3) ∧ W.cell? ⟨(ad'.add (j * 5)).block, (ad'.add (j * 5)).off + 4, none⟩ = some (.slice A4' nj.f4.length c4') ∧ Var W w.heap.size (.int .i64 least) 3 ∧ Below (wr.alloc (.cells #[.int .i64 (j : Int), .int .i64 pin] 69)).heap.size (wr.alloc (.cells #[.int .i64 (j : Int), .int .i64 pin] 69)) W) (ds := [22]) #[false, false, false, false, false, false, false, false, false, false, false, false, false, false, false, false, false, false, false, false, false, false, false] (by kernel_rfl) rfl rfl (KS _ (Below.refl _ _).drew) (fun hHeld => ?_)
            refine with_tabW ways.tab10 ways.bits10 (fun HT_ HW_ => ?_)
            generalize (wr.alloc (.cells #[.int .i64 (j : Int), .int .i64 pin] 69)).drew = w0 at hHeld ⊢
            refine pure_ (i := 0) (N := (some 36)) (v := ?_) (a' := ?_) #[true, false, false, false, false, false, false, false, false, false, false, false, false, false, false, false, false, false, false, false, false, false, false] rfl rfl (any_of HT_.out (by kernel_rfl)) (fun _ _ _ h => h) (Or.inl ⟨by rfl, ?_⟩) ?_ ?_
            rotate_left
            · intro w'
              go_simp
              (try with_reducible rfl)
            rotate_left
            · simp only [Act.put, List.setIfInBounds_toArray, List.set_cons_zero, List.set_cons_succ, i64_w, i32_w]
              rfl
            refine pure_ (i := 1) (N := (some 37)) (v := ?_) (a' := ?_) #[true, true, false, false, false, false, false, false, false, false, false, false, false, false, false, false, false, false, false, false, false, false, false] rfl rfl (any_of HT_.out (by kernel_rfl)) (fun _ _ _ h => h) (Or.inl ⟨by rfl, ?_⟩) ?_ ?_
            rotate_left
            · intro w'
              go_simp
              (try with_reducible rfl)
            rotate_left
            · simp only [Act.put, List.setIfInBounds_toArray, List.set_cons_zero, List.set_cons_succ, i64_w, i32_w]
              rfl
            refine pure_ (i := 2) (N := (some 38)) (v := ?_) (a' := ?_) #[true, true, true, false, false, false, false, false, false, false, false, false, false, false, false, false, false, false, false, false, false, false, false] rfl rfl (any_of HT_.out (by kernel_rfl)) (fun _ _ _ h => h) (Or.inl ⟨by rfl, ?_⟩) ?_ ?_
            rotate_left
            · intro w'
              go_simp
              (try with_reducible rfl)
            rotate_left
            · simp only [Act.put, List.setIfInBounds_toArray, List.set_cons_zero, List.set_cons_succ, i64_w, i32_w]
              rfl
            refine take_ (i := 3) (N := (some 39)) (v := ?_) (a' := ?_) #[true, true, true, true, false, false, false, false, false, false, false, false, false, false, false, false, false, false, false, false, false, false, false] rfl rfl (take_ofW HT_.out HW_.out (by kernel_rfl)) (fun _ _ _ h => h) (Or.inl ⟨by rfl, ?_⟩) hHeld ?_ ?_
            rotate_left
            · rintro w' ⟨sx0, sx1, sx2, sx3, sx4, sx5, sx6, sx7, sx8, sx9, sx10, sx11, sx12, sx13⟩
              go_simp
              (try with_reducible rfl)
            rotate_left
            · simp only [Act.put, List.setIfInBounds_toArray, List.set_cons_zero, List.set_cons_succ, i64_w, i32_w]
              rfl
            refine pure_ (i := 4) (N := (some 40)) (v := ?_) (a' := ?_) #[true, true, true, true, true, false, false, false, false, false, false, false, false, false, false, false, false, false, false, false, false, false, false] rfl rfl (any_of HT_.out (by kernel_rfl)) (fun _ _ _ h => h) (Or.inl ⟨by rfl, ?_⟩) ?_ ?_
            rotate_left
            · intro w'
              go_simp
              (try with_reducible rfl)
            rotate_left
            · simp only [Act.put, List.setIfInBounds_toArray, List.set_cons_zero, List.set_cons_succ, i64_w, i32_w]
              rfl
            refine take_ (i := 5) (N := (some 41)) (v := ?_) (a' := ?_) #[true, true, true, true, true, true, false, false, false, false, false, false, false, false, false, false, false, false, false, false, false, false, false] rfl rfl (take_ofW HT_.out HW_.out (by kernel_rfl)) (fun _ _ _ h => h) (Or.inl ⟨by rfl, ?_⟩) hHeld ?_ ?_
            rotate_left
            · rintro w' ⟨sx0, sx1, sx2, sx3, sx4, sx5, sx6, sx7, sx8, sx9, sx10, sx11, sx12, sx13⟩
              go_simp
              (try with_reducible rfl)
            rotate_left
            · simp only [Act.put, List.setIfInBounds_toArray, List.set_cons_zero, List.set_cons_succ, i64_w, i32_w]
              rfl
            refine pure_ (i := 6) (N := (some 42)) (v := ?_) (a' := ?_) #[true, true, true, true, true, true, true, false, false, false, false, false, false, false, false, false, false, false, false, false, false, false, false] rfl rfl (any_of HT_.out (by kernel_rfl)) (fun _ _ _ h => h) (Or.inl ⟨by rfl, ?_⟩) ?_ ?_
            rotate_left
            · intro w'
              go_simp
              (try with_reducible rfl)
            rotate_left
            · simp only [Act.put, List.setIfInBounds_toArray, List.set_cons_zero, List.set_cons_succ, i64_w, i32_w]
              rfl
            refine pure_ (i := 7) (N := (some 43)) (v := ?_) (a' := ?_) #[true, true, true, true, true, true, true, true, false, false, false, false, false, false, false, false, false, false, false, false, false, false, false] rfl rfl (any_of HT_.out (by kernel_rfl)) (fun _ _ _ h => h) (Or.inl ⟨by rfl, ?_⟩) ?_ ?_
            rotate_left
            · intro w'
              go_simp
              (try with_reducible rfl)
            rotate_left
            · simp only [Act.put, List.setIfInBounds_toArray, List.set_cons_zero, List.set_cons_succ, i64_w, i32_w]
              rfl
            refine pure_ (i := 8) (N := (some 44)) (v := ?_) (a' := ?_) #[true, true, true, true, true, true, true, true, true, false, false, false, false, false, false, false, false, false, false, false, false, false, false] rfl rfl (any_of HT_.out (by kernel_rfl)) (fun _ _ _ h => h) (Or.inl ⟨by rfl, ?_⟩) ?_ ?_
            rotate_left
            · intro w'
              go_simp
              (try with_reducible rfl)
            rotate_left
            · simp only [Act.put, List.setIfInBounds_toArray, List.set_cons_zero, List.set_cons_succ, i64_w, i32_w]
              rfl
            refine pure_ (i := 9) (N := (some 45)) (v := ?_) (a' := ?_) #[true, true, true, true, true, true, true, true, true, true, false, false, false, false, false, false, false, false, false, false, false, false, false] rfl rfl (any_of HT_.out (by kernel_rfl)) (fun _ _ _ h => h) (Or.inl ⟨by rfl, ?_⟩) ?_ ?_
            rotate_left
            · intro w'
              go_simp
              (try with_reducible rfl)
            rotate_left
            · simp only [Act.put, List.setIfInBounds_toArray, List.set_cons_zero, List.set_cons_succ, i64_w, i32_w]
              rfl
            refine take_ (i := 10) (N := (some 46)) (v := ?_) (a' := ?_) #[true, true, true, true, true, true, true, true, true, true, true, false, false, false, false, false, false, false, false, false, false, false, false] rfl rfl (take_ofW HT_.out HW_.out (by kernel_rfl)) (fun _ _ _ h => h) (Or.inl ⟨by rfl, ?_⟩) hHeld ?_ ?_
            rotate_left
            · rintro w' ⟨sx0, sx1, sx2, sx3, sx4, sx5, sx6, sx7, sx8, sx9, sx10, sx11, sx12, sx13⟩
              go_simp
              (try with_reducible rfl)
            rotate_left
            · simp only [Act.put, List.setIfInBounds_toArray, List.set_cons_zero, List.set_cons_succ, i64_w, i32_w]
              rfl
            refine one_ (i := 11) (N := (some 47)) #[true, true, true, true, true, true, true, true, true, true, true, true, false, false, false, false, false, false, false, false, false, false, false] rfl rfl (one_of HT_.out (by kernel_rfl)) (by decide) (fun K hK => ?_)
            have hV := hHeld.2.2.2.2.2.2.2.2.2.2.2.2.1
            have hBX := hHeld.2.2.2.2.2.2.2.2.2.2.2.2.2
            refine call_ 54 #[.agg #[.int .u8 nk.f0, .int .u8 nk.f1, .int .i64 nk.f2, .int .i64 nk.f3, .slice A4 nk.f4.length c4], .pointer (some ⟨w.heap.size, 0, none⟩)] (by rfl) rfl (by go_simp) ?_
            refine (stays_calls nk A4 c4 least w.heap.size _ hV).mono ?_
            rintro e w1 ⟨rfl, hb⟩
            rw [← HSK.out]
            refine ⟨_, rfl, ?_⟩
            refine hK.out _ _ (KS _ (below_then hBX hBX.size hb)) (fun hHeld => ?_)
            clear hK K hV hBX hb
            refine norm_ (a' := ?_) ?_ ?_
            rotate_left
            · simp only [Act.put, List.setIfInBounds_toArray, List.set_cons_zero, List.set_cons_succ]
              rfl
            refine pure_ (i := 12) (N := (some 48)) (v := ?_) (a' := ?_) #[true, true, true, true, true, true, true, true, true, true, true, true, true, false, false, false, false, false, false, false, false, false, false] rfl rfl (any_of HT_.out (by kernel_rfl)) (fun _ _ _ h => h) (Or.inl ⟨by rfl, ?_⟩) ?_ ?_
            rotate_left
            · intro w'
              go_simp
              (try with_reducible rfl)
            rotate_left
            · simp only [Act.put, List.setIfInBounds_toArray, List.set_cons_zero, List.set_cons_succ, i64_w, i32_w]
              rfl
            refine pure_ (i := 13) (N := (some 49)) (v := ?_) (a' := ?_) #[true, true, true, true, true, true, true, true, true, true, true, true, true, true, false, false, false, false, false, false, false, false, false] rfl rfl (any_of HT_.out (by kernel_rfl)) (fun _ _ _ h => h) (Or.inl ⟨by rfl, ?_⟩) ?_ ?_
            rotate_left
            · intro w'
              go_simp
              (try with_reducible rfl)
            rotate_left
            · simp only [Act.put, List.setIfInBounds_toArray, List.set_cons_zero, List.set_cons_succ, i64_w, i32_w]
              rfl
            refine pure_ (i := 14) (N := (some 50)) (v := ?_) (a' := ?_) #[true, true, true, true, true, true, true, true, true, true, true, true, true, true, true, false, false, false, false, false, false, false, false] rfl rfl (any_of HT_.out (by kernel_rfl)) (fun _ _ _ h => h) (Or.inl ⟨by rfl, ?_⟩) ?_ ?_
            rotate_left
            · intro w'
              go_simp
              (try with_reducible rfl)
            rotate_left
            · simp only [Act.put, List.setIfInBounds_toArray, List.set_cons_zero, List.set_cons_succ, i64_w, i32_w]
              rfl
            refine pure_ (i := 15) (N := (some 51)) (v := ?_) (a' := ?_) #[true, true, true, true, true, true, true, true, true, true, true, true, true, true, true, true, false, false, false, false, false, false, false] rfl rfl (any_of HT_.out (by kernel_rfl)) (fun _ _ _ h => h) (Or.inl ⟨by rfl, ?_⟩) ?_ ?_
            rotate_left
            · intro w'
              go_simp
              (try with_reducible rfl)
            rotate_left
            · simp only [Act.put, List.setIfInBounds_toArray, List.set_cons_zero, List.set_cons_succ, i64_w, i32_w]
              rfl
            refine take_ (i := 16) (N := (some 52)) (v := ?_) (a' := ?_) #[true, true, true, true, true, true, true, true, true, true, true, true, true, true, true, true, true, false, false, false, false, false, false] rfl rfl (take_ofW HT_.out HW_.out (by kernel_rfl)) (fun _ _ _ h => h) (Or.inl ⟨by rfl, ?_⟩) hHeld ?_ ?_
            rotate_left
            · rintro w' ⟨sx0, sx1, sx2, sx3, sx4, sx5, sx6, sx7, sx8, sx9, sx10, sx11, sx12, sx13⟩
              go_simp
              (try with_reducible rfl)
            rotate_left
            · simp only [Act.put, List.setIfInBounds_toArray, List.set_cons_zero, List.set_cons_succ, i64_w, i32_w]
              rfl
            refine pure_ (i := 17) (N := (some 53)) (v := ?_) (a' := ?_) #[true, true, true, true, true, true, true, true, true, true, true, true, true, true, true, true, true, true, false, false, false, false, false] rfl rfl (any_of HT_.out (by kernel_rfl)) (fun _ _ _ h => h) (Or.inl ⟨by rfl, ?_⟩) ?_ ?_
            rotate_left
            · intro w'
              go_simp
              (try with_reducible rfl)
            rotate_left
            · simp only [Act.put, List.setIfInBounds_toArray, List.set_cons_zero, List.set_cons_succ, i64_w, i32_w]
              rfl
            refine take_ (i := 18) (N := (some 54)) (v := ?_) (a' := ?_) #[true, true, true, true, true, true, true, true, true, true, true, true, true, true, true, true, true, true, true, false, false, false, false] rfl rfl (take_ofW HT_.out HW_.out (by kernel_rfl)) (fun _ _ _ h => h) (Or.inl ⟨by rfl, ?_⟩) hHeld ?_ ?_
            rotate_left
            · rintro w' ⟨sx0, sx1, sx2, sx3, sx4, sx5, sx6, sx7, sx8, sx9, sx10, sx11, sx12, sx13⟩
              go_simp
              (try with_reducible rfl)
            rotate_left
            · simp only [Act.put, List.setIfInBounds_toArray, List.set_cons_zero, List.set_cons_succ, i64_w, i32_w]
              rfl
            refine one_ (i := 19) (N := (some 55)) #[true, true, true, true, true, true, true, true, true, true, true, true, true, true, true, true, true, true, true, true, false, false, false] rfl rfl (one_of HT_.out (by kernel_rfl)) (by decide) (fun K hK => ?_)
            have hV := hHeld.2.2.2.2.2.2.2.2.2.2.2.2.1
            have hBX := hHeld.2.2.2.2.2.2.2.2.2.2.2.2.2
            refine call_ 54 #[.agg #[.int .u8 nj.f0, .int .u8 nj.f1, .int .i64 nj.f2, .int .i64 nj.f3, .slice A4' nj.f4.length c4'], .pointer (some ⟨w.heap.size, 0, none⟩)] (by rfl) rfl (by go_simp) ?_
            refine (stays_calls nj A4' c4' least w.heap.size _ hV).mono ?_
            rintro e w1 ⟨rfl, hb⟩
            rw [← HSJ.out]
            refine ⟨_, rfl, ?_⟩
            refine hK.out _ _ (KS _ (below_then hBX hBX.size hb)) (fun hHeld => ?_)
            clear hK K hV hBX hb
            refine norm_ (a' := ?_) ?_ ?_
            rotate_left
            · simp only [Act.put, List.setIfInBounds_toArray, List.set_cons_zero, List.set_cons_succ]
              rfl
            refine pure_ (i := 20) (N := (some 56)) (v := ?_) (a' := ?_) #[true, true, true, true, true, true, true, true, true, true, true, true, true, true, true, true, true, true, true, true, true, false, false] rfl rfl (any_of HT_.out (by kernel_rfl)) (fun _ _ _ h => h) (Or.inl ⟨by rfl, ?_⟩) ?_ ?_
            rotate_left
            · intro w'
              go_simp
              (try with_reducible rfl)
            rotate_left
            · simp only [Act.put, List.setIfInBounds_toArray, List.set_cons_zero, List.set_cons_succ, i64_w, i32_w]
              rfl
            refine pure_ (i := 21) (N := (some 57)) (v := ?_) (a' := ?_) #[true, true, true, true, true, true, true, true, true, true, true, true, true, true, true, true, true, true, true, true, true, true, false] rfl rfl (any_of HT_.out (by kernel_rfl)) (fun _ _ _ h => h) (Or.inl ⟨by rfl, ?_⟩) ?_ ?_
            rotate_left
            · intro w'
              go_simp
              (try with_reducible rfl)
            rotate_left
            · simp only [Act.put, List.setIfInBounds_toArray, List.set_cons_zero, List.set_cons_succ, i64_w, i32_w]
              rfl
            refine last_ (i := 22) (N := none) #[true, true, true, true, true, true, true, true, true, true, true, true, true, true, true, true, true, true, true, true, true, true, true] rfl rfl (one_of HT_.out (by kernel_rfl)) (by decide) (fun K hK => ?_)
            have hBX := hHeld.2.2.2.2.2.2.2.2.2.2.2.2.2
            have hMX := (HM.out.alloc (.cells #[.int .i64 (j : Int), .int .i64 pin] 69)).below hBX
            have tc := hMX.cell k j (by omega) hjn
            have tf := hMX.free k j (by omega)
            refine skip_ (w1 := ?_) (by rfl) rfl ?_ ?_
            rotate_left
            · go_simp
              rfl
            refine hK.out _ _ ?_
            clear hK K
            refine done_ (done_of HT_.out (by kernel_rfl)) ?_
            go_wp2
            go_roundg (ps.length - (q + 1))
            case measure => omega
            case rel => exact ⟨q + 1, by go_num, by omega, by omega, ⟨Mat.congr (hMX.set k j (by omega) _) HSTEP2.out⟩, ⟨((HV.out.alloc _).below hBX).far ((HV.out.alloc _).below hBX |>.ne_row (hMX.row k (by omega)) (by decide)) _⟩, ⟨Kd.R_set (Kd.R_below (Kd.R_alloc HO.out _) hBX) (hMX.row k (by omega)).blk ne69 j _⟩, ⟨below_set (below_then (below_alloc HB.out _) (below_alloc HB.out _).size hBX) (hMX.ge k (by omega))⟩⟩
        · have hqe : q = ps.length := by omega
          have HQE := Aside0.mk hqe
          have hqz : ¬ (q : Int) < (ps.length : Int) := by omega
          clear hqe
          have HMF := Aside0.mk (Mat.congr (M' := edgeM G least) HM.out (fun a b _ _ => by
            by_cases e : a = k
            · simp only [e, if_true]
              rw [HED.out, HQE.out, List.take_length]
            · simp only [e, if_false]))
          clear HM
          go_wp2
          go_roundg (G.length - (k + 1))
          case measure => omega
          case rel => exact ⟨k + 1, R1, by go_num, by omega, by omega, HMF, HV, HB⟩
    · have hke : k = G.length := by omega
      have hltz : ¬ (k : Int) < (G.length : Int) := by omega
      obtain rfl : G.length = k := hke.symm
      clear hmk hmo hg hke
      have HM0 := Aside0.mk (Mat.congr (M' := (List.range 0).foldl (colW G.length) (edgeM G least)) HM.out (fun _ _ _ _ => rfl))
      clear HM HV
      go_wp2
      obtain ⟨wo, rfl⟩ : ∃ wo : World, wo = wr := ⟨_, rfl⟩
      go_loopg [62] G.length (fun g3 v62 wr => ∃ k : Nat, v62 = .int .i64 k ∧ k ≤ G.length ∧ G.length - k ≤ g3 ∧ Aside0 (Mat wr w.heap.size (w.heap.size + 1) G.length G.length R ((List.range k).foldl (colW G.length) (edgeM G least))) ∧ Aside0 (Below w.heap.size w wr))
      case atStart => exact ⟨0, rfl, Nat.zero_le _, by omega, HM0, HB⟩
      case round =>
        clear HM0 HB
        obtain ⟨k, rfl, hk3, hg3, HM3, HB3⟩ := hrel
        by_cases hlt3 : k < G.length
        · have hltz3 : (k : Int) < (G.length : Int) := by omega
          have HN3 := Aside0.mk (fold_range_succ (colW G.length) (edgeM G least) k)
          generalize (List.range k).foldl (colW G.length) (edgeM G least) = M3 at HM3 HN3
          go_wp2
          obtain ⟨wo, rfl⟩ : ∃ wo : World, wo = wr := ⟨_, rfl⟩
          go_loopg [67] G.length (fun g4 v67 wr => ∃ i : Nat, v67 = .int .i64 i ∧ i ≤ G.length ∧ G.length - i ≤ g4 ∧ Aside0 (Mat wr w.heap.size (w.heap.size + 1) G.length G.length R ((List.range i).foldl (rowW G.length k) M3)) ∧ Aside0 (Below w.heap.size w wr))
          case atStart => exact ⟨0, rfl, Nat.zero_le _, by omega, HM3, HB3⟩
          case round =>
            clear HM3 HB3
            obtain ⟨i, rfl, hk4, hg4, HM4, HB4⟩ := hrel
            by_cases hlt4 : i < G.length
            · have hltz4 : (i : Int) < (G.length : Int) := by omega
              have HN4 := Aside0.mk (fold_range_succ (rowW G.length k) M3 i)
              generalize (List.range i).foldl (rowW G.length k) M3 = M4 at HM4 HN4
              go_wp2
              obtain ⟨wo, rfl⟩ : ∃ wo : World, wo = wr := ⟨_, rfl⟩
              go_loopg [72] G.length (fun g5 v72 wr => ∃ j : Nat, v72 = .int .i64 j ∧ j ≤ G.length ∧ G.length - j ≤ g5 ∧ Aside0 (Mat wr w.heap.size (w.heap.size + 1) G.length G.length R ((List.range j).foldl (stepJ k i) M4)) ∧ Aside0 (Below w.heap.size w wr))
              case atStart => exact ⟨0, rfl, Nat.zero_le _, by omega, HM4, HB4⟩
              case round =>
                clear HM4 HB4
                obtain ⟨j, rfl, hk5, hg5, HM5, HB5⟩ := hrel
                by_cases hlt5 : j < G.length
                · have hltz5 : (j : Int) < (G.length : Int) := by omega
                  have HN5 := Aside0.mk (fold_range_succ (stepJ k i) M4 j)
                  generalize (List.range j).foldl (stepJ k i) M4 = M5 at HM5 HN5
                  have o1 := HM5.out.ocell i hlt4 hlt4
                  have o2 := HM5.out.ocell k hlt3 hlt3
                  have e1 := HM5.out.cell i j hlt4 hlt5
                  have e2 := HM5.out.cell i k hlt4 hlt3
                  have e3 := HM5.out.cell k j hlt3 hlt5
                  have f1 := HM5.out.free i j hlt4
                  have l1 := (HM5.out.row i hlt4).lt
                  have HST := Aside0.mk (show stepJ k i M5 j = upd2 M5 i j (M5 i j || (M5 i k && M5 k j)) from rfl)
                  generalize M5 i j = mij at e1 HST
                  generalize M5 i k = mik at e2 HST
                  generalize M5 k j = mkj at e3 HST
                  cases mij with
                  | true =>
                    go_wp2
                    refine start_ (n := 32) (S := fun W => W.cell? ⟨w.heap.size + 1, i, none⟩ = some (.slice (some ⟨R i, 0, none⟩) G.length G.length) ∧ W.cell? ⟨w.heap.size + 1, k, none⟩ = some (.slice (some ⟨R k, 0, none⟩) G.length G.length) ∧ W.cell? ⟨R i, j, none⟩ = some (.bool true) ∧ W.cell? ⟨R i, k, none⟩ = some (.bool mik) ∧ W.cell? ⟨R k, j, none⟩ = some (.bool mkj)) (ds := [31]) #[false, false, false, false, false, false, false, false, false, false, false, false, false, false, false, false, false, false, false, false, false, false, false, false, false, false, false, false, false, false, false, false] (by kernel_rfl) rfl rfl ⟨o1, o2, e1, e2, e3⟩ (fun hHeld => ?_)
                    refine with_tabW ways.tab22 ways.bits22 (fun HT_ HW_ => ?_)
                    have hMD := HM5.out.below (Below.refl wr.heap.size wr).drew
                    have hBD := HB5.out.drew
                    generalize wr.drew = w0 at hHeld hMD hBD ⊢
                    refine pure_ (i := 0) (N := (some 75)) (v := ?_) (a' := ?_) #[true, false, false, false, false, false, false, false, false, false, false, false, false, false, false, false, false, false, false, false, false, false, false, false, false, false, false, false, false, false, false, false] rfl rfl (any_of HT_.out (by kernel_rfl)) (fun _ _ _ h => h) (Or.inl ⟨by rfl, ?_⟩) ?_ ?_
                    rotate_left
                    · intro w'
                      go_simp
                      (try with_reducible rfl)
                    rotate_left
                    · simp only [Act.put, List.setIfInBounds_toArray, List.set_cons_zero, List.set_cons_succ, i64_w, i32_w]
                      rfl
                    refine pure_ (i := 1) (N := (some 76)) (v := ?_) (a' := ?_) #[true, true, false, false, false, false, false, false, false, false, false, false, false, false, false, false, false, false, false, false, false, false, false, false, false, false, false, false, false, false, false, false] rfl rfl (any_of HT_.out (by kernel_rfl)) (fun _ _ _ h => h) (Or.inl ⟨by rfl, ?_⟩) ?_ ?_
                    rotate_left
                    · intro w'
                      go_simp
                      (try with_reducible rfl)
                    rotate_left
                    · simp only [Act.put, List.setIfInBounds_toArray, List.set_cons_zero, List.set_cons_succ, i64_w, i32_w]
                      rfl
                    refine pure_ (i := 2) (N := (some 77)) (v := ?_) (a' := ?_) #[true, true, true, false, false, false, false, false, false, false, false, false, false, false, false, false, false, false, false, false, false, false, false, false, false, false, false, false, false, false, false, false] rfl rfl (any_of HT_.out (by kernel_rfl)) (fun _ _ _ h => h) (Or.inl ⟨by rfl, ?_⟩) ?_ ?_
                    rotate_left
                    · intro w'
                      go_simp
                      (try with_reducible rfl)
                    rotate_left
                    · simp only [Act.put, List.setIfInBounds_toArray, List.set_cons_zero, List.set_cons_succ, i64_w, i32_w]
                      rfl
                    refine take_ (i := 3) (N := (some 78)) (v := ?_) (a' := ?_) #[true, true, true, true, false, false, false, false, false, false, false, false, false, false, false, false, false, false, false, false, false, false, false, false, false, false, false, false, false, false, false, false] rfl rfl (take_ofW HT_.out HW_.out (by kernel_rfl)) (fun _ _ _ h => h) (Or.inl ⟨by rfl, ?_⟩) hHeld ?_ ?_
                    rotate_left
                    · rintro w' ⟨sx0, sx1, sx2, sx3, sx4⟩
                      go_simp
                      (try with_reducible rfl)
                    rotate_left
                    · simp only [Act.put, List.setIfInBounds_toArray, List.set_cons_zero, List.set_cons_succ, i64_w, i32_w]
                      rfl
                    refine pure_ (i := 4) (N := (some 79)) (v := ?_) (a' := ?_) #[true, true, true, true, true, false, false, false, false, false, false, false, false, false, false, false, false, false, false, false, false, false, false, false, false, false, false, false, false, false, false, false] rfl rfl (any_of HT_.out (by kernel_rfl)) (fun _ _ _ h => h) (Or.inl ⟨by rfl, ?_⟩) ?_ ?_
                    rotate_left
                    · intro w'
                      go_simp
                      (try with_reducible rfl)
                    rotate_left
                    · simp only [Act.put, List.setIfInBounds_toArray, List.set_cons_zero, List.set_cons_succ, i64_w, i32_w]
                      rfl
                    refine pure_ (i := 5) (N := (some 80)) (v := ?_) (a' := ?_) #[true, true, true, true, true, true, false, false, false, false, false, false, false, false, false, false, false, false, false, false, false, false, false, false, false, false, false, false, false, false, false, false] rfl rfl (any_of HT_.out (by kernel_rfl)) (fun _ _ _ h => h) (Or.inl ⟨by rfl, ?_⟩) ?_ ?_
                    rotate_left
                    · intro w'
                      go_simp
                      (try with_reducible rfl)
                    rotate_left
                    · simp only [Act.put, List.setIfInBounds_toArray, List.set_cons_zero, List.set_cons_succ, i64_w, i32_w]
                      rfl
                    refine pure_ (i := 6) (N := (some 81)) (v := ?_) (a' := ?_) #[true, true, true, true, true, true, true, false, false, false, false, false, false, false, false, false, false, false, false, false, false, false, false, false, false, false, false, false, false, false, false, false] rfl rfl (any_of HT_.out (by kernel_rfl)) (fun _ _ _ h => h) (Or.inl ⟨by rfl, ?_⟩) ?_ ?_
                    rotate_left
                    · intro w'
                      go_simp
                      (try with_reducible rfl)
                    rotate_left
                    · simp only [Act.put, List.setIfInBounds_toArray, List.set_cons_zero, List.set_cons_succ, i64_w, i32_w]
                      rfl
                    refine pure_ (i := 7) (N := (some 82)) (v := ?_) (a' := ?_) #[true, true, true, true, true, true, true, true, false, false, false, false, false, false, false, false, false, false, false, false, false, false, false, false, false, false, false, false, false, false, false, false] rfl rfl (any_of HT_.out (by kernel_rfl)) (fun _ _ _ h => h) (Or.inl ⟨by rfl, ?_⟩) ?_ ?_
                    rotate_left
                    · intro w'
                      go_simp
                      (try with_reducible rfl)
                    rotate_left
                    · simp only [Act.put, List.setIfInBounds_toArray, List.set_cons_zero, List.set_cons_succ, i64_w, i32_w]
                      rfl
                    refine take_ (i := 8) (N := (some 83)) (v := ?_) (a' := ?_) #[true, true, true, true, true, true, true, true, true, false, false, false, false, false, false, false, false, false, false, false, false, false, false, false, false, false, false, false, false, false, false, false] rfl rfl (take_ofW HT_.out HW_.out (by kernel_rfl)) (fun _ _ _ h => h) (Or.inl ⟨by rfl, ?_⟩) hHeld ?_ ?_
                    rotate_left
                    · rintro w' ⟨sx0, sx1, sx2, sx3, sx4⟩
                      go_simp
                      (try with_reducible rfl)
                    rotate_left
                    · simp only [Act.put, List.setIfInBounds_toArray, List.set_cons_zero, List.set_cons_succ, i64_w, i32_w]
                      rfl
                    refine pure_ (i := 9) (N := (some 84)) (v := ?_) (a' := ?_) #[true, true, true, true, true, true, true, true, true, true, false, false, false, false, false, false, false, false, false, false, false, false, false, false, false, false, false, false, false, false, false, false] rfl rfl (any_of HT_.out (by kernel_rfl)) (fun _ _ _ h => h) (Or.inl ⟨by rfl, ?_⟩) ?_ ?_
                    rotate_left
                    · intro w'
                      go_simp
                      (try with_reducible rfl)
                    rotate_left
                    · simp only [Act.put, List.setIfInBounds_toArray, List.set_cons_zero, List.set_cons_succ, i64_w, i32_w]
                      rfl
                    refine pure_ (i := 10) (N := (some 85)) (v := ?_) (a' := ?_) #[true, true, true, true, true, true, true, true, true, true, true, false, false, false, false, false, false, false, false, false, false, false, false, false, false, false, false, false, false, false, false, false] rfl rfl (any_of HT_.out (by kernel_rfl)) (fun _ _ _ h => h) (Or.inl ⟨by rfl, ?_⟩) ?_ ?_
                    rotate_left
                    · intro w'
                      go_simp
                      (try with_reducible rfl)
                    rotate_left
                    · simp only [Act.put, List.setIfInBounds_toArray, List.set_cons_zero, List.set_cons_succ, i64_w, i32_w]
                      rfl
                    refine take_ (i := 11) (N := (some 86)) (v := ?_) (a' := ?_) #[true, true, true, true, true, true, true, true, true, true, true, true, false, false, false, false, false, false, false, false, false, false, false, false, false, false, false, false, false, false, false, false] rfl rfl (take_ofW HT_.out HW_.out (by kernel_rfl)) (fun _ _ _ h => h) (Or.inl ⟨by rfl, ?_⟩) hHeld ?_ ?_
                    rotate_left
                    · rintro w' ⟨sx0, sx1, sx2, sx3, sx4⟩
                      go_simp
                      (try with_reducible rfl)
                    rotate_left
                    · simp only [Act.put, List.setIfInBounds_toArray, List.set_cons_zero, List.set_cons_succ, i64_w, i32_w]
                      rfl
                    refine pure_ (i := 12) (N := (some 87)) (v := ?_) (a' := ?_) #[true, true, true, true, true, true, true, true, true, true, true, true, true, false, false, false, false, false, false, false, false, false, false, false, false, false, false, false, false, false, false, false] rfl rfl (any_of HT_.out (by kernel_rfl)) (fun _ _ _ h => h) (Or.inl ⟨by rfl, ?_⟩) ?_ ?_
                    rotate_left
                    · intro w'
                      go_simp
                      (try with_reducible rfl)
                    rotate_left
                    · simp only [Act.put, List.setIfInBounds_toArray, List.set_cons_zero, List.set_cons_succ, i64_w, i32_w]
                      rfl
                    refine pure_ (i := 13) (N := (some 88)) (v := undef) (a' := ?_) #[true, true, true, true, true, true, true, true, true, true, true, true, true, true, false, false, false, false, false, false, false, false, false, false, false, false, false, false, false, false, false, false] rfl rfl (any_of HT_.out (by kernel_rfl)) (fun _ _ _ h => h) (Or.inr ⟨by rfl, rfl⟩) ?_ ?_
                    rotate_left
                    · simp only [Act.put, List.setIfInBounds_toArray, List.set_cons_zero, List.set_cons_succ, i64_w, i32_w]
                      rfl
                    refine pure_ (i := 14) (N := (some 89)) (v := undef) (a' := ?_) #[true, true, true, true, true, true, true, true, true, true, true, true, true, true, true, false, false, false, false, false, false, false, false, false, false, false, false, false, false, false, false, false] rfl rfl (any_of HT_.out (by kernel_rfl)) (fun _ _ _ h => h) (Or.inr ⟨by rfl, rfl⟩) ?_ ?_
                    rotate_left
                    · simp only [Act.put, List.setIfInBounds_toArray, List.set_cons_zero, List.set_cons_succ, i64_w, i32_w]
                      rfl
                    refine pure_ (i := 15) (N := (some 90)) (v := undef) (a' := ?_) #[true, true, true, true, true, true, true, true, true, true, true, true, true, true, true, true, false, false, false, false, false, false, false, false, false, false, false, false, false, false, false, false] rfl rfl (any_of HT_.out (by kernel_rfl)) (fun _ _ _ h => h) (Or.inr ⟨by rfl, rfl⟩) ?_ ?_
                    rotate_left
                    · simp only [Act.put, List.setIfInBounds_toArray, List.set_cons_zero, List.set_cons_succ, i64_w, i32_w]
                      rfl
                    refine pure_ (i := 16) (N := (some 91)) (v := undef) (a' := ?_) #[true, true, true, true, true, true, true, true, true, true, true, true, true, true, true, true, true, false, false, false, false, false, false, false, false, false, false, false, false, false, false, false] rfl rfl (any_of HT_.out (by kernel_rfl)) (fun _ _ _ h => h) (Or.inr ⟨by rfl, rfl⟩) ?_ ?_
                    rotate_left
                    · simp only [Act.put, List.setIfInBounds_toArray, List.set_cons_zero, List.set_cons_succ, i64_w, i32_w]
                      rfl
                    refine pure_ (i := 17) (N := (some 92)) (v := undef) (a' := ?_) #[true, true, true, true, true, true, true, true, true, true, true, true, true, true, true, true, true, true, false, false, false, false, false, false, false, false, false, false, false, false, false, false] rfl rfl (any_of HT_.out (by kernel_rfl)) (fun _ _ _ h => h) (Or.inr ⟨by rfl, rfl⟩) ?_ ?_
                    rotate_left
                    · simp only [Act.put, List.setIfInBounds_toArray, List.set_cons_zero, List.set_cons_succ, i64_w, i32_w]
                      rfl
                    refine pure_ (i := 18) (N := (some 93)) (v := undef) (a' := ?_) #[true, true, true, true, true, true, true, true, true, true, true, true, true, true, true, true, true, true, true, false, false, false, false, false, false, false, false, false, false, false, false, false] rfl rfl (any_of HT_.out (by kernel_rfl)) (fun _ _ _ h => h) (Or.inr ⟨by rfl, rfl⟩) ?_ ?_
                    rotate_left
                    · simp only [Act.put, List.setIfInBounds_toArray, List.set_cons_zero, List.set_cons_succ, i64_w, i32_w]
                      rfl
                    refine pure_ (i := 19) (N := (some 94)) (v := undef) (a' := ?_) #[true, true, true, true, true, true, true, true, true, true, true, true, true, true, true, true, true, true, true, true, false, false, false, false, false, false, false, false, false, false, false, false] rfl rfl (any_of HT_.out (by kernel_rfl)) (fun _ _ _ h => h) (Or.inr ⟨by rfl, rfl⟩) ?_ ?_
                    rotate_left
                    · simp only [Act.put, List.setIfInBounds_toArray, List.set_cons_zero, List.set_cons_succ, i64_w, i32_w]
                      rfl
                    refine pure_ (i := 20) (N := (some 95)) (v := undef) (a' := ?_) #[true, true, true, true, true, true, true, true, true, true, true, true, true, true, true, true, true, true, true, true, true, false, false, false, false, false, false, false, false, false, false, false] rfl rfl (any_of HT_.out (by kernel_rfl)) (fun _ _ _ h => h) (Or.inr ⟨by rfl, rfl⟩) ?_ ?_
                    rotate_left
                    · simp only [Act.put, List.setIfInBounds_toArray, List.set_cons_zero, List.set_cons_succ, i64_w, i32_w]
                      rfl
                    refine pure_ (i := 21) (N := (some 96)) (v := undef) (a' := ?_) #[true, true, true, true, true, true, true, true, true, true, true, true, true, true, true, true, true, true, true, true, true, true, false, false, false, false, false, false, false, false, false, false] rfl rfl (any_of HT_.out (by kernel_rfl)) (fun _ _ _ h => h) (Or.inr ⟨by rfl, rfl⟩) ?_ ?_
                    rotate_left
                    · simp only [Act.put, List.setIfInBounds_toArray, List.set_cons_zero, List.set_cons_succ, i64_w, i32_w]
                      rfl
                    refine pure_ (i := 22) (N := (some 97)) (v := undef) (a' := ?_) #[true, true, true, true, true, true, true, true, true, true, true, true, true, true, true, true, true, true, true, true, true, true, true, false, false, false, false, false, false, false, false, false] rfl rfl (any_of HT_.out (by kernel_rfl)) (fun _ _ _ h => h) (Or.inr ⟨by rfl, rfl⟩) ?_ ?_
                    rotate_left
                    · simp only [Act.put, List.setIfInBounds_toArray, List.set_cons_zero, List.set_cons_succ, i64_w, i32_w]
                      rfl
                    refine pure_ (i := 23) (N := (some 98)) (v := undef) (a' := ?_) #[true, true, true, true, true, true, true, true, true, true, true, true, true, true, true, true, true, true, true, true, true, true, true, true, false, false, false, false, false, false, false, false] rfl rfl (any_of HT_.out (by kernel_rfl)) (fun _ _ _ h => h) (Or.inr ⟨by rfl, rfl⟩) ?_ ?_
                    rotate_left
                    · simp only [Act.put, List.setIfInBounds_toArray, List.set_cons_zero, List.set_cons_succ, i64_w, i32_w]
                      rfl
                    refine pure_ (i := 24) (N := (some 99)) (v := undef) (a' := ?_) #[true, true, true, true, true, true, true, true, true, true, true, true, true, true, true, true, true, true, true, true, true, true, true, true, true, false, false, false, false, false, false, false] rfl rfl (any_of HT_.out (by kernel_rfl)) (fun _ _ _ h => h) (Or.inr ⟨by rfl, rfl⟩) ?_ ?_
                    rotate_left
                    · simp only [Act.put, List.setIfInBounds_toArray, List.set_cons_zero, List.set_cons_succ, i64_w, i32_w]
                      rfl
                    refine pure_ (i := 25) (N := (some 100)) (v := undef) (a' := ?_) #[true, true, true, true, true, true, true, true, true, true, true, true, true, true, true, true, true, true, true, true, true, true, true, true, true, true, false, false, false, false, false, false] rfl rfl (any_of HT_.out (by kernel_rfl)) (fun _ _ _ h => h) (Or.inr ⟨by rfl, rfl⟩) ?_ ?_
                    rotate_left
                    · simp only [Act.put, List.setIfInBounds_toArray, List.set_cons_zero, List.set_cons_succ, i64_w, i32_w]
                      rfl
                    refine pure_ (i := 26) (N := (some 101)) (v := undef) (a' := ?_) #[true, true, true, true, true, true, true, true, true, true, true, true, true, true, true, true, true, true, true, true, true, true, true, true, true, true, true, false, false, false, false, false] rfl rfl (any_of HT_.out (by kernel_rfl)) (fun _ _ _ h => h) (Or.inr ⟨by rfl, rfl⟩) ?_ ?_
                    rotate_left
                    · simp only [Act.put, List.setIfInBounds_toArray, List.set_cons_zero, List.set_cons_succ, i64_w, i32_w]
                      rfl
                    refine pure_ (i := 27) (N := (some 102)) (v := undef) (a' := ?_) #[true, true, true, true, true, true, true, true, true, true, true, true, true, true, true, true, true, true, true, true, true, true, true, true, true, true, true, true, false, false, false, false] rfl rfl (any_of HT_.out (by kernel_rfl)) (fun _ _ _ h => h) (Or.inr ⟨by rfl, rfl⟩) ?_ ?_
                    rotate_left
                    · simp only [Act.put, List.setIfInBounds_toArray, List.set_cons_zero, List.set_cons_succ, i64_w, i32_w]
                      rfl
                    refine pure_ (i := 28) (N := (some 103)) (v := undef) (a' := ?_) #[true, true, true, true, true, true, true, true, true, true, true, true, true, true, true, true, true, true, true, true, true, true, true, true, true, true, true, true, true, false, false, false] rfl rfl (any_of HT_.out (by kernel_rfl)) (fun _ _ _ h => h) (Or.inr ⟨by rfl, rfl⟩) ?_ ?_
                    rotate_left
                    · simp only [Act.put, List.setIfInBounds_toArray, List.set_cons_zero, List.set_cons_succ, i64_w, i32_w]
                      rfl
                    refine pure_ (i := 29) (N := (some 104)) (v := ?_) (a' := ?_) #[true, true, true, true, true, true, true, true, true, true, true, true, true, true, true, true, true, true, true, true, true, true, true, true, true, true, true, true, true, true, false, false] rfl rfl (any_of HT_.out (by kernel_rfl)) (fun _ _ _ h => h) (Or.inl ⟨by rfl, ?_⟩) ?_ ?_
                    rotate_left
                    · intro w'
                      go_simp
                      (try with_reducible rfl)
                    rotate_left
                    · simp only [Act.put, List.setIfInBounds_toArray, List.set_cons_zero, List.set_cons_succ, i64_w, i32_w]
                      rfl
                    refine pure_ (i := 30) (N := (some 105)) (v := ?_) (a' := ?_) #[true, true, true, true, true, true, true, true, true, true, true, true, true, true, true, true, true, true, true, true, true, true, true, true, true, true, true, true, true, true, true, false] rfl rfl (any_of HT_.out (by kernel_rfl)) (fun _ _ _ h => h) (Or.inl ⟨by rfl, ?_⟩) ?_ ?_
                    rotate_left
                    · intro w'
                      go_simp
                      (try with_reducible rfl)
                    rotate_left
                    · simp only [Act.put, List.setIfInBounds_toArray, List.set_cons_zero, List.set_cons_succ, i64_w, i32_w]
                      rfl
                    refine last_ (i := 31) (N := none) #[true, true, true, true, true, true, true, true, true, true, true, true, true, true, true, true, true, true, true, true, true, true, true, true, true, true, true, true, true, true, true, true] rfl rfl (one_of HT_.out (by kernel_rfl)) (by decide) (fun K hK => ?_)
                    have tc := hMD.cell i j hlt4 hlt5
                    have tf := hMD.free i j hlt4
                    refine skip_ (w1 := ?_) (by rfl) rfl ?_ ?_
                    rotate_left
                    · go_simp
                      rfl
                    refine hK.out _ _ ?_
                    clear hK K
                    refine done_ (done_of HT_.out (by kernel_rfl)) ?_
                    go_wp2
                    go_roundg (G.length - (j + 1))
                    case measure => omega
                    case rel => exact ⟨j + 1, by go_num, by omega, by omega, ⟨by rw [HN5.out, HST.out]; exact hMD.set i j hlt4 _⟩, ⟨below_set hBD (hMD.ge i hlt4)⟩⟩
                  | false =>
                    cases mik with
                    | false =>
                      go_wp2
                      refine start_ (n := 32) (S := fun W => W.cell? ⟨w.heap.size + 1, i, none⟩ = some (.slice (some ⟨R i, 0, none⟩) G.length G.length) ∧ W.cell? ⟨w.heap.size + 1, k, none⟩ = some (.slice (some ⟨R k, 0, none⟩) G.length G.length) ∧ W.cell? ⟨R i, j, none⟩ = some (.bool false) ∧ W.cell? ⟨R i, k, none⟩ = some (.bool false) ∧ W.cell? ⟨R k, j, none⟩ = some (.bool mkj)) (ds := [31]) #[false, false, false, false, false, false, false, false, false, false, false, false, false, false, false, false, false, false, false, false, false, false, false, false, false, false, false, false, false, false, false, false] (by kernel_rfl) rfl rfl ⟨o1, o2, e1, e2, e3⟩ (fun hHeld => ?_)
                      refine with_tabW ways.tab22 ways.bits22 (fun HT_ HW_ => ?_)
                      have hMD := HM5.out.below (Below.refl wr.heap.size wr).drew
                      have hBD := HB5.out.drew
                      generalize wr.drew = w0 at hHeld hMD hBD ⊢
                      refine pure_ (i := 0) (N := (some 75)) (v := ?_) (a' := ?_) #[true, false, false, false, false, false, false, false, false, false, false, false, false, false, false, false, false, false, false, false, false, false, false, false, false, false, false, false, false, false, false, false] rfl rfl (any_of HT_.out (by kernel_rfl)) (fun _ _ _ h => h) (Or.inl ⟨by rfl, ?_⟩) ?_ ?_
                      rotate_left
                      · intro w'
                        go_simp
                        (try with_reducible rfl)
                      rotate_left
                      · simp only [Act.put, List.setIfInBounds_toArray, List.set_cons_zero, List.set_cons_succ, i64_w, i32_w]
                        rfl
                      refine pure_ (i := 1) (N := (some 76)) (v := ?_) (a' := ?_) #[true, true, false, false, false, false, false, false, false, false, false, false, false, false, false, false, false, false, false, false, false, false, false, false, false, false, false, false, false, false, false, false] rfl rfl (any_of HT_.out (by kernel_rfl)) (fun _ _ _ h => h) (Or.inl ⟨by rfl, ?_⟩) ?_ ?_
                      rotate_left
                      · intro w'
                        go_simp
                        (try with_reducible rfl)
                      rotate_left
                      · simp only [Act.put, List.setIfInBounds_toArray, List.set_cons_zero, List.set_cons_succ, i64_w, i32_w]
                        rfl
                      refine pure_ (i := 2) (N := (some 77)) (v := ?_) (a' := ?_) #[true, true, true, false, false, false, false, false, false, false, false, false, false, false, false, false, false, false, false, false, false, false, false, false, false, false, false, false, false, false, false, false] rfl rfl (any_of HT_.out (by kernel_rfl)) (fun _ _ _ h => h) (Or.inl ⟨by rfl, ?_⟩) ?_ ?_
                      rotate_left
                      · intro w'
                        go_simp
                        (try with_reducible rfl)
                      rotate_left
                      · simp only [Act.put, List.setIfInBounds_toArray, List.set_cons_zero, List.set_cons_succ, i64_w, i32_w]
                        rfl
                      refine take_ (i := 3) (N := (some 78)) (v := ?_) (a' := ?_) #[true, true, true, true, false, false, false, false, false, false, false, false, false, false, false, false, false, false, false, false, false, false, false, false, false, false, false, false, false, false, false, false] rfl rfl (take_ofW HT_.out HW_.out (by kernel_rfl)) (fun _ _ _ h => h) (Or.inl ⟨by rfl, ?_⟩) hHeld ?_ ?_
                      rotate_left
                      · rintro w' ⟨sx0, sx1, sx2, sx3, sx4⟩
                        go_simp
                        (try with_reducible rfl)
                      rotate_left
                      · simp only [Act.put, List.setIfInBounds_toArray, List.set_cons_zero, List.set_cons_succ, i64_w, i32_w]
                        rfl
                      refine pure_ (i := 4) (N := (some 79)) (v := ?_) (a' := ?_) #[true, true, true, true, true, false, false, false, false, false, false, false, false, false, false, false, false, false, false, false, false, false, false, false, false, false, false, false, false, false, false, false] rfl rfl (any_of HT_.out (by kernel_rfl)) (fun _ _ _ h => h) (Or.inl ⟨by rfl, ?_⟩) ?_ ?_
                      rotate_left
                      · intro w'
                        go_simp
                        (try with_reducible rfl)
                      rotate_left
                      · simp only [Act.put, List.setIfInBounds_toArray, List.set_cons_zero, List.set_cons_succ, i64_w, i32_w]
                        rfl
                      refine pure_ (i := 5) (N := (some 80)) (v := ?_) (a' := ?_) #[true, true, true, true, true, true, false, false, false, false, false, false, false, false, false, false, false, false, false, false, false, false, false, false, false, false, false, false, false, false, false, false] rfl rfl (any_of HT_.out (by kernel_rfl)) (fun _ _ _ h => h) (Or.inl ⟨by rfl, ?_⟩) ?_ ?_
                      rotate_left
                      · intro w'
                        go_simp
                        (try with_reducible rfl)
                      rotate_left
                      · simp only [Act.put, List.setIfInBounds_toArray, List.set_cons_zero, List.set_cons_succ, i64_w, i32_w]
                        rfl
                      refine pure_ (i := 6) (N := (some 81)) (v := ?_) (a' := ?_) #[true, true, true, true, true, true, true, false, false, false, false, false, false, false, false, false, false, false, false, false, false, false, false, false, false, false, false, false, false, false, false, false] rfl rfl (any_of HT_.out (by kernel_rfl)) (fun _ _ _ h => h) (Or.inl ⟨by rfl, ?_⟩) ?_ ?_
                      rotate_left
                      · intro w'
                        go_simp
                        (try with_reducible rfl)
                      rotate_left
                      · simp only [Act.put, List.setIfInBounds_toArray, List.set_cons_zero, List.set_cons_succ, i64_w, i32_w]
                        rfl
                      refine pure_ (i := 7) (N := (some 82)) (v := ?_) (a' := ?_) #[true, true, true, true, true, true, true, true, false, false, false, false, false, false, false, false, false, false, false, false, false, false, false, false, false, false, false, false, false, false, false, false] rfl rfl (any_of HT_.out (by kernel_rfl)) (fun _ _ _ h => h) (Or.inl ⟨by rfl, ?_⟩) ?_ ?_
                      rotate_left
                      · intro w'
                        go_simp
                        (try with_reducible rfl)
                      rotate_left
                      · simp only [Act.put, List.setIfInBounds_toArray, List.set_cons_zero, List.set_cons_succ, i64_w, i32_w]
                        rfl
                      refine take_ (i := 8) (N := (some 83)) (v := ?_) (a' := ?_) #[true, true, true, true, true, true, true, true, true, false, false, false, false, false, false, false, false, false, false, false, false, false, false, false, false, false, false, false, false, false, false, false] rfl rfl (take_ofW HT_.out HW_.out (by kernel_rfl)) (fun _ _ _ h => h) (Or.inl ⟨by rfl, ?_⟩) hHeld ?_ ?_
                      rotate_left
                      · rintro w' ⟨sx0, sx1, sx2, sx3, sx4⟩
                        go_simp
                        (try with_reducible rfl)
                      rotate_left
                      · simp only [Act.put, List.setIfInBounds_toArray, List.set_cons_zero, List.set_cons_succ, i64_w, i32_w]
                        rfl
                      refine pure_ (i := 9) (N := (some 84)) (v := ?_) (a' := ?_) #[true, true, true, true, true, true, true, true, true, true, false, false, false, false, false, false, false, false, false, false, false, false, false, false, false, false, false, false, false, false, false, false] rfl rfl (any_of HT_.out (by kernel_rfl)) (fun _ _ _ h => h) (Or.inl ⟨by rfl, ?_⟩) ?_ ?_
                      rotate_left
                      · intro w'
                        go_simp
                        (try with_reducible rfl)
                      rotate_left
                      · simp only [Act.put, List.setIfInBounds_toArray, List.set_cons_zero, List.set_cons_succ, i64_w, i32_w]
                        rfl
                      refine pure_ (i := 10) (N := (some 85)) (v := ?_) (a' := ?_) #[true, true, true, true, true, true, true, true, true, true, true, false, false, false, false, false, false, false, false, false, false, false, false, false, false, false, false, false, false, false, false, false] rfl rfl (any_of HT_.out (by kernel_rfl)) (fun _ _ _ h => h) (Or.inl ⟨by rfl, ?_⟩) ?_ ?_
                      rotate_left
                      · intro w'
                        go_simp
                        (try with_reducible rfl)
                      rotate_left
                      · simp only [Act.put, List.setIfInBounds_toArray, List.set_cons_zero, List.set_cons_succ, i64_w, i32_w]
                        rfl
                      refine take_ (i := 11) (N := (some 86)) (v := ?_) (a' := ?_) #[true, true, true, true, true, true, true, true, true, true, true, true, false, false, false, false, false, false, false, false, false, false, false, false, false, false, false, false, false, false, false, false] rfl rfl (take_ofW HT_.out HW_.out (by kernel_rfl)) (fun _ _ _ h => h) (Or.inl ⟨by rfl, ?_⟩) hHeld ?_ ?_
                      rotate_left
                      · rintro w' ⟨sx0, sx1, sx2, sx3, sx4⟩
                        go_simp
                        (try with_reducible rfl)
                      rotate_left
                      · simp only [Act.put, List.setIfInBounds_toArray, List.set_cons_zero, List.set_cons_succ, i64_w, i32_w]
                        rfl
                      refine pure_ (i := 12) (N := (some 87)) (v := ?_) (a' := ?_) #[true, true, true, true, true, true, true, true, true, true, true, true, true, false, false, false, false, false, false, false, false, false, false, false, false, false, false, false, false, false, false, false] rfl rfl (any_of HT_.out (by kernel_rfl)) (fun _ _ _ h => h) (Or.inl ⟨by rfl, ?_⟩) ?_ ?_
                      rotate_left
                      · intro w'
                        go_simp
                        (try with_reducible rfl)
                      rotate_left
                      · simp only [Act.put, List.setIfInBounds_toArray, List.set_cons_zero, List.set_cons_succ, i64_w, i32_w]
                        rfl
                      refine pure_ (i := 13) (N := (some 88)) (v := ?_) (a' := ?_) #[true, true, true, true, true, true, true, true, true, true, true, true, true, true, false, false, false, false, false, false, false, false, false, false, false, false, false, false, false, false, false, false] rfl rfl (any_of HT_.out (by kernel_rfl)) (fun _ _ _ h => h) (Or.inl ⟨by rfl, ?_⟩) ?_ ?_
                      rotate_left
                      · intro w'
                        go_simp
                        (try with_reducible rfl)
                      rotate_left
                      · simp only [Act.put, List.setIfInBounds_toArray, List.set_cons_zero, List.set_cons_succ, i64_w, i32_w]
                        rfl
                      refine pure_ (i := 14) (N := (some 89)) (v := ?_) (a' := ?_) #[true, true, true, true, true, true, true, true, true, true, true, true, true, true, true, false, false, false, false, false, false, false, false, false, false, false, false, false, false, false, false, false] rfl rfl (any_of HT_.out (by kernel_rfl)) (fun _ _ _ h => h) (Or.inl ⟨by rfl, ?_⟩) ?_ ?_
                      rotate_left
                      · intro w'
                        go_simp
                        (try with_reducible rfl)
                      rotate_left
                      · simp only [Act.put, List.setIfInBounds_toArray, List.set_cons_zero, List.set_cons_succ, i64_w, i32_w]
                        rfl
                      refine pure_ (i := 15) (N := (some 90)) (v := ?_) (a' := ?_) #[true, true, true, true, true, true, true, true, true, true, true, true, true, true, true, true, false, false, false, false, false, false, false, false, false, false, false, false, false, false, false, false] rfl rfl (any_of HT_.out (by kernel_rfl)) (fun _ _ _ h => h) (Or.inl ⟨by rfl, ?_⟩) ?_ ?_
                      rotate_left
                      · intro w'
                        go_simp
                        (try with_reducible rfl)
                      rotate_left
                      · simp only [Act.put, List.setIfInBounds_toArray, List.set_cons_zero, List.set_cons_succ, i64_w, i32_w]
                        rfl
                      refine take_ (i := 16) (N := (some 91)) (v := ?_) (a' := ?_) #[true, true, true, true, true, true, true, true, true, true, true, true, true, true, true, true, true, false, false, false, false, false, false, false, false, false, false, false, false, false, false, false] rfl rfl (take_ofW HT_.out HW_.out (by kernel_rfl)) (fun _ _ _ h => h) (Or.inl ⟨by rfl, ?_⟩) hHeld ?_ ?_
                      rotate_left
                      · rintro w' ⟨sx0, sx1, sx2, sx3, sx4⟩
                        go_simp
                        (try with_reducible rfl)
                      rotate_left
                      · simp only [Act.put, List.setIfInBounds_toArray, List.set_cons_zero, List.set_cons_succ, i64_w, i32_w]
                        rfl
                      refine pure_ (i := 17) (N := (some 92)) (v := ?_) (a' := ?_) #[true, true, true, true, true, true, true, true, true, true, true, true, true, true, true, true, true, true, false, false, false, false, false, false, false, false, false, false, false, false, false, false] rfl rfl (any_of HT_.out (by kernel_rfl)) (fun _ _ _ h => h) (Or.inl ⟨by rfl, ?_⟩) ?_ ?_
                      rotate_left
                      · intro w'
                        go_simp
                        (try with_reducible rfl)
                      rotate_left
                      · simp only [Act.put, List.setIfInBounds_toArray, List.set_cons_zero, List.set_cons_succ, i64_w, i32_w]
                        rfl
                      refine pure_ (i := 18) (N := (some 93)) (v := ?_) (a' := ?_) #[true, true, true, true, true, true, true, true, true, true, true, true, true, true, true, true, true, true, true, false, false, false, false, false, false, false, false, false, false, false, false, false] rfl rfl (any_of HT_.out (by kernel_rfl)) (fun _ _ _ h => h) (Or.inl ⟨by rfl, ?_⟩) ?_ ?_
                      rotate_left
                      · intro w'
                        go_simp
                        (try with_reducible rfl)
                      rotate_left
                      · simp only [Act.put, List.setIfInBounds_toArray, List.set_cons_zero, List.set_cons_succ, i64_w, i32_w]
                        rfl
                      refine take_ (i := 19) (N := (some 94)) (v := ?_) (a' := ?_) #[true, true, true, true, true, true, true, true, true, true, true, true, true, true, true, true, true, true, true, true, false, false, false, false, false, false, false, false, false, false, false, false] rfl rfl (take_ofW HT_.out HW_.out (by kernel_rfl)) (fun _ _ _ h => h) (Or.inl ⟨by rfl, ?_⟩) hHeld ?_ ?_
                      rotate_left
                      · rintro w' ⟨sx0, sx1, sx2, sx3, sx4⟩
                        go_simp
                        (try with_reducible rfl)
                      rotate_left
                      · simp only [Act.put, List.setIfInBounds_toArray, List.set_cons_zero, List.set_cons_succ, i64_w, i32_w]
                        rfl
                      refine pure_ (i := 20) (N := (some 95)) (v := ?_) (a' := ?_) #[true, true, true, true, true, true, true, true, true, true, true, true, true, true, true, true, true, true, true, true, true, false, false, false, false, false, false, false, false, false, false, false] rfl rfl (any_of HT_.out (by kernel_rfl)) (fun _ _ _ h => h) (Or.inl ⟨by rfl, ?_⟩) ?_ ?_
                      rotate_left
                      · intro w'
                        go_simp
                        (try with_reducible rfl)
                      rotate_left
                      · simp only [Act.put, List.setIfInBounds_toArray, List.set_cons_zero, List.set_cons_succ, i64_w, i32_w]
                        rfl
                      refine pure_ (i := 21) (N := (some 96)) (v := undef) (a' := ?_) #[true, true, true, true, true, true, true, true, true, true, true, true, true, true, true, true, true, true, true, true, true, true, false, false, false, false, false, false, false, false, false, false] rfl rfl (any_of HT_.out (by kernel_rfl)) (fun _ _ _ h => h) (Or.inr ⟨by rfl, rfl⟩) ?_ ?_
                      rotate_left
                      · simp only [Act.put, List.setIfInBounds_toArray, List.set_cons_zero, List.set_cons_succ, i64_w, i32_w]
                        rfl
                      refine pure_ (i := 22) (N := (some 97)) (v := undef) (a' := ?_) #[true, true, true, true, true, true, true, true, true, true, true, true, true, true, true, true, true, true, true, true, true, true, true, false, false, false, false, false, false, false, false, false] rfl rfl (any_of HT_.out (by kernel_rfl)) (fun _ _ _ h => h) (Or.inr ⟨by rfl, rfl⟩) ?_ ?_
                      rotate_left
                      · simp only [Act.put, List.setIfInBounds_toArray, List.set_cons_zero, List.set_cons_succ, i64_w, i32_w]
                        rfl
                      refine pure_ (i := 23) (N := (some 98)) (v := undef) (a' := ?_) #[true, true, true, true, true, true, true, true, true, true, true, true, true, true, true, true, true, true, true, true, true, true, true, true, false, false, false, false, false, false, false, false] rfl rfl (any_of HT_.out (by kernel_rfl)) (fun _ _ _ h => h) (Or.inr ⟨by rfl, rfl⟩) ?_ ?_
                      rotate_left
                      · simp only [Act.put, List.setIfInBounds_toArray, List.set_cons_zero, List.set_cons_succ, i64_w, i32_w]
                        rfl
                      refine pure_ (i := 24) (N := (some 99)) (v := undef) (a' := ?_) #[true, true, true, true, true, true, true, true, true, true, true, true, true, true, true, true, true, true, true, true, true, true, true, true, true, false, false, false, false, false, false, false] rfl rfl (any_of HT_.out (by kernel_rfl)) (fun _ _ _ h => h) (Or.inr ⟨by rfl, rfl⟩) ?_ ?_
                      rotate_left
                      · simp only [Act.put, List.setIfInBounds_toArray, List.set_cons_zero, List.set_cons_succ, i64_w, i32_w]
                        rfl
                      refine pure_ (i := 25) (N := (some 100)) (v := undef) (a' := ?_) #[true, true, true, true, true, true, true, true, true, true, true, true, true, true, true, true, true, true, true, true, true, true, true, true, true, true, false, false, false, false, false, false] rfl rfl (any_of HT_.out (by kernel_rfl)) (fun _ _ _ h => h) (Or.inr ⟨by rfl, rfl⟩) ?_ ?_
                      rotate_left
                      · simp only [Act.put, List.setIfInBounds_toArray, List.set_cons_zero, List.set_cons_succ, i64_w, i32_w]
                        rfl
                      refine pure_ (i := 26) (N := (some 101)) (v := undef) (a' := ?_) #[true, true, true, true, true, true, true, true, true, true, true, true, true, true, true, true, true, true, true, true, true, true, true, true, true, true, true, false, false, false, false, false] rfl rfl (any_of HT_.out (by kernel_rfl)) (fun _ _ _ h => h) (Or.inr ⟨by rfl, rfl⟩) ?_ ?_
                      rotate_left
                      · simp only [Act.put, List.setIfInBounds_toArray, List.set_cons_zero, List.set_cons_succ, i64_w, i32_w]
                        rfl
                      refine pure_ (i := 27) (N := (some 102)) (v := undef) (a' := ?_) #[true, true, true, true, true, true, true, true, true, true, true, true, true, true, true, true, true, true, true, true, true, true, true, true, true, true, true, true, false, false, false, false] rfl rfl (any_of HT_.out (by kernel_rfl)) (fun _ _ _ h => h) (Or.inr ⟨by rfl, rfl⟩) ?_ ?_
                      rotate_left
                      · simp only [Act.put, List.setIfInBounds_toArray, List.set_cons_zero, List.set_cons_succ, i64_w, i32_w]
                        rfl
                      refine pure_ (i := 28) (N := (some 103)) (v := ?_) (a' := ?_) #[true, true, true, true, true, true, true, true, true, true, true, true, true, true, true, true, true, true, true, true, true, true, true, true, true, true, true, true, true, false, false, false] rfl rfl (any_of HT_.out (by kernel_rfl)) (fun _ _ _ h => h) (Or.inl ⟨by rfl, ?_⟩) ?_ ?_
                      rotate_left
                      · intro w'
                        go_simp
                        (try with_reducible rfl)
                      rotate_left
                      · simp only [Act.put, List.setIfInBounds_toArray, List.set_cons_zero, List.set_cons_succ, i64_w, i32_w]
                        rfl
                      refine pure_ (i := 29) (N := (some 104)) (v := ?_) (a' := ?_) #[true, true, true, true, true, true, true, true, true, true, true, true, true, true, true, true, true, true, true, true, true, true, true, true, true, true, true, true, true, true, false, false] rfl rfl (any_of HT_.out (by kernel_rfl)) (fun _ _ _ h => h) (Or.inl ⟨by rfl, ?_⟩) ?_ ?_
                      rotate_left
                      · intro w'
                        go_simp
                        (try with_reducible rfl)
                      rotate_left
                      · simp only [Act.put, List.setIfInBounds_toArray, List.set_cons_zero, List.set_cons_succ, i64_w, i32_w]
                        rfl
                      refine pure_ (i := 30) (N := (some 105)) (v := ?_) (a' := ?_) #[true, true, true, true, true, true, true, true, true, true, true, true, true, true, true, true, true, true, true, true, true, true, true, true, true, true, true, true, true, true, true, false] rfl rfl (any_of HT_.out (by kernel_rfl)) (fun _ _ _ h => h) (Or.inl ⟨by rfl, ?_⟩) ?_ ?_
                      rotate_left
                      · intro w'
                        go_simp
                        (try with_reducible rfl)
                      rotate_left
                      · simp only [Act.put, List.setIfInBounds_toArray, List.set_cons_zero, List.set_cons_succ, i64_w, i32_w]
                        rfl
                      refine last_ (i := 31) (N := none) #[true, true, true, true, true, true, true, true, true, true, true, true, true, true, true, true, true, true, true, true, true, true, true, true, true, true, true, true, true, true, true, true] rfl rfl (one_of HT_.out (by kernel_rfl)) (by decide) (fun K hK => ?_)
                      have tc := hMD.cell i j hlt4 hlt5
                      have tf := hMD.free i j hlt4
                      refine skip_ (w1 := ?_) (by rfl) rfl ?_ ?_
                      rotate_left
                      · go_simp
                        rfl
                      refine hK.out _ _ ?_
                      clear hK K
                      refine done_ (done_of HT_.out (by kernel_rfl)) ?_
                      go_wp2
                      go_roundg (G.length - (j + 1))
                      case measure => omega
                      case rel => exact ⟨j + 1, by go_num, by omega, by omega, ⟨by rw [HN5.out, HST.out]; exact hMD.set i j hlt4 _⟩, ⟨below_set hBD (hMD.ge i hlt4)⟩⟩
                    | true =>
                      go_wp2
                      refine start_ (n := 32) (S := fun W => W.cell? ⟨w.heap.size + 1, i, none⟩ = some (.slice (some ⟨R i, 0, none⟩) G.length G.length) ∧ W.cell? ⟨w.heap.size + 1, k, none⟩ = some (.slice (some ⟨R k, 0, none⟩) G.length G.length) ∧ W.cell? ⟨R i, j, none⟩ = some (.bool false) ∧ W.cell? ⟨R i, k, none⟩ = some (.bool true) ∧ W.cell? ⟨R k, j, none⟩ = some (.bool mkj)) (ds := [31]) #[false, false, false, false, false, false, false, false, false, false, false, false, false, false, false, false, false, false, false, false, false, false, false, false, false, false, false, false, false, false, false, false] (by kernel_rfl) rfl rfl ⟨o1, o2, e1, e2, e3⟩ (fun hHeld => ?_)
                      refine with_tabW ways.tab22 ways.bits22 (fun HT_ HW_ => ?_)
                      have hMD := HM5.out.below (Below.refl wr.heap.size wr).drew
                      have hBD := HB5.out.drew
                      generalize wr.drew = w0 at hHeld hMD hBD ⊢
                      refine pure_ (i := 0) (N := (some 75)) (v := ?_) (a' := ?_) #[true, false, false, false, false, false, false, false, false, false, false, false, false, false, false, false, false, false, false, false, false, false, false, false, false, false, false, false, false, false, false, false] rfl rfl (any_of HT_.out (by kernel_rfl)) (fun _ _ _ h => h) (Or.inl ⟨by rfl, ?_⟩) ?_ ?_
                      rotate_left
                      · intro w'
                        go_simp
                        (try with_reducible rfl)
                      rotate_left
                      · simp only [Act.put, List.setIfInBounds_toArray, List.set_cons_zero, List.set_cons_succ, i64_w, i32_w]
                        rfl
                      refine pure_ (i := 1) (N := (some 76)) (v := ?_) (a' := ?_) #[true, true, false, false, false, false, false, false, false, false, false, false, false, false, false, false, false, false, false, false, false, false, false, false, false, false, false, false, false, false, false, false] rfl rfl (any_of HT_.out (by kernel_rfl)) (fun _ _ _ h => h) (Or.inl ⟨by rfl, ?_⟩) ?_ ?_
                      rotate_left
                      · intro w'
                        go_simp
                        (try with_reducible rfl)
                      rotate_left
                      · simp only [Act.put, List.setIfInBounds_toArray, List.set_cons_zero, List.set_cons_succ, i64_w, i32_w]
                        rfl
                      refine pure_ (i := 2) (N := (some 77)) (v := ?_) (a' := ?_) #[true, true, true, false, false, false, false, false, false, false, false, false, false, false, false, false, false, false, false, false, false, false, false, false, false, false, false, false, false, false, false, false] rfl rfl (any_of HT_.out (by kernel_rfl)) (fun _ _ _ h => h) (Or.inl ⟨by rfl, ?_⟩) ?_ ?_
                      rotate_left
                      · intro w'
                        go_simp
                        (try with_reducible rfl)
                      rotate_left
                      · simp only [Act.put, List.setIfInBounds_toArray, List.set_cons_zero, List.set_cons_succ, i64_w, i32_w]
                        rfl
                      refine take_ (i := 3) (N := (some 78)) (v := ?_) (a' := ?_) #[true, true, true, true, false, false, false, false, false, false, false, false, false, false, false, false, false, false, false, false, false, false, false, false, false, false, false, false, false, false, false, false] rfl rfl (take_ofW HT_.out HW_.out (by kernel_rfl)) (fun _ _ _ h => h) (Or.inl ⟨by rfl, ?_⟩) hHeld ?_ ?_
                      rotate_left
                      · rintro w' ⟨sx0, sx1, sx2, sx3, sx4⟩
                        go_simp
                        (try with_reducible rfl)
                      rotate_left
                      · simp only [Act.put, List.setIfInBounds_toArray, List.set_cons_zero, List.set_cons_succ, i64_w, i32_w]
                        rfl
                      refine pure_ (i := 4) (N := (some 79)) (v := ?_) (a' := ?_) #[true, true, true, true, true, false, false, false, false, false, false, false, false, false, false, false, false, false, false, false, false, false, false, false, false, false, false, false, false, false, false, false] rfl rfl (any_of HT_.out (by kernel_rfl)) (fun _ _ _ h => h) (Or.inl ⟨by rfl, ?_⟩) ?_ ?_
                      rotate_left
                      · intro w'
                        go_simp
                        (try with_reducible rfl)
                      rotate_left
                      · simp only [Act.put, List.setIfInBounds_toArray, List.set_cons_zero, List.set_cons_succ, i64_w, i32_w]
                        rfl
                      refine pure_ (i := 5) (N := (some 80)) (v := ?_) (a' := ?_) #[true, true, true, true, true, true, false, false, false, false, false, false, false, false, false, false, false, false, false, false, false, false, false, false, false, false, false, false, false, false, false, false] rfl rfl (any_of HT_.out (by kernel_rfl)) (fun _ _ _ h => h) (Or.inl ⟨by rfl, ?_⟩) ?_ ?_
                      rotate_left
                      · intro w'
                        go_simp
                        (try with_reducible rfl)
                      rotate_left
                      · simp only [Act.put, List.setIfInBounds_toArray, List.set_cons_zero, List.set_cons_succ, i64_w, i32_w]
                        rfl
                      refine pure_ (i := 6) (N := (some 81)) (v := ?_) (a' := ?_) #[true, true, true, true, true, true, true, false, false, false, false, false, false, false, false, false, false, false, false, false, false, false, false, false, false, false, false, false, false, false, false, false] rfl rfl (any_of HT_.out (by kernel_rfl)) (fun _ _ _ h => h) (Or.inl ⟨by rfl, ?_⟩) ?_ ?_
                      rotate_left
                      · intro w'
                        go_simp
                        (try with_reducible rfl)
                      rotate_left
                      · simp only [Act.put, List.setIfInBounds_toArray, List.set_cons_zero, List.set_cons_succ, i64_w, i32_w]
                        rfl
                      refine pure_ (i := 7) (N := (some 82)) (v := ?_) (a' := ?_) #[true, true, true, true, true, true, true, true, false, false, false, false, false, false, false, false, false, false, false, false, false, false, false, false, false, false, false, false, false, false, false, false] rfl rfl (any_of HT_.out (by kernel_rfl)) (fun _ _ _ h => h) (Or.inl ⟨by rfl, ?_⟩) ?_ ?_
                      rotate_left
                      · intro w'
                        go_simp
                        (try with_reducible rfl)
                      rotate_left
                      · simp only [Act.put, List.setIfInBounds_toArray, List.set_cons_zero, List.set_cons_succ, i64_w, i32_w]
                        rfl
                      refine take_ (i := 8) (N := (some 83)) (v := ?_) (a' := ?_) #[true, true, true, true, true, true, true, true, true, false, false, false, false, false, false, false, false, false, false, false, false, false, false, false, false, false, false, false, false, false, false, false] rfl rfl (take_ofW HT_.out HW_.out (by kernel_rfl)) (fun _ _ _ h => h) (Or.inl ⟨by rfl, ?_⟩) hHeld ?_ ?_
                      rotate_left
                      · rintro w' ⟨sx0, sx1, sx2, sx3, sx4⟩
                        go_simp
                        (try with_reducible rfl)
                      rotate_left
                      · simp only [Act.put, List.setIfInBounds_toArray, List.set_cons_zero, List.set_cons_succ, i64_w, i32_w]
                        rfl
                      refine pure_ (i := 9) (N := (some 84)) (v := ?_) (a' := ?_) #[true, true, true, true, true, true, true, true, true, true, false, false, false, false, false, false, false, false, false, false, false, false, false, false, false, false, false, false, false, false, false, false] rfl rfl (any_of HT_.out (by kernel_rfl)) (fun _ _ _ h => h) (Or.inl ⟨by rfl, ?_⟩) ?_ ?_
                      rotate_left
                      · intro w'
                        go_simp
                        (try with_reducible rfl)
                      rotate_left
                      · simp only [Act.put, List.setIfInBounds_toArray, List.set_cons_zero, List.set_cons_succ, i64_w, i32_w]
                        rfl
                      refine pure_ (i := 10) (N := (some 85)) (v := ?_) (a' := ?_) #[true, true, true, true, true, true, true, true, true, true, true, false, false, false, false, false, false, false, false, false, false, false, false, false, false, false, false, false, false, false, false, false] rfl rfl (any_of HT_.out (by kernel_rfl)) (fun _ _ _ h => h) (Or.inl ⟨by rfl, ?_⟩) ?_ ?_
                      rotate_left
                      · intro w'
                        go_simp
                        (try with_reducible rfl)
                      rotate_left
                      · simp only [Act.put, List.setIfInBounds_toArray, List.set_cons_zero, List.set_cons_succ, i64_w, i32_w]
                        rfl
                      refine take_ (i := 11) (N := (some 86)) (v := ?_) (a' := ?_) #[true, true, true, true, true, true, true, true, true, true, true, true, false, false, false, false, false, false, false, false, false, false, false, false, false, false, false, false, false, false, false, false] rfl rfl (take_ofW HT_.out HW_.out (by kernel_rfl)) (fun _ _ _ h => h) (Or.inl ⟨by rfl, ?_⟩) hHeld ?_ ?_
                      rotate_left
                      · rintro w' ⟨sx0, sx1, sx2, sx3, sx4⟩
                        go_simp
                        (try with_reducible rfl)
                      rotate_left
                      · simp only [Act.put, List.setIfInBounds_toArray, List.set_cons_zero, List.set_cons_succ, i64_w, i32_w]
                        rfl
                      refine pure_ (i := 12) (N := (some 87)) (v := ?_) (a' := ?_) #[true, true, true, true, true, true, true, true, true, true, true, true, true, false, false, false, false, false, false, false, false, false, false, false, false, false, false, false, false, false, false, false] rfl rfl (any_of HT_.out (by kernel_rfl)) (fun _ _ _ h => h) (Or.inl ⟨by rfl, ?_⟩) ?_ ?_
                      rotate_left
                      · intro w'
                        go_simp
                        (try with_reducible rfl)
                      rotate_left
                      · simp only [Act.put, List.setIfInBounds_toArray, List.set_cons_zero, List.set_cons_succ, i64_w, i32_w]
                        rfl
                      refine pure_ (i := 13) (N := (some 88)) (v := ?_) (a' := ?_) #[true, true, true, true, true, true, true, true, true, true, true, true, true, true, false, false, false, false, false, false, false, false, false, false, false, false, false, false, false, false, false, false] rfl rfl (any_of HT_.out (by kernel_rfl)) (fun _ _ _ h => h) (Or.inl ⟨by rfl, ?_⟩) ?_ ?_
                      rotate_left
                      · intro w'
                        go_simp
                        (try with_reducible rfl)
                      rotate_left
                      · simp only [Act.put, List.setIfInBounds_toArray, List.set_cons_zero, List.set_cons_succ, i64_w, i32_w]
                        rfl
                      refine pure_ (i := 14) (N := (some 89)) (v := ?_) (a' := ?_) #[true, true, true, true, true, true, true, true, true, true, true, true, true, true, true, false, false, false, false, false, false, false, false, false, false, false, false, false, false, false, false, false] rfl rfl (any_of HT_.out (by kernel_rfl)) (fun _ _ _ h => h) (Or.inl ⟨by rfl, ?_⟩) ?_ ?_
                      rotate_left
                      · intro w'
                        go_simp
                        (try with_reducible rfl)
                      rotate_left
                      · simp only [Act.put, List.setIfInBounds_toArray, List.set_cons_zero, List.set_cons_succ, i64_w, i32_w]
                        rfl
                      refine pure_ (i := 15) (N := (some 90)) (v := ?_) (a' := ?_) #[true, true, true, true, true, true, true, true, true, true, true, true, true, true, true, true, false, false, false, false, false, false, false, false, false, false, false, false, false, false, false, false] rfl rfl (any_of HT_.out (by kernel_rfl)) (fun _ _ _ h => h) (Or.inl ⟨by rfl, ?_⟩) ?_ ?_
                      rotate_left
                      · intro w'
                        go_simp
                        (try with_reducible rfl)
                      rotate_left
                      · simp only [Act.put, List.setIfInBounds_toArray, List.set_cons_zero, List.set_cons_succ, i64_w, i32_w]
                        rfl
                      refine take_ (i := 16) (N := (some 91)) (v := ?_) (a' := ?_) #[true, true, true, true, true, true, true, true, true, true, true, true, true, true, true, true, true, false, false, false, false, false, false, false, false, false, false, false, false, false, false, false] rfl rfl (take_ofW HT_.out HW_.out (by kernel_rfl)) (fun _ _ _ h => h) (Or.inl ⟨by rfl, ?_⟩) hHeld ?_ ?_
                      rotate_left
                      · rintro w' ⟨sx0, sx1, sx2, sx3, sx4⟩
                        go_simp
                        (try with_reducible rfl)
                      rotate_left
                      · simp only [Act.put, List.setIfInBounds_toArray, List.set_cons_zero, List.set_cons_succ, i64_w, i32_w]
                        rfl
                      refine pure_ (i := 17) (N := (some 92)) (v := ?_) (a' := ?_) #[true, true, true, true, true, true, true, true, true, true, true, true, true, true, true, true, true, true, false, false, false, false, false, false, false, false, false, false, false, false, false, false] rfl rfl (any_of HT_.out (by kernel_rfl)) (fun _ _ _ h => h) (Or.inl ⟨by rfl, ?_⟩) ?_ ?_
                      rotate_left
                      · intro w'
                        go_simp
                        (try with_reducible rfl)
                      rotate_left
                      · simp only [Act.put, List.setIfInBounds_toArray, List.set_cons_zero, List.set_cons_succ, i64_w, i32_w]
                        rfl
                      refine pure_ (i := 18) (N := (some 93)) (v := ?_) (a' := ?_) #[true, true, true, true, true, true, true, true, true, true, true, true, true, true, true, true, true, true, true, false, false, false, false, false, false, false, false, false, false, false, false, false] rfl rfl (any_of HT_.out (by kernel_rfl)) (fun _ _ _ h => h) (Or.inl ⟨by rfl, ?_⟩) ?_ ?_
                      rotate_left
                      · intro w'
                        go_simp
                        (try with_reducible rfl)
                      rotate_left
                      · simp only [Act.put, List.setIfInBounds_toArray, List.set_cons_zero, List.set_cons_succ, i64_w, i32_w]
                        rfl
                      refine take_ (i := 19) (N := (some 94)) (v := ?_) (a' := ?_) #[true, true, true, true, true, true, true, true, true, true, true, true, true, true, true, true, true, true, true, true, false, false, false, false, false, false, false, false, false, false, false, false] rfl rfl (take_ofW HT_.out HW_.out (by kernel_rfl)) (fun _ _ _ h => h) (Or.inl ⟨by rfl, ?_⟩) hHeld ?_ ?_
                      rotate_left
                      · rintro w' ⟨sx0, sx1, sx2, sx3, sx4⟩
                        go_simp
                        (try with_reducible rfl)
                      rotate_left
                      · simp only [Act.put, List.setIfInBounds_toArray, List.set_cons_zero, List.set_cons_succ, i64_w, i32_w]
                        rfl
                      refine pure_ (i := 20) (N := (some 95)) (v := ?_) (a' := ?_) #[true, true, true, true, true, true, true, true, true, true, true, true, true, true, true, true, true, true, true, true, true, false, false, false, false, false, false, false, false, false, false, false] rfl rfl (any_of HT_.out (by kernel_rfl)) (fun _ _ _ h => h) (Or.inl ⟨by rfl, ?_⟩) ?_ ?_
                      rotate_left
                      · intro w'
                        go_simp
                        (try with_reducible rfl)
                      rotate_left
                      · simp only [Act.put, List.setIfInBounds_toArray, List.set_cons_zero, List.set_cons_succ, i64_w, i32_w]
                        rfl
                      refine pure_ (i := 21) (N := (some 96)) (v := ?_) (a' := ?_) #[true, true, true, true, true, true, true, true, true, true, true, true, true, true, true, true, true, true, true, true, true, true, false, false, false, false, false, false, false, false, false, false] rfl rfl (any_of HT_.out (by kernel_rfl)) (fun _ _ _ h => h) (Or.inl ⟨by rfl, ?_⟩) ?_ ?_
                      rotate_left
                      · intro w'
                        go_simp
                        (try with_reducible rfl)
                      rotate_left
                      · simp only [Act.put, List.setIfInBounds_toArray, List.set_cons_zero, List.set_cons_succ, i64_w, i32_w]
                        rfl
                      refine pure_ (i := 22) (N := (some 97)) (v := ?_) (a' := ?_) #[true, true, true, true, true, true, true, true, true, true, true, true, true, true, true, true, true, true, true, true, true, true, true, false, false, false, false, false, false, false, false, false] rfl rfl (any_of HT_.out (by kernel_rfl)) (fun _ _ _ h => h) (Or.inl ⟨by rfl, ?_⟩) ?_ ?_
                      rotate_left
                      · intro w'
                        go_simp
                        (try with_reducible rfl)
                      rotate_left
                      · simp only [Act.put, List.setIfInBounds_toArray, List.set_cons_zero, List.set_cons_succ, i64_w, i32_w]
                        rfl
                      refine pure_ (i := 23) (N := (some 98)) (v := ?_) (a' := ?_) #[true, true, true, true, true, true, true, true, true, true, true, true, true, true, true, true, true, true, true, true, true, true, true, true, false, false, false, false, false, false, false, false] rfl rfl (any_of HT_.out (by kernel_rfl)) (fun _ _ _ h => h) (Or.inl ⟨by rfl, ?_⟩) ?_ ?_
                      rotate_left
                      · intro w'
                        go_simp
                        (try with_reducible rfl)
                      rotate_left
                      · simp only [Act.put, List.setIfInBounds_toArray, List.set_cons_zero, List.set_cons_succ, i64_w, i32_w]
                        rfl
                      refine take_ (i := 24) (N := (some 99)) (v := ?_) (a' := ?_) #[true, true, true, true, true, true, true, true, true, true, true, true, true, true, true, true, true, true, true, true, true, true, true, true, true, false, false, false, false, false, false, false] rfl rfl (take_ofW HT_.out HW_.out (by kernel_rfl)) (fun _ _ _ h => h) (Or.inl ⟨by rfl, ?_⟩) hHeld ?_ ?_
                      rotate_left
                      · rintro w' ⟨sx0, sx1, sx2, sx3, sx4⟩
                        go_simp
                        (try with_reducible rfl)
                      rotate_left
                      · simp only [Act.put, List.setIfInBounds_toArray, List.set_cons_zero, List.set_cons_succ, i64_w, i32_w]
                        rfl
                      refine pure_ (i := 25) (N := (some 100)) (v := ?_) (a' := ?_) #[true, true, true, true, true, true, true, true, true, true, true, true, true, true, true, true, true, true, true, true, true, true, true, true, true, true, false, false, false, false, false, false] rfl rfl (any_of HT_.out (by kernel_rfl)) (fun _ _ _ h => h) (Or.inl ⟨by rfl, ?_⟩) ?_ ?_
                      rotate_left
                      · intro w'
                        go_simp
                        (try with_reducible rfl)
                      rotate_left
                      · simp only [Act.put, List.setIfInBounds_toArray, List.set_cons_zero, List.set_cons_succ, i64_w, i32_w]
                        rfl
                      refine pure_ (i := 26) (N := (some 101)) (v := ?_) (a' := ?_) #[true, true, true, true, true, true, true, true, true, true, true, true, true, true, true, true, true, true, true, true, true, true, true, true, true, true, true, false, false, false, false, false] rfl rfl (any_of HT_.out (by kernel_rfl)) (fun _ _ _ h => h) (Or.inl ⟨by rfl, ?_⟩) ?_ ?_
                      rotate_left
                      · intro w'
                        go_simp
                        (try with_reducible rfl)
                      rotate_left
                      · simp only [Act.put, List.setIfInBounds_toArray, List.set_cons_zero, List.set_cons_succ, i64_w, i32_w]
                        rfl
                      refine take_ (i := 27) (N := (some 102)) (v := ?_) (a' := ?_) #[true, true, true, true, true, true, true, true, true, true, true, true, true, true, true, true, true, true, true, true, true, true, true, true, true, true, true, true, false, false, false, false] rfl rfl (take_ofW HT_.out HW_.out (by kernel_rfl)) (fun _ _ _ h => h) (Or.inl ⟨by rfl, ?_⟩) hHeld ?_ ?_
                      rotate_left
                      · rintro w' ⟨sx0, sx1, sx2, sx3, sx4⟩
                        go_simp
                        (try with_reducible rfl)
                      rotate_left
                      · simp only [Act.put, List.setIfInBounds_toArray, List.set_cons_zero, List.set_cons_succ, i64_w, i32_w]
                        rfl
                      refine pure_ (i := 28) (N := (some 103)) (v := ?_) (a' := ?_) #[true, true, true, true, true, true, true, true, true, true, true, true, true, true, true, true, true, true, true, true, true, true, true, true, true, true, true, true, true, false, false, false] rfl rfl (any_of HT_.out (by kernel_rfl)) (fun _ _ _ h => h) (Or.inl ⟨by rfl, ?_⟩) ?_ ?_
                      rotate_left
                      · intro w'
                        go_simp
                        (try with_reducible rfl)
                      rotate_left
                      · simp only [Act.put, List.setIfInBounds_toArray, List.set_cons_zero, List.set_cons_succ, i64_w, i32_w]
                        rfl
                      refine pure_ (i := 29) (N := (some 104)) (v := ?_) (a' := ?_) #[true, true, true, true, true, true, true, true, true, true, true, true, true, true, true, true, true, true, true, true, true, true, true, true, true, true, true, true, true, true, false, false] rfl rfl (any_of HT_.out (by kernel_rfl)) (fun _ _ _ h => h) (Or.inl ⟨by rfl, ?_⟩) ?_ ?_
                      rotate_left
                      · intro w'
                        go_simp
                        (try with_reducible rfl)
                      rotate_left
                      · simp only [Act.put, List.setIfInBounds_toArray, List.set_cons_zero, List.set_cons_succ, i64_w, i32_w]
                        rfl
                      refine pure_ (i := 30) (N := (some 105)) (v := ?_) (a' := ?_) #[true, true, true, true, true, true, true, true, true, true, true, true, true, true, true, true, true, true, true, true, true, true, true, true, true, true, true, true, true, true, true, false] rfl rfl (any_of HT_.out (by kernel_rfl)) (fun _ _ _ h => h) (Or.inl ⟨by rfl, ?_⟩) ?_ ?_
                      rotate_left
                      · intro w'
                        go_simp
                        (try with_reducible rfl)
                      rotate_left
                      · simp only [Act.put, List.setIfInBounds_toArray, List.set_cons_zero, List.set_cons_succ, i64_w, i32_w]
                        rfl
                      refine last_ (i := 31) (N := none) #[true, true, true, true, true, true, true, true, true, true, true, true, true, true, true, true, true, true, true, true, true, true, true, true, true, true, true, true, true, true, true, true] rfl rfl (one_of HT_.out (by kernel_rfl)) (by decide) (fun K hK => ?_)
                      have tc := hMD.cell i j hlt4 hlt5
                      have tf := hMD.free i j hlt4
                      refine skip_ (w1 := ?_) (by rfl) rfl ?_ ?_
                      rotate_left
                      · go_simp
                        rfl
                      refine hK.out _ _ ?_
                      clear hK K
                      refine done_ (done_of HT_.out (by kernel_rfl)) ?_
                      go_wp2
                      go_roundg (G.length - (j + 1))
                      case measure => omega
                      case rel => exact ⟨j + 1, by go_num, by omega, by omega, ⟨by rw [HN5.out, HST.out]; exact hMD.set i j hlt4 _⟩, ⟨below_set hBD (hMD.ge i hlt4)⟩⟩
                · have hje : ¬ (j : Int) < (G.length : Int) := by omega
                  obtain rfl : G.length = j := by omega
                  have HM6 := Aside0.mk (show Mat wr w.heap.size (w.heap.size + 1) G.length G.length R ((List.range (i + 1)).foldl (rowW G.length k) M3) by rw [HN4.out]; exact HM5.out)
                  clear HM5
                  go_wp2
                  go_roundg (G.length - (i + 1))
                  case measure => omega
                  case rel => exact ⟨i + 1, by go_num, by omega, by omega, HM6, HB5⟩
            · have hje : ¬ (i : Int) < (G.length : Int) := by omega
              obtain rfl : G.length = i := by omega
              have HM6 := Aside0.mk (show Mat wr w.heap.size (w.heap.size + 1) G.length G.length R ((List.range (k + 1)).foldl (colW G.length) (edgeM G least)) by rw [HN3.out]; exact HM4.out)
              clear HM4
              go_wp2
              go_roundg (G.length - (k + 1))
              case measure => omega
              case rel => exact ⟨k + 1, by go_num, by omega, by omega, HM6, HB4⟩
        · have hje : ¬ (k : Int) < (G.length : Int) := by omega
          obtain rfl : G.length = k := by omega
          go_wp2
          go_ret
          exact ⟨w.heap.size + 1, R, rfl, HM3.out, HB3.out⟩
end Go.Proofs.Ytnjlonenckifpaa.X
