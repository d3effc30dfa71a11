/- A part of the proof. -/
import Derived.Test.YtcihpjkjodhdpaaOJ1
import Derived.Maps.OwnRows
import Derived.Maps.GroupsBeside
import Derived.Sort.AtCall
namespace Go.Proofs.Ytcihpjkjodhdpaa.X
set_option linter.unusedVariables false
set_option linter.unusedSimpArgs false
open Go.ChangeShapes
open Go.RowKit Go.Maps Go.MapKept Go.Proofs.YtcihpjkjodhdpaaW.PrintWords Go.Proofs.YtcihpjkjodhdpaaW.PrintLast Go.Proofs.YtcihpjkjodhdpaaW.PrintMore
open Go.WideElems (Fit rd rg pl rd_val rd_key)
def grp (l : List S36) (key : Int) : List Int := (l.filter fun x => x.f0 == key).map S36.f1
def joinL (a b : List S36) : List S36 := a.flatMap fun r => (grp b r.f0).map fun v => ⟨r.f0, wrap64 (r.f1 + v)⟩
theorem grp_take (l : List S36) (k : Nat) (x : S36) (h : l[k]? = some x) : grp (l.take (k + 1)) = fun key => if key = x.f0 then grp (l.take k) x.f0 ++ [x.f1] else grp (l.take k) key := by
  funext key
  unfold grp
  rw [List.take_add_one, h]
  simp only [Option.toList_some, List.filter_append, List.map_append]
  by_cases e : key = x.f0
  · subst e
    simp [List.filter]
  · have e2 : (x.f0 == key) = false := beq_eq_false_iff_ne.2 (fun h => e h.symm)
    simp [List.filter, e2, e]
theorem grp_length (l : List S36) (key : Int) : (grp l key).length ≤ l.length := by
  unfold grp
  rw [List.length_map]
  exact List.length_filter_le _ _
theorem joinL_take (a b : List S36) (k : Nat) (x : S36) (h : a[k]? = some x) : joinL (a.take (k + 1)) b = joinL (a.take k) b ++ (grp b x.f0).map fun v => ⟨x.f0, wrap64 (x.f1 + v)⟩ := by
  unfold joinL
  rw [List.take_add_one, h]
  simp
theorem joinL_length (a b : List S36) : (joinL a b).length ≤ a.length * b.length := by
  induction a with
  | nil => simp [joinL]
  | cons x r ih =>
    unfold joinL at *
    rw [List.flatMap_cons, List.length_append, List.length_map, List.length_cons, Nat.add_mul, Nat.one_mul]
    have := grp_length b x.f0
    omega
def GroupIs (D : DataW Unit) (f : Int → List Int) : Prop :=
  Maps.IsMap D ∧ ∀ k, (f k = [] → D.atKey (.int .i64 k) .nil = .nil) ∧ (f k ≠ [] → D.atKey (.int .i64 k) .nil = .slice (lits .i64 (f k)) [])
theorem GroupIs.start : GroupIs (.map []) (fun _ => []) := ⟨Maps.isMap_empty, fun k => ⟨fun _ => rfl, fun h => absurd rfl h⟩⟩
theorem lits_inj {q : IntKind} {a b : List Int} (h : (lits q a : List (DataW Unit)) = lits q b) : a = b := by
  unfold lits at h
  exact (List.map_inj_right (fun x y e => by simpa using e)).1 h
theorem GroupIs.val {D : DataW Unit} {f : Int → List Int} (h : GroupIs D f) {k : Int} {w : World} {base : Nat} {v : Value} {zs : List Int} (hat : D.atKey (.int .i64 k) .nil = rowDatum .i64 v zs) (ho : w.ownsInts base 2 .i64 v zs) : zs = f k := by
  by_cases e : f k = []
  · rw [(h.2 k).1 e] at hat
    rw [e]
    rcases ho.datum (H := Unit) with ⟨_, h2⟩ | h2
    · exact h2
    · rw [h2] at hat; cases hat
  · rw [(h.2 k).2 e] at hat
    rcases ho.datum (H := Unit) with ⟨h1, _⟩ | h2
    · rw [h1] at hat; cases hat
    · rw [h2] at hat
      injection hat with h3 _
      exact (lits_inj h3).symm
theorem GroupIs.put {D : DataW Unit} {f : Int → List Int} (h : GroupIs D f) (k0 : Int) {w : World} {base : Nat} {v : Value} {zs : List Int} (ho : w.ownsInts base 2 .i64 v zs) (hne : zs ≠ []) :
    GroupIs (D.put (.int .i64 k0) (rowDatum .i64 v zs)) (fun k => if k = k0 then zs else f k) := by
  rw [ho.datum_pos hne]
  refine ⟨h.1.put _ _, fun k => ?_⟩
  by_cases e : k = k0
  · subst e
    rw [Maps.atKey_put_same (k := .int .i64 k) h.1 trivial]
    simp [hne]
  · rw [Maps.atKey_put_other (int_ne e)]
    simp only [e, if_false]
    exact h.2 k
theorem zero76 (w : World) : (zeroValue 76).run Try.prog w = .ok (.slice none 0 0) w := by kernel_rfl
theorem info2 : (Try.prog.info? 2).map (fun i => (i.zero, i.size, i.bytes)) = some (some (.int .i64 0), 1, 8) := by kernel_rfl
theorem look_stays {w : World} {b : Nat} {es : Array MapEntry} {clock : Nat} (hb : w.heap[b]? = some (.map es clock)) (hk : ∀ x ∈ es.toList, ∃ k, x.key = .int .i64 k) (k0 : Int) :
    ∃ v, ∀ W : World, W.heap[b]? = w.heap[b]? → (Instr.lookup 75 (.map (some b)) (.int .i64 k0) false).run Try.prog W = .ok v W := by
  have hkk : ∀ x ∈ es.toList, IsKey (.int .i64) x.key := fun x hx => by
    obtain ⟨k, e⟩ := hk x hx
    rw [e]
    simp [IsKey]
  have hc : ∀ W : World, (Instr.checkKey es.isEmpty 10000 2 (.int .i64 k0)).run Try.prog W = .ok () W := fun W => MapKept.run_checkKey (k := .int .i64 k0) Try.underlying2 (by simp [MapKept.IsKey]) _ 9999
  rcases findNow_spec (d := .int .i64) (k := .int .i64 k0) (by simp [IsKey]) es.toList 0 hkk with ⟨h1, _⟩ | ⟨j, e, h1, _⟩
  · refine ⟨.slice none 0 0, fun W hW => ?_⟩
    rw [hb] at hW
    simp [Instr.lookup, run_underlying Try.underlying75, MapKept.run_getObj_map hW, hc, MapKept.run_findKey Try.underlying2 h1, Result.andThen, zero76]
  · refine ⟨e.val, fun W hW => ?_⟩
    rw [hb] at hW
    simp [Instr.lookup, run_underlying Try.underlying75, MapKept.run_getObj_map hW, hc, MapKept.run_findKey Try.underlying2 h1, Result.andThen]
theorem look_groups {w : World} {b n base : Nat} {D : DataW Unit} (h : w.ownsGroups Try.prog 2 base 2 .i64 b n D) (hn : n < maxLen) {k0 : Int} (hkey : keyOf Try.prog 2 (.int .i64 k0) = some (.int .i64 k0)) :
    ∃ v zs, (∀ W : World, W.heap[b]? = w.heap[b]? → (Instr.lookup 75 (.map (some b)) (.int .i64 k0) false).run Try.prog W = .ok v W) ∧ D.atKey (.int .i64 k0) .nil = rowDatum .i64 v zs ∧ w.ownsInts base 2 .i64 v zs ∧ zs.length ≤ n ∧
      w.groupBack Try.prog 75 2 base 2 .i64 b n D (.int .i64 k0) (.int .i64 k0) v := by
  obtain ⟨v, zs, hrun, hat, ho, hl, hback⟩ := h.at law2 Try.underlying75 (zero76 w) hn hkey
  obtain ⟨es, clock, hb, F, _⟩ := h
  have hk : ∀ x ∈ es.toList, ∃ k, x.key = .int .i64 k := fun x hx => by
    obtain ⟨y, hy⟩ := F.reads x hx
    obtain ⟨k, e, _⟩ := Maps.keyOf_int_inv Try.underlying2 (rd_key hy)
    exact ⟨k, e⟩
  obtain ⟨v', hv'⟩ := look_stays hb hk k0
  have e := hv' w rfl
  rw [hrun] at e
  injection e with e1 _
  subst e1
  exact ⟨v, zs, hv', hat, ho, hl, hback⟩
theorem groups_keep {w w1 : World} {b n base : Nat} {D : DataW Unit} (h : w.ownsGroups Try.prog 2 base 2 .i64 b n D) (hg : w.grownBy w1 none) : w1.ownsGroups Try.prog 2 base 2 .i64 b n D :=
  h.kept hg (by simp) (fun _ _ _ x hx => by cases x.val.ownBlock <;> simp)
theorem groups_drew {w : World} {b n base : Nat} {D : DataW Unit} (h : w.ownsGroups Try.prog 2 base 2 .i64 b n D) : w.drew.ownsGroups Try.prog 2 base 2 .i64 b n D := h
theorem groups_other {w w1 : World} {b n base base2 : Nat} {ok : Nat → Prop} {D : DataW Unit} {v : Value} {xs : List S36} (h : w.ownsGroups Try.prog 2 base 2 .i64 b n D) (hr : Kd.R k36 36 w base2 ok v xs) (hg : w.grownBy w1 v.ownBlock) : w1.ownsGroups Try.prog 2 base 2 .i64 b n D := by
  obtain ⟨inner, hown⟩ := Kd.R_own hr
  refine h.kept hg (fun e => ?_) (fun es clock hb x hx => ?_)
  · obtain ⟨es, clock, hb, _⟩ := h
    obtain ⟨cells, hc⟩ := own_typed hown b e.symm
    rw [hb] at hc
    cases hc
  · obtain ⟨es', clock', hb', F, _⟩ := h
    obtain ⟨rfl, rfl⟩ : es' = es ∧ clock' = clock := by rw [hb'] at hb; simpa using hb
    obtain ⟨y, hy⟩ := F.reads x hx
    obtain ⟨z, hz, _⟩ := rd_val hy
    obtain ⟨ys, ho, _⟩ := rowElem_inv hz
    exact own_type_ne ho.1 hown (by decide)
theorem ints_other {w w1 : World} {base base2 : Nat} {ok : Nat → Prop} {v u : Value} {zs : List Int} {xs : List S36} (h : w.ownsInts base 2 .i64 u zs) (hr : Kd.R k36 36 w base2 ok v xs) (hg : w.grownBy w1 v.ownBlock) : w1.ownsInts base 2 .i64 u zs := by
  obtain ⟨inner, hown⟩ := Kd.R_own hr
  exact h.kept hg (own_type_ne h.1 hown (by decide))
end Go.Proofs.Ytcihpjkjodhdpaa.X
namespace Go.Proofs.Ytcihpjkjodhdpaa.X
set_option linter.unusedVariables false
set_option linter.unusedSimpArgs false
open Go.RowKit Go.Maps Go.Proofs.YtcihpjkjodhdpaaW.PrintWords Go.Proofs.YtcihpjkjodhdpaaW.PrintLast Go.Proofs.YtcihpjkjodhdpaaW.PrintMore
def joins.T5 : Bool × List (List Nat × List Nat) := (true, [([], []), ([], []), ([1], [1]), ([], []), ([], []), ([4], [4]), ([3, 5], [3, 5]), ([], []), ([7], [7]), ([8], [8]), ([6, 9], [6, 9]), ([0, 2, 10, 10, 0, 1, 2, 3, 4, 5, 6, 7, 8, 9, 10], [0, 2, 10])])
def joins.B5 : List Nat := [0, 0, 2, 0, 0, 16, 56, 0, 128, 384, 1016, 2047]
theorem joins.tab5 : rtab .any (opsOf Try.f30 5) = joins.T5 := by kernel_rfl
theorem joins.bits5 : waitsOk joins.T5.2 joins.B5 = true := by kernel_rfl
theorem spot_none {W : World} {ab ao : Nat} {asp : Option Nat} {v : Value} (h : W.cell? ⟨ab, ao, asp⟩ = some v) : asp = none := by
  cases asp with
  | none => rfl
  | some s => simp [World.cell?] at h; split at h <;> simp at h
section
variable {P : Program} {ops : Array Oper} {Q : Exit → Act → World → Prop}
theorem append_value {oi : Oper} {N : Option Tmp} {a : Act} {w w1 : World} {v' : Value} {K : Act → World → Prop} (s x : Operand) (t : TypeId) (vs vx : Value) (hw : Region.wanted oi (yielded ops a.tmps) = true) (hN : oi.dst = N)
    (ho : oi.op = .call { callee := .builtin .append, args := #[s, x], argTypes := #[t, t] }) (hs : a.eval s = vs) (hx : a.eval x = vx) (hr : (Builtin.append_ #[t, t] oi.type #[vs, vx]).run P w = .ok v' w1) (h : K (a.put N v') w1) :
    if Region.wanted oi (yielded ops a.tmps) = true then Oper.wp P oi a w K Q else K (a.put N undef) w := by
  refine value_ hw hN ?_ h
  unfold execOp
  simp only [ho, resolve, invoke, builtin, Sem.run_bind, Sem.run_pure, Result.andThen_ok, List.map_toArray, List.map_cons, List.map_nil, hs, hx, hr]
theorem store_skip {oi : Oper} {a : Act} {w w1 : World} {K : Act → World → Prop} (m x v : Operand) (t : TypeId) (vm vx vv : Value) (hw : Region.wanted oi (yielded ops a.tmps) = true) (hN : oi.dst = none)
    (ho : oi.op = Op.mapUpdate t m x v) (hm : a.eval m = vm) (hx : a.eval x = vx) (hv : a.eval v = vv) (hr : (Instr.mapUpdate t vm vx vv).run P w = .ok () w1) (h : K a w1) :
    if Region.wanted oi (yielded ops a.tmps) = true then Oper.wp P oi a w K Q else K (a.put none undef) w := by
  refine skip_ hw hN ?_ h
  simp [execOp, ho, hm, hx, hv, hr, Result.andThen]
end
theorem blk_same {W : World} {b : Nat} {o : Obj} (h : W.heap[b]? = some o) (o' : Obj) : (W.alloc o').heap[b]? = W.heap[b]? := by rw [blk_alloc h o', h]
set_option maxHeartbeats 4000000 in
set_option maxRecDepth 100000 in
theorem joins_calls (a0 a1 a2 a3 : Int) (A4 : Option Addr) (n4 c4 : Nat) (A : Option Addr) (c : Nat) (L : List (List S36)) (w : World) (hr : Kd.C (Kd.slice 36 k36) w A L.length L) (h1 : 2 ≤ L.length) (hl0 : (rd_L2 L 0).length ≤ 1000) (hl1 : (rd_L2 L 1).length ≤ 1000) (hwf0 : ∀ x ∈ rd_L2 L 0, wf36 x) (hwf : ∀ x ∈ rd_L2 L 1, wf36 x) :
    Calls Try.prog 30 #[.agg #[.int .u8 a0, .int .u8 a1, .int .i64 a2, .int .i64 a3, .slice A4 n4 c4], .slice A L.length c] w fun e w' => ∃ v, e = .returned v ∧ Kd.R k36 36 w' w.heap.size (fun _ => True) v (joinL (rd_L2 L 0) (rd_L2 L 1)) ∧ Below w.heap.size w w' := by
  have HLEN : L.length ≤ 9223372036854775807 := hr.2.1
  obtain ⟨ad, A0, c0, eA, q0, hc0, hr0⟩ := at_L2 hr 0 (by omega) (by omega)
  obtain ⟨ad', A1, c1, eA', q1, hc1, hr1⟩ := at_L2 hr 1 (by omega) (by omega)
  subst eA
  injection eA' with eA'
  subst eA'
  simp only [Int.toNat_zero, Int.toNat_one] at q0 q1
  have e0 : ad.add 0 = ad := by simp [Addr.add]
  rw [e0] at q0
  clear e0
  obtain ⟨ab, ao, asp⟩ := ad
  obtain rfl := spot_none q0
  have e1 : (⟨ab, ao, none⟩ : Addr).add 1 = ⟨ab, ao + 1, none⟩ := by simp [Addr.add]
  rw [e1] at q1
  clear e1
  have h1z : (1 : Int) < (L.length : Int) := by omega
  have h0z : (0 : Int) < (L.length : Int) := by omega
  generalize rd_L2 L 0 = a at q0 hc0 hr0 hl0 hwf0 ⊢
  generalize rd_L2 L 1 = l at q1 hc1 hr1 hl1 hwf ⊢
  have HR0 := Aside0.mk hr0
  have HR := Aside0.mk hr1
  have HW := Aside0.mk hwf
  have HW0 := Aside0.mk hwf0
  have HLL := Aside0.mk hl1
  have HLL0 := Aside0.mk hl0
  have HL9 : l.length ≤ 9223372036854775807 := by omega
  have HL90 : a.length ≤ 9223372036854775807 := by omega
  have hHB := Aside0.mk (Below.refl w.heap.size w)
  obtain ⟨i0, hi, hz0, hz1, hz2⟩ := info_parts info2
  obtain ⟨bx, hbx⟩ : ∃ bx : Obj, bx = .cells #[.int .u8 a0, .int .u8 a1, .int .i64 a2, .int .i64 a3, .slice A4 n4 c4] 24 := ⟨_, rfl⟩
  have hS : ((w.alloc bx).alloc (.map #[] 0)).ownsGroups Try.prog 2 (w.heap.size + 2) 2 .i64 (w.heap.size + 1) 0 (.map [] : DataW Unit) := by
    have h := World.ownsGroups_made (H := Unit) (w.alloc bx) Try.prog 2 2 .i64
    simpa using h
  have hB0 := below_alloc (below_alloc hHB.out bx) (.map #[] 0)
  have q0' := (hB0.cell (World.block_lt_of_cell? w _ q0)).trans q0
  have q1' := (hB0.cell (World.block_lt_of_cell? w _ q1)).trans q1
  have HQ0 := Aside0.mk q0
  subst hbx
  have HS := Aside0.mk hS
  have HB0 := Aside0.mk hB0
  have hmm := @run_makeMap Try.prog
  clear hr hr0 hr1 hl0 hl1 hwf hwf0 hc0 hc1 q0 q1 hS hB0
  go_enter Try.func30, Try.ntmps30
  go_wp2
  go_loopg [18] l.length (fun gg v18 wr => ∃ (kk : Nat) (D : DataW Unit), kk ≤ l.length ∧ l.length - kk ≤ gg ∧ v18 = .int .i64 kk ∧ Aside0 (wr.ownsGroups Try.prog 2 (w.heap.size + 2) 2 .i64 (w.heap.size + 1) kk D) ∧ Aside0 (GroupIs D (grp (l.take kk))) ∧ Aside0 (Below w.heap.size w wr) ∧ Aside0 (w.heap.size + 2 ≤ wr.heap.size))
  case atStart => exact ⟨0, .map [], Nat.zero_le _, by omega, rfl, HS, ⟨GroupIs.start⟩, HB0, ⟨by simp⟩⟩
  case round =>
    clear HS HB0 q0' q1'
    obtain ⟨kk, D, hkk, hg, rfl, HOWN, HG, HB, HSZ0⟩ := hrel
    by_cases hlt : kk < l.length
    · have hltz : (kk : Int) < (l.length : Int) := by omega
      obtain ⟨ad2, eA, q0, q1⟩ := at_T36 (Kd.C_below HR.out HB.out) (kk : Int) (by omega) hltz
      simp only [Int.toNat_natCast] at q0 q1
      have hx : l[kk]? = some (rd_T36 l (kk : Int)) := by simp [rd_T36, List.getD_eq_getElem?_getD, hlt]
      have hs := grp_take l kk _ hx
      have hwx := HW.out _ (List.mem_of_getElem? hx)
      generalize rd_T36 l (kk : Int) = x at q0 q1 hs hwx
      have HST := Aside0.mk hs
      have HWX := Aside0.mk hwx
      clear hs hx hwx
      subst eA
      obtain ⟨x0, x1⟩ := x
      simp only at q0 q1 HST HWX
      have hkey : keyOf Try.prog 2 (.int .i64 x0) = some (.int .i64 x0) := Maps.keyOf_int_mk Try.underlying2 HWX.out.1
      have hG0 := (World.grownBy_alloc wr (.cells #[.int .i64 x0, .int .i64 x1] 36) none)
      have hown := groups_drew (groups_keep HOWN.out hG0)
      obtain ⟨v, zs, hlk, hat, hoi, hzl, hback⟩ := look_groups hown (by have := HLL.out; unfold maxLen; omega) hkey
      have hzs := HG.out.val hat hoi
      have HZS := Aside0.mk hzs
      have HOI := Aside0.mk hoi
      have HZL := Aside0.mk hzl
      have HBACK := Aside0.mk hback
      have HLK := Aside0.mk hlk
      have HSZ := Aside0.mk (show w.heap.size + 2 ≤ (wr.alloc (.cells #[.int .i64 x0, .int .i64 x1] 36)).drew.heap.size from by have := HSZ0.out; simp; omega)
      have HG0 := Aside0.mk (show wr.grownBy (wr.alloc (.cells #[.int .i64 x0, .int .i64 x1] 36)).drew none from ⟨hG0.os, hG0.tape, hG0.output, hG0.size, hG0.block⟩)
      obtain ⟨es, clock, hbl, _⟩ := hown
      have HBLK := Aside0.mk hbl
      have HBOX := Aside0.mk (show (wr.alloc (.cells #[.int .i64 x0, .int .i64 x1] 36)).drew.heap[wr.heap.size]? = some (.cells #[.int .i64 x0, .int .i64 x1] 36 (0, 0)) from blk_new wr _)
      have hS0 : (fun W => W.cell? ⟨wr.heap.size, 0, none⟩ = some (.int .i64 x0) ∧ W.cell? ⟨wr.heap.size, 1, none⟩ = some (.int .i64 x1) ∧ (Instr.lookup 75 (.map (some (w.heap.size + 1))) (.int .i64 x0) false).run Try.prog W = .ok v W) ((wr.alloc (.cells #[.int .i64 x0, .int .i64 x1] 36)).drew) := ⟨by go_simp, by go_simp, hlk _ rfl⟩
      clear hzs hoi hzl hback hlk hG0 hat hbl
      go_wp2
      refine start_ (n := 12) (S := fun W => W.cell? ⟨wr.heap.size, 0, none⟩ = some (.int .i64 x0) ∧ W.cell? ⟨wr.heap.size, 1, none⟩ = some (.int .i64 x1) ∧ (Instr.lookup 75 (.map (some (w.heap.size + 1))) (.int .i64 x0) false).run Try.prog W = .ok v W) (ds := [11]) #[false, false, false, false, false, false, false, false, false, false, false, false] (by kernel_rfl) rfl rfl hS0 (fun hHeld => ?_)
      refine with_tabW joins.tab5 joins.bits5 (fun HT_ HW_ => ?_)
      clear hS0
      generalize (wr.alloc (.cells #[.int .i64 x0, .int .i64 x1] 36)).drew = w0 at hHeld HOI HBACK HLK HBLK HSZ HG0 HBOX ⊢
      refine pure_ (i := 0) (N := (some 22)) (v := ?_) (a' := ?_) #[true, false, false, false, false, false, false, false, false, false, false, false] rfl rfl (any_of HT_.out (by kernel_rfl)) (fun _ _ _ h => h) (Or.inl ⟨by rfl, ?_⟩) ?_ ?_
      rotate_left
      · intro w'
        go_simp
        (try with_reducible rfl)
      rotate_left
      · simp only [Act.put, List.setIfInBounds_toArray, List.set_cons_zero, List.set_cons_succ, i64_w, i32_w]
        rfl
      refine pure_ (i := 1) (N := (some 23)) (v := ?_) (a' := ?_) #[true, true, false, false, false, false, false, false, false, false, false, false] rfl rfl (any_of HT_.out (by kernel_rfl)) (fun _ _ _ h => h) (Or.inl ⟨by rfl, ?_⟩) ?_ ?_
      rotate_left
      · intro w'
        go_simp
        (try with_reducible rfl)
      rotate_left
      · simp only [Act.put, List.setIfInBounds_toArray, List.set_cons_zero, List.set_cons_succ, i64_w, i32_w]
        rfl
      refine take_ (i := 2) (N := (some 24)) (v := ?_) (a' := ?_) #[true, true, true, false, false, false, false, false, false, false, false, false] rfl rfl (take_ofW HT_.out HW_.out (by kernel_rfl)) (fun _ _ _ h => h) (Or.inl ⟨by rfl, ?_⟩) hHeld ?_ ?_
      rotate_left
      · rintro w' ⟨sx0, sx1, sx2⟩
        go_simp
        (try with_reducible rfl)
      rotate_left
      · simp only [Act.put, List.setIfInBounds_toArray, List.set_cons_zero, List.set_cons_succ, i64_w, i32_w]
        rfl
      refine pure_ (i := 3) (N := (some 25)) (v := ?_) (a' := ?_) #[true, true, true, true, false, false, false, false, false, false, false, false] rfl rfl (any_of HT_.out (by kernel_rfl)) (fun _ _ _ h => h) (Or.inl ⟨by rfl, ?_⟩) ?_ ?_
      rotate_left
      · intro w'
        go_simp
        (try with_reducible rfl)
      rotate_left
      · simp only [Act.put, List.setIfInBounds_toArray, List.set_cons_zero, List.set_cons_succ, i64_w, i32_w]
        rfl
      refine pure_ (i := 4) (N := (some 26)) (v := ?_) (a' := ?_) #[true, true, true, true, true, false, false, false, false, false, false, false] rfl rfl (any_of HT_.out (by kernel_rfl)) (fun _ _ _ h => h) (Or.inl ⟨by rfl, ?_⟩) ?_ ?_
      rotate_left
      · intro w'
        go_simp
        (try with_reducible rfl)
      rotate_left
      · simp only [Act.put, List.setIfInBounds_toArray, List.set_cons_zero, List.set_cons_succ, i64_w, i32_w]
        rfl
      refine take_ (i := 5) (N := (some 27)) (v := ?_) (a' := ?_) #[true, true, true, true, true, true, false, false, false, false, false, false] rfl rfl (take_ofW HT_.out HW_.out (by kernel_rfl)) (fun _ _ _ h => h) (Or.inl ⟨by rfl, ?_⟩) hHeld ?_ ?_
      rotate_left
      · rintro w' ⟨sx0, sx1, sx2⟩
        go_simp
        (try with_reducible rfl)
      rotate_left
      · simp only [Act.put, List.setIfInBounds_toArray, List.set_cons_zero, List.set_cons_succ, i64_w, i32_w]
        rfl
      refine take_ (i := 6) (N := (some 28)) (v := ?_) (a' := ?_) #[true, true, true, true, true, true, true, false, false, false, false, false] rfl rfl (take_ofW HT_.out HW_.out (by kernel_rfl)) (fun _ _ _ h => h) (Or.inl ⟨by rfl, ?_⟩) hHeld ?_ ?_
      rotate_left
      · rintro w' ⟨sx0, sx1, sx2⟩
        go_simp
        (try with_reducible rfl)
      rotate_left
      · simp only [Act.put, List.setIfInBounds_toArray, List.set_cons_zero, List.set_cons_succ, i64_w, i32_w]
        rfl
      refine pure_ (i := 7) (N := (some 29)) (v := ?_) (a' := ?_) #[true, true, true, true, true, true, true, true, false, false, false, false] rfl rfl (any_of HT_.out (by kernel_rfl)) (fun _ _ _ h => h) (Or.inl ⟨by rfl, ?_⟩) ?_ ?_
      rotate_left
      · intro w'
        go_simp
        (try with_reducible rfl)
      rotate_left
      · simp only [Act.put, List.setIfInBounds_toArray, List.set_cons_zero, List.set_cons_succ, i64_w, i32_w]
        rfl
      refine take_ (i := 8) (N := (some 30)) (v := ?_) (a' := ?_) #[true, true, true, true, true, true, true, true, true, false, false, false] rfl rfl (take_ofW HT_.out HW_.out (by kernel_rfl)) (fun _ _ _ h => h) (Or.inl ⟨by rfl, ?_⟩) hHeld ?_ ?_
      rotate_left
      · rintro w' ⟨sx0, sx1, sx2⟩
        go_simp
        (try with_reducible rfl)
      rotate_left
      · simp only [Act.put, List.setIfInBounds_toArray, List.set_cons_zero, List.set_cons_succ, i64_w, i32_w]
        rfl
      refine one_ (i := 9) (N := (some 31)) #[true, true, true, true, true, true, true, true, true, true, false, false] rfl rfl (one_of HT_.out (by kernel_rfl)) (by decide) (fun K hK => ?_)
      refine value_ (w1 := ?_) (v := ?_) (by rfl) rfl ?_ ?_
      rotate_left 2
      · go_simp
        constructor
        · rfl
        · rfl
      refine hK.out _ _ ⟨pw_cell_below (below_alloc (Below.refl w0.heap.size w0) _) hHeld.1, pw_cell_below (below_alloc (Below.refl w0.heap.size w0) _) hHeld.2.1, HLK.out _ (blk_same HBLK.out _)⟩ (fun hHeld => ?_)
      clear hK K
      refine norm_ (a' := ?_) ?_ ?_
      rotate_left
      · simp only [Act.put, List.setIfInBounds_toArray, List.set_cons_zero, List.set_cons_succ, i64_w, i32_w]
        rfl
      refine one_ (i := 10) (N := (some 32)) #[true, true, true, true, true, true, true, true, true, true, true, false] rfl rfl (one_of HT_.out (by kernel_rfl)) (by decide) (fun K hK => ?_)
      obtain ⟨v', w1, hrun, hown', hgrow, hnil, hloc⟩ := run_append_own_at (P := Try.prog) (w := w0.alloc (.cells #[.int .i64 x1] 2)) (w.heap.size + 2) 76 76 2 i0 (.int .i64 0) 1 8 Try.underlying76 hi hz0 hz1 hz2 rfl (by decide) v zs.length _ (HOI.out.1.alloc _) ⟨w0.heap.size, 0, none⟩ 1 1 [.int .i64 x1] rfl (cell_one_new _ _ _) (ints_oneCell .i64 [x1]) (by have := HZL.out; unfold maxLen; omega) (by have := HZL.out; have := HLL.out; omega) (by have := HSZ.out; simp; omega)
      refine append_value (w1 := w1) (v' := v') (.tmp 28) (.tmp 31) 76 v (.slice (some ⟨w0.heap.size, 0, none⟩) 1 1) (by rfl) rfl rfl rfl rfl hrun ?_
      have hne1 : some (w.heap.size + 1) ≠ v.ownBlock := fun e => by { obtain ⟨cells, hc⟩ := own_typed HOI.out.1 _ e.symm; rw [HBLK.out] at hc; cases hc }
      have hbw1 := blk_grown (blk_alloc HBOX.out (.cells #[.int .i64 x1] 2)) hgrow (own_ne HOI.out.1 HBOX.out (by decide))
      have HS1 := Aside0.mk (show w1.cell? ⟨wr.heap.size, 0, none⟩ = some (.int .i64 x0) ∧ w1.cell? ⟨wr.heap.size, 1, none⟩ = some (.int .i64 x1) ∧ (Instr.lookup 75 (.map (some (w.heap.size + 1))) (.int .i64 x0) false).run Try.prog w1 = .ok v w1 from ⟨(blk_cell hbw1 0).trans rfl, (blk_cell hbw1 1).trans rfl, HLK.out w1 ((hgrow.block _ (by have := HSZ.out; simp; omega) hne1).trans (blk_same HBLK.out _))⟩)
      refine hK.out _ _ HS1.out (fun hHeld => ?_)
      clear hK K
      refine norm_ (a' := ?_) ?_ ?_
      rotate_left
      · simp only [Act.put, List.setIfInBounds_toArray, List.set_cons_zero, List.set_cons_succ, i64_w, i32_w]
        rfl
      refine last_ (i := 11) (N := none) #[true, true, true, true, true, true, true, true, true, true, true, true] rfl rfl (one_of HT_.out (by kernel_rfl)) (by decide) (fun K hK => ?_)
      obtain ⟨w2, hrun2, hown2, hgrow2⟩ := HBACK.out w1 v' (zs ++ [x1]) ((World.grownBy_alloc _ _ _).trans hgrow) (HOI.out.appended hown' HWX.out.2) (by have := HZL.out; simp; omega) (hloc.imp id (fun h => ⟨_, h, by simp⟩))
      refine store_skip (w1 := w2) (.tmp 22) (.tmp 24) (.tmp 32) 75 (.map (some (w.heap.size + 1))) (.int .i64 x0) v' (by rfl) rfl rfl rfl rfl rfl hrun2 ?_
      refine hK.out _ _ ?_
      clear hK K
      refine done_ (done_of HT_.out (by kernel_rfl)) ?_
      go_wp2
      go_roundg (l.length - (kk + 1))
      case measure => omega
      case rel =>
        have hB0 : Below w.heap.size w w0 := HB.out.grown HG0.out HB.out.size (fun k hk => by cases hk)
        refine ⟨kk + 1, _, by omega, by omega, by go_num, ⟨hown2⟩, ⟨?_⟩, ⟨RowKit.Below.groups hB0 HOI.out ((World.grownBy_alloc _ _ _).trans hgrow) hgrow2 hB0.size (by omega) (by omega)⟩, ⟨?_⟩⟩
        · rw [HST.out]
          have h := HG.out.put x0 (HOI.out.appended hown' HWX.out.2) (by simp)
          rw [HZS.out] at h
          rw [HZS.out]
          exact h
        · have e1 := hgrow.size
          have e2 := hgrow2.size
          have e3 := HSZ.out
          simp at e1
          omega
    · have hk : kk = l.length := by omega
      have hltz : ¬ (kk : Int) < (l.length : Int) := by omega
      have hg1 := HG.out
      rw [hk, List.take_length] at hg1
      have ho1 := HOWN.out
      rw [hk] at ho1
      have HG1 := Aside0.mk hg1
      have HOWN1 := Aside0.mk ho1
      have q0 := (HB.out.cell (World.block_lt_of_cell? w _ HQ0.out)).trans HQ0.out
      clear hk hg1 ho1 HG HOWN
      go_wp2
      obtain ⟨wo, rfl⟩ : ∃ wo : World, wo = wr := ⟨_, rfl⟩
      go_loopg [8, 38] a.length (fun gg v8 v38 wr => ∃ kk : Nat, kk ≤ a.length ∧ a.length - kk ≤ gg ∧ v38 = .int .i64 kk ∧ Aside0 (Kd.R k36 36 wr w.heap.size (fun _ => True) v8 (joinL (a.take kk) l)) ∧ Aside0 (wr.ownsGroups Try.prog 2 (w.heap.size + 2) 2 .i64 (w.heap.size + 1) l.length D) ∧ Aside0 (Below w.heap.size w wr))
      case atStart => exact ⟨0, Nat.zero_le _, by omega, rfl, ⟨Kd.R_nil _ _ _ _ _⟩, HOWN1, HB⟩
      case round =>
        clear HB HOWN1 q0 HSZ0
        obtain ⟨k2, hk2, hg2, rfl, HO, HOWN, HB⟩ := hrel
        by_cases hlt2 : k2 < a.length
        · have hltz2 : (k2 : Int) < (a.length : Int) := by omega
          obtain ⟨ad2, eA, q0, q1⟩ := at_T36 (Kd.C_below HR0.out HB.out) (k2 : Int) (by omega) hltz2
          simp only [Int.toNat_natCast] at q0 q1
          have hx : a[k2]? = some (rd_T36 a (k2 : Int)) := by simp [rd_T36, List.getD_eq_getElem?_getD, hlt2]
          have hs := joinL_take a l k2 _ hx
          have hjl := joinL_length (a.take (k2 + 1)) l
          have hjm : (a.take (k2 + 1)).length * l.length ≤ 1000 * 1000 := Nat.mul_le_mul (by rw [List.length_take]; have := HLL0.out; omega) HLL.out
          have hwx := HW0.out _ (List.mem_of_getElem? hx)
          have hl2 := congrArg List.length hs
          rw [List.length_append, List.length_map] at hl2
          generalize rd_T36 a (k2 : Int) = x at q0 q1 hs hwx hl2
          have HST := Aside0.mk hs
          have HWX := Aside0.mk hwx
          have HLN := Aside0.mk (show (joinL (a.take k2) l).length + (grp l x.f0).length ≤ 1000000 by omega)
          clear hs hx hwx hjl hjm hl2
          subst eA
          obtain ⟨x0, x1⟩ := x
          simp only at q0 q1 HST HWX HLN
          have hkey : keyOf Try.prog 2 (.int .i64 x0) = some (.int .i64 x0) := Maps.keyOf_int_mk Try.underlying2 HWX.out.1
          have hml : l.length < maxLen := by have := HLL.out; unfold maxLen; omega
          have hG0 := (World.grownBy_alloc wr (.cells #[.int .i64 x0, .int .i64 x1] 36) none)
          have HOWNA := Aside0.mk (groups_keep HOWN.out hG0)
          generalize joinL (a.take k2) l = out at HO HST HLN
          have HOA := Aside0.mk (Kd.R_alloc (Kd.R_mono (ok' := fun k => k ≠ wr.heap.size) (Kd.R_bound HO.out) (fun k hk => by have := hk.2.2.1; omega)) (.cells #[.int .i64 x0, .int .i64 x1] 36))
          have HBX := Aside0.mk (blk_new wr (.cells #[.int .i64 x0, .int .i64 x1] 36))
          have HBA := Aside0.mk (below_alloc HB.out (.cells #[.int .i64 x0, .int .i64 x1] 36))
          clear HO HOWN HB hG0
          go_wp2_with (at_lookup; refine wpList_lookup_groups _ rfl _ _ 75 rfl 2 76 2 .i64 law2 Try.underlying75 (zero76 _) (w.heap.size + 2) (w.heap.size + 1) l.length D rfl HOWNA.out hml _ _ rfl hkey ?_; intro v zs hat hoi hzl hback; have HZS := Aside0.mk (HG1.out.val hat hoi); have hzl9 : zs.length ≤ 9223372036854775807 := by { have := HLL.out; omega }; have HOI := Aside0.mk hoi; obtain ⟨Az, cz, rfl⟩ := own_slice hoi.1; clear hat hoi hback)
          obtain ⟨w3, hw3⟩ : ∃ w3 : World, w3 = wr := ⟨_, rfl⟩
          subst hw3
          go_loopg [8, 47] zs.length (fun gg v8 v47 wr => ∃ j : Nat, j ≤ zs.length ∧ zs.length - j ≤ gg ∧ v47 = .int .i64 j ∧ Aside0 (Kd.R k36 36 wr w.heap.size (fun k => k ≠ w3.heap.size) v8 (out ++ (zs.take j).map fun z => ⟨x0, wrap64 (x1 + z)⟩)) ∧ Aside0 (wr.ownsInts (w.heap.size + 2) 2 .i64 (.slice Az zs.length cz) zs) ∧
            Aside0 (wr.ownsGroups Try.prog 2 (w.heap.size + 2) 2 .i64 (w.heap.size + 1) l.length D) ∧ Aside0 (wr.heap[w3.heap.size]? = some (.cells #[.int .i64 x0, .int .i64 x1] 36 (0, 0))) ∧ Aside0 (Below w.heap.size w wr))
          case atStart => exact ⟨0, Nat.zero_le _, by omega, rfl, ⟨by simpa using HOA.out⟩, HOI, HOWNA, HBX, HBA⟩
          case round =>
            clear HOA HOI HOWNA HBX HBA q0 q1
            obtain ⟨j, hj, hg3, rfl, HO, HOI, HOWN, HBX, HB⟩ := hrel
            by_cases hlt3 : j < zs.length
            · have hltz3 : (j : Int) < (zs.length : Int) := by omega
              obtain ⟨A', c', ev, hrd⟩ := own_reads (xs := zs) HOI.out.1
              injection ev with e1 e2 e3
              subst e1
              obtain ⟨adz, eZ, qz⟩ := hrd.at_ (j : Int) (by omega) hltz3
              simp only [Int.toNat_natCast] at qz
              have hz : zs[j]? = some (rd zs (j : Int)) := by simp [rd, List.getD_eq_getElem?_getD, hlt3]
              have ht : zs.take (j + 1) = zs.take j ++ [rd zs (j : Int)] := by rw [List.take_add_one, hz]; rfl
              generalize rd zs (j : Int) = z at qz ht
              have HT := Aside0.mk ht
              have HZB := Aside0.mk (show zs.length ≤ 1000 from by rw [HZS.out]; exact Nat.le_trans (grp_length l x0) HLL.out)
              have HAL := Aside0.mk (show ((out ++ (zs.take j).map fun z => (⟨x0, wrap64 (x1 + z)⟩ : S36)).length + 1) * 16 ≤ 140737488355328 from by have h1 := HLN.out; have h2 := HZB.out; rw [List.length_append, List.length_map, List.length_take]; omega)
              have HGL := Aside0.mk (blk_lt HBX.out)
              have p0 := (blk_cell HBX.out 0).trans rfl
              have p1 := (blk_cell HBX.out 1).trans rfl
              clear hz ht hrd e2 e3
              subst eZ
              go_wp2_with ((with_reducible refine gate_builtin (b := .append) (xs := #[.tmp 51, .tmp 59]) rfl ?_); at_builtin; refine Kd.R_append k36 (w0 := w) w.heap.size rfl (.tmp 51) (.tmp 59) 28 36 (.agg #[(.int .i64 0), (.int .i64 0)]) 16 rfl Try.underlying28 info36 rfl (by decide) (by omega) u8 (out ++ (zs.take j).map fun z => (⟨x0, wrap64 (x1 + z)⟩ : S36)) (⟨x0, wrap64 (x1 + z)⟩ : S36) [.int .i64 x0, .int .i64 (wrap64 (x1 + z))] (fun k => k ≠ w3.heap.size) (fun _ => False) rfl rfl ?aP (fun _ hk => hk.elim) ?aF ?aO ?aB ?aS ?aL ?_; (case aP => exact k36_mkM _ _ _ (⟨x0, wrap64 (x1 + z)⟩ : S36)); (case aB => exact HB.out); (case aF => exact (fun k hk => by have := HGL.out; omega)); (case aO => exact HO.out); (case aS => exact (below_size HB.out)); (case aL => exact HAL.out); intro v115 w13 ho hb hg hat2; have HB2 := Aside0.mk hb; have HO2 := Aside0.mk ho; have HG2 := Aside0.mk hg; clear ho hb hg hat2)
              go_roundg (zs.length - (j + 1))
              case measure => omega
              case rel => exact ⟨j + 1, by omega, by omega, by go_num, ⟨by rw [HT.out, List.map_append, ← List.append_assoc]; exact HO2.out⟩, ⟨ints_other HOI.out HO.out HG2.out⟩, ⟨groups_other HOWN.out HO.out HG2.out⟩, ⟨blk_grown HBX.out HG2.out (fun e => HO.out.1 _ e.symm rfl)⟩, HB2⟩
            · have hj2 : j = zs.length := by omega
              have HJ := Aside0.mk hj2
              clear hj2
              have hltz3 : ¬ (j : Int) < (zs.length : Int) := by omega
              go_wp2
              go_roundg (a.length - (k2 + 1))
              case measure => omega
              case rel =>
                refine ⟨k2 + 1, by omega, by omega, by go_num, ⟨?_⟩, HOWN, HB⟩
                have h := HO.out
                rw [HJ.out, List.take_length, HZS.out] at h
                rw [HST.out]
                exact Kd.R_mono h (fun _ _ => trivial)
        · have hk : k2 = a.length := by omega
          have HK := Aside0.mk hk
          clear hk
          have hltz2 : ¬ (k2 : Int) < (a.length : Int) := by omega
          go_wp2
          go_ret
          refine ⟨_, rfl, ?_, HB.out⟩
          have h1 := HO.out
          rw [HK.out, List.take_length] at h1
          exact h1
end Go.Proofs.Ytcihpjkjodhdpaa.X
namespace Go.Proofs.Ytcihpjkjodhdpaa.X
open Go.RowKit Go.Proofs.YtcihpjkjodhdpaaW.PrintWords Go.Proofs.YtcihpjkjodhdpaaW.PrintLast Go.Proofs.YtcihpjkjodhdpaaW.PrintMore
attribute [local go_sem] max2_int min2_int max_two min_two
set_option linter.unusedVariables false
set_option linter.unusedSimpArgs false
def check_Node.j0 : Nat → List (S24) → Int → Bool → Option (Int)
  | 0, _, _, _ => none
  | k + 1, x0, x1, x5 => if x5 = true then (some 2) else (if 0 ≤ x1 then (if x1 < (x0.length : Int) then ((check_numbers.f ((rd_T24 x0 x1).f0) ((rd_T24 x0 x1).f1) ((rd_T24 x0 x1).f2) ((rd_T24 x0 x1).f3) ((rd_T24 x0 x1).f4)).bind fun t103 => (if t103 = true then ((check_ports.f x0 ((rd_T24 x0 x1).f0) ((rd_T24 x0 x1).f1) ((rd_T24 x0 x1).f2) ((rd_T24 x0 x1).f3) ((rd_T24 x0 x1).f4)).bind fun t105 => (if t105 = true then ((check_depth.f x0 ((rd_T24 x0 x1).f0) ((rd_T24 x0 x1).f1) ((rd_T24 x0 x1).f2) ((rd_T24 x0 x1).f3) ((rd_T24 x0 x1).f4)).bind fun t107 => (if t107 = true then (some 0) else (some 101))) else (some 100))) else (some 130))) else (none)) else (none))
def check_Node.f (k : Nat) (l0 : List (S24)) (a1 : Int) : Option (Int) := if a1 < 0 then (check_Node.j0 k l0 a1 true) else (check_Node.j0 k l0 a1 (decide (a1 ≥ (l0.length : Int))))
set_option maxHeartbeats 8000000 in
set_option maxRecDepth 100000 in
theorem check_Node.calls (k : Nat) (A0 : Option Addr) (c0 : Nat) (l0 : List (S24)) (a1 : Int) (r : Int) (w : World) (hr0 : Kd.C k24 w A0 l0.length l0) (hc0 : l0.length ≤ c0) (h : check_Node.f k l0 a1 = some r) :
    Calls Try.prog 25 #[.slice A0 l0.length c0, .int .i64 a1] w fun e w' => e = .returned (.int .i64 r) ∧ Below w.heap.size w w' := by
  have hu24 := Try.underlying24
  have HR0 := Aside0.mk hr0
  have HC0 := Aside0.mk hc0
  clear hr0 hc0
  have HB := Aside0.mk (Below.refl w.heap.size w)
  have H : (if a1 < 0 then (check_Node.j0 k l0 a1 true) else (check_Node.j0 k l0 a1 (decide (a1 ≥ (l0.length : Int))))) = some r := h
  clear h
  have HC3 := Aside0.mk H
  clear H
  go_enter Try.func25, Try.ntmps25
  go_upto_region 1 with (fail)
  go_cut [5] (fun v5 wc => ∃ (kq : Nat) (x5_2 : Bool), v5 = .bool x5_2 ∧ Aside0 (check_Node.j0 kq l0 a1 x5_2 = some r) ∧ Aside0 (kq ≤ k) ∧ Aside0 (Below w.heap.size w wc))
  case first =>
    have H := HC3.out
    clear HC3
    by_cases c4 : a1 < 0
    · rw [if_pos c4] at H
      have c4b0 : decide (a1 < 0) = true := decide_eq_true c4
      clear c4
      (first | rw [c4b0] | (simp only [i64_w, i32_w]; rw [c4b0]) | skip)
      have H' := Aside0.mk H
      clear H
      go_wp2
      go_meet
      case rel => exact ⟨_, (true), (by first | rfl | (simp; done) | (simp [*]; done)), H', ⟨by first | omega | exact Nat.le_refl _⟩, ⟨by repeat (first | (with_reducible first | exact HB.out | apply below_alloc | apply pw_below_drewN | apply below_drew1) | exact HB.out)⟩⟩
    · rw [if_neg c4] at H
      have c4b0 : decide (a1 < 0) = false := decide_eq_false c4
      clear c4
      (first | rw [c4b0] | (simp only [i64_w, i32_w]; rw [c4b0]) | skip)
      have H' := Aside0.mk H
      clear H
      go_wp2
      go_meet
      case rel => exact ⟨_, (decide (a1 ≥ (l0.length : Int))), (by first | rfl | (simp; done) | (simp [*]; done)), H', ⟨by first | omega | exact Nat.le_refl _⟩, ⟨by repeat (first | (with_reducible first | exact HB.out | apply below_alloc | apply pw_below_drewN | apply below_drew1) | exact HB.out)⟩⟩
  case rest =>
    clear HC3
    try clear c2
    try clear p2
    try clear c4
    try clear c4b0
    obtain ⟨kq, x5_2, rfl, HA, HJ2, HB⟩ := hcut
    cases kq with
    | zero => exact absurd HA.out (by simp [check_Node.j0])
    | succ kj2 =>
      have H := HA.out
      clear HA
      simp only [check_Node.j0] at H
      by_cases c5 : x5_2 = true
      · subst c5
        have H1 : (some 2) = some r := by rw [if_pos rfl] at H; exact H
        clear H
        have H := H1
        clear H1
        obtain rfl := Option.some.inj H
        go_wp2
        go_ret
        exact ⟨by first | rfl | (simp [errW_none, errW_some] <;> rfl) | (simp [*, errW_none, errW_some] <;> rfl), by repeat (first | (with_reducible first | exact HB.out | apply below_alloc | apply pw_below_drewN | apply below_drew1) | exact HB.out)⟩
      · replace c5 := Bool.eq_false_iff.mpr c5
        subst c5
        have H1 : (if 0 ≤ a1 then (if a1 < (l0.length : Int) then ((check_numbers.f ((rd_T24 l0 a1).f0) ((rd_T24 l0 a1).f1) ((rd_T24 l0 a1).f2) ((rd_T24 l0 a1).f3) ((rd_T24 l0 a1).f4)).bind fun t103 => (if t103 = true then ((check_ports.f l0 ((rd_T24 l0 a1).f0) ((rd_T24 l0 a1).f1) ((rd_T24 l0 a1).f2) ((rd_T24 l0 a1).f3) ((rd_T24 l0 a1).f4)).bind fun t105 => (if t105 = true then ((check_depth.f l0 ((rd_T24 l0 a1).f0) ((rd_T24 l0 a1).f1) ((rd_T24 l0 a1).f2) ((rd_T24 l0 a1).f3) ((rd_T24 l0 a1).f4)).bind fun t107 => (if t107 = true then (some 0) else (some 101))) else (some 100))) else (some 130))) else (none)) else (none)) = some r := by rw [if_neg (show ¬ (false = true) by decide)] at H; exact H
        clear H
        have H := H1
        clear H1
        by_cases c6 : 0 ≤ a1
        · rw [if_pos c6] at H
          have c6b0 : decide (0 ≤ a1) = true := decide_eq_true c6
          clear c6
          by_cases c7 : a1 < (l0.length : Int)
          · rw [if_pos c7] at H
            have c7b0 : decide (a1 < (l0.length : Int)) = true := decide_eq_true c7
            clear c7
            replace H := Option.bind_eq_some_iff.mp H
            obtain ⟨t103, A80, H⟩ := H
            replace H : (if t103 = true then ((check_ports.f l0 ((rd_T24 l0 a1).f0) ((rd_T24 l0 a1).f1) ((rd_T24 l0 a1).f2) ((rd_T24 l0 a1).f3) ((rd_T24 l0 a1).f4)).bind fun t105 => (if t105 = true then ((check_depth.f l0 ((rd_T24 l0 a1).f0) ((rd_T24 l0 a1).f1) ((rd_T24 l0 a1).f2) ((rd_T24 l0 a1).f3) ((rd_T24 l0 a1).f4)).bind fun t107 => (if t107 = true then (some 0) else (some 101))) else (some 100))) else (some 130)) = some r := H
            have A8 := Aside0.mk A80
            clear A80
            by_cases c9 : t103 = true
            · subst c9
              have H1 : ((check_ports.f l0 ((rd_T24 l0 a1).f0) ((rd_T24 l0 a1).f1) ((rd_T24 l0 a1).f2) ((rd_T24 l0 a1).f3) ((rd_T24 l0 a1).f4)).bind fun t105 => (if t105 = true then ((check_depth.f l0 ((rd_T24 l0 a1).f0) ((rd_T24 l0 a1).f1) ((rd_T24 l0 a1).f2) ((rd_T24 l0 a1).f3) ((rd_T24 l0 a1).f4)).bind fun t107 => (if t107 = true then (some 0) else (some 101))) else (some 100))) = some r := by rw [if_pos rfl] at H; exact H
              clear H
              have H := H1
              clear H1
              replace H := Option.bind_eq_some_iff.mp H
              obtain ⟨t105, A100, H⟩ := H
              replace H : (if t105 = true then ((check_depth.f l0 ((rd_T24 l0 a1).f0) ((rd_T24 l0 a1).f1) ((rd_T24 l0 a1).f2) ((rd_T24 l0 a1).f3) ((rd_T24 l0 a1).f4)).bind fun t107 => (if t107 = true then (some 0) else (some 101))) else (some 100)) = some r := H
              have A10 := Aside0.mk A100
              clear A100
              by_cases c11 : t105 = true
              · subst c11
                have H1 : ((check_depth.f l0 ((rd_T24 l0 a1).f0) ((rd_T24 l0 a1).f1) ((rd_T24 l0 a1).f2) ((rd_T24 l0 a1).f3) ((rd_T24 l0 a1).f4)).bind fun t107 => (if t107 = true then (some 0) else (some 101))) = some r := by rw [if_pos rfl] at H; exact H
                clear H
                have H := H1
                clear H1
                replace H := Option.bind_eq_some_iff.mp H
                obtain ⟨t107, A120, H⟩ := H
                replace H : (if t107 = true then (some 0) else (some 101)) = some r := H
                have A12 := Aside0.mk A120
                clear A120
                by_cases c13 : t107 = true
                · subst c13
                  have H1 : (some 0) = some r := by rw [if_pos rfl] at H; exact H
                  clear H
                  have H := H1
                  clear H1
                  obtain rfl := Option.some.inj H
                  have p102 : 0 ≤ (a1 : Int) := of_decide_eq_true (by first | (with_reducible assumption) | assumption)
                  have q102 : a1 < (l0.length : Int) := of_decide_eq_true (by first | (with_reducible assumption) | assumption)
                  obtain ⟨ad102, A102_4, c102_4, e102, hx102_0, hx102_1, hx102_2, hx102_3, hx102_4, hl102_4, hi102_4⟩ := at_T24 HR0.out a1 p102 q102
                  cases e102
                  replace hx102_0 := (HB.out.cell (World.block_lt_of_cell? w _ hx102_0)).trans hx102_0
                  replace hx102_1 := (HB.out.cell (World.block_lt_of_cell? w _ hx102_1)).trans hx102_1
                  replace hx102_2 := (HB.out.cell (World.block_lt_of_cell? w _ hx102_2)).trans hx102_2
                  replace hx102_3 := (HB.out.cell (World.block_lt_of_cell? w _ hx102_3)).trans hx102_3
                  replace hx102_4 := (HB.out.cell (World.block_lt_of_cell? w _ hx102_4)).trans hx102_4
                  have HR102_4 := Aside0.mk hi102_4
                  have HC102_4 := Aside0.mk hl102_4
                  clear hi102_4 hl102_4
                  replace p102 := eq_true p102
                  replace q102 := eq_true q102
                  go_wp2_with (first | ((with_reducible refine gate_callee (f := 49) rfl ?_); refine goesL_ (some 19) rfl rfl Try.func49 (by kernel_rfl) rfl #[.agg #[.int .u8 ((rd_T24 l0 a1).f0), .int .u8 ((rd_T24 l0 a1).f1), .int .i64 ((rd_T24 l0 a1).f2), .int .i64 ((rd_T24 l0 a1).f3), .slice A102_4 ((rd_T24 l0 a1).f4).length c102_4]] rfl (by (try simp only [List.map_toArray, List.map_cons, List.map_nil]); first | done | rfl | (simp only [List.length_drop, List.length_take]; rfl)) ?_; (with_reducible refine (check_numbers.calls ((rd_T24 l0 a1).f0) ((rd_T24 l0 a1).f1) ((rd_T24 l0 a1).f2) ((rd_T24 l0 a1).f3) _ _ ((rd_T24 l0 a1).f4) true _ ?side1 ?side2 A8.out).mono ?_); (case side1 => repeat (first | exact (Kd.C_below HR102_4.out HB.out) | (with_reducible refine Kd.C_alloc ?_ _) | (with_reducible refine Kd.C_drewN ?_ _) | (with_reducible refine Kd.C_drew ?_))); (case side2 => exact HC102_4.out); rintro e w14 ⟨rfl, hb⟩; refine ⟨_, rfl, ?_⟩; have n0_ := Aside0.mk (below_step (by repeat (first | (with_reducible first | exact HB.out | apply below_alloc | apply pw_below_drewN | apply below_drew1) | exact HB.out)) hb); clear HB; have HB := n0_; clear n0_; (try clear hb); (try clear hb2); (try clear hk); (try clear hi); have p104 : 0 ≤ (a1 : Int) := of_decide_eq_true (by first | (with_reducible assumption) | assumption); have q104 : a1 < (l0.length : Int) := of_decide_eq_true (by first | (with_reducible assumption) | assumption); obtain ⟨ad104, A104_4, c104_4, e104, hx104_0, hx104_1, hx104_2, hx104_3, hx104_4, hl104_4, hi104_4⟩ := at_T24 HR0.out a1 p104 q104; obtain rfl : ad102 = ad104 := (by injection e104); replace hx104_0 := (HB.out.cell (World.block_lt_of_cell? w _ hx104_0)).trans hx104_0; replace hx104_1 := (HB.out.cell (World.block_lt_of_cell? w _ hx104_1)).trans hx104_1; replace hx104_2 := (HB.out.cell (World.block_lt_of_cell? w _ hx104_2)).trans hx104_2; replace hx104_3 := (HB.out.cell (World.block_lt_of_cell? w _ hx104_3)).trans hx104_3; replace hx104_4 := (HB.out.cell (World.block_lt_of_cell? w _ hx104_4)).trans hx104_4; have HR104_4 := Aside0.mk hi104_4; have HC104_4 := Aside0.mk hl104_4; clear hi104_4 hl104_4; replace p104 := eq_true p104; replace q104 := eq_true q104) | ((with_reducible refine gate_callee (f := 50) rfl ?_); refine goesL_ (some 27) rfl rfl Try.func50 (by kernel_rfl) rfl #[.slice (some ad102) l0.length c0, .agg #[.int .u8 ((rd_T24 l0 a1).f0), .int .u8 ((rd_T24 l0 a1).f1), .int .i64 ((rd_T24 l0 a1).f2), .int .i64 ((rd_T24 l0 a1).f3), .slice A104_4 ((rd_T24 l0 a1).f4).length c104_4]] rfl (by (try simp only [List.map_toArray, List.map_cons, List.map_nil]); first | done | rfl | (simp only [List.length_drop, List.length_take]; rfl)) ?_; (with_reducible refine (check_ports.calls _ _ l0 ((rd_T24 l0 a1).f0) ((rd_T24 l0 a1).f1) ((rd_T24 l0 a1).f2) ((rd_T24 l0 a1).f3) _ _ ((rd_T24 l0 a1).f4) true _ ?side1 ?side2 ?side3 ?side4 A10.out).mono ?_); (case side1 => repeat (first | exact (Kd.C_below HR0.out HB.out) | (with_reducible refine Kd.C_alloc ?_ _) | (with_reducible refine Kd.C_drewN ?_ _) | (with_reducible refine Kd.C_drew ?_))); (case side2 => exact HC0.out); (case side3 => repeat (first | exact (Kd.C_below HR104_4.out HB.out) | (with_reducible refine Kd.C_alloc ?_ _) | (with_reducible refine Kd.C_drewN ?_ _) | (with_reducible refine Kd.C_drew ?_))); (case side4 => exact HC104_4.out); rintro e w15 ⟨rfl, hb⟩; refine ⟨_, rfl, ?_⟩; have n0_ := Aside0.mk (below_step (by repeat (first | (with_reducible first | exact HB.out | apply below_alloc | apply pw_below_drewN | apply below_drew1) | exact HB.out)) hb); clear HB; have HB := n0_; clear n0_; (try clear hb); (try clear hb2); (try clear hk); (try clear hi); have p106 : 0 ≤ (a1 : Int) := of_decide_eq_true (by first | (with_reducible assumption) | assumption); have q106 : a1 < (l0.length : Int) := of_decide_eq_true (by first | (with_reducible assumption) | assumption); obtain ⟨ad106, A106_4, c106_4, e106, hx106_0, hx106_1, hx106_2, hx106_3, hx106_4, hl106_4, hi106_4⟩ := at_T24 HR0.out a1 p106 q106; obtain rfl : ad102 = ad106 := (by injection e106); replace hx106_0 := (HB.out.cell (World.block_lt_of_cell? w _ hx106_0)).trans hx106_0; replace hx106_1 := (HB.out.cell (World.block_lt_of_cell? w _ hx106_1)).trans hx106_1; replace hx106_2 := (HB.out.cell (World.block_lt_of_cell? w _ hx106_2)).trans hx106_2; replace hx106_3 := (HB.out.cell (World.block_lt_of_cell? w _ hx106_3)).trans hx106_3; replace hx106_4 := (HB.out.cell (World.block_lt_of_cell? w _ hx106_4)).trans hx106_4; have HR106_4 := Aside0.mk hi106_4; have HC106_4 := Aside0.mk hl106_4; clear hi106_4 hl106_4; replace p106 := eq_true p106; replace q106 := eq_true q106) | ((with_reducible refine gate_callee (f := 51) rfl ?_); refine goesL_ (some 35) rfl rfl Try.func51 (by kernel_rfl) rfl #[.slice (some ad102) l0.length c0, .agg #[.int .u8 ((rd_T24 l0 a1).f0), .int .u8 ((rd_T24 l0 a1).f1), .int .i64 ((rd_T24 l0 a1).f2), .int .i64 ((rd_T24 l0 a1).f3), .slice A106_4 ((rd_T24 l0 a1).f4).length c106_4]] rfl (by (try simp only [List.map_toArray, List.map_cons, List.map_nil]); first | done | rfl | (simp only [List.length_drop, List.length_take]; rfl)) ?_; (with_reducible refine (check_depth.calls _ _ l0 ((rd_T24 l0 a1).f0) ((rd_T24 l0 a1).f1) ((rd_T24 l0 a1).f2) ((rd_T24 l0 a1).f3) _ _ ((rd_T24 l0 a1).f4) true _ ?side1 ?side2 ?side3 ?side4 A12.out).mono ?_); (case side1 => repeat (first | exact (Kd.C_below HR0.out HB.out) | (with_reducible refine Kd.C_alloc ?_ _) | (with_reducible refine Kd.C_drewN ?_ _) | (with_reducible refine Kd.C_drew ?_))); (case side2 => exact HC0.out); (case side3 => repeat (first | exact (Kd.C_below HR106_4.out HB.out) | (with_reducible refine Kd.C_alloc ?_ _) | (with_reducible refine Kd.C_drewN ?_ _) | (with_reducible refine Kd.C_drew ?_))); (case side4 => exact HC106_4.out); rintro e w16 ⟨rfl, hb⟩; refine ⟨_, rfl, ?_⟩; have n0_ := Aside0.mk (below_step (by repeat (first | (with_reducible first | exact HB.out | apply below_alloc | apply pw_below_drewN | apply below_drew1) | exact HB.out)) hb); clear HB; have HB := n0_; clear n0_; (try clear hb); (try clear hb2); (try clear hk); (try clear hi)))
                  go_ret
                  exact ⟨by first | rfl | (simp [errW_none, errW_some] <;> rfl) | (simp [*, errW_none, errW_some] <;> rfl), by repeat (first | (with_reducible first | exact HB.out | apply below_alloc | apply pw_below_drewN | apply below_drew1) | exact HB.out)⟩
                · replace c13 := Bool.eq_false_iff.mpr c13
                  subst c13
                  have H1 : (some 101) = some r := by rw [if_neg (show ¬ (false = true) by decide)] at H; exact H
                  clear H
                  have H := H1
                  clear H1
                  obtain rfl := Option.some.inj H
                  have p102 : 0 ≤ (a1 : Int) := of_decide_eq_true (by first | (with_reducible assumption) | assumption)
                  have q102 : a1 < (l0.length : Int) := of_decide_eq_true (by first | (with_reducible assumption) | assumption)
                  obtain ⟨ad102, A102_4, c102_4, e102, hx102_0, hx102_1, hx102_2, hx102_3, hx102_4, hl102_4, hi102_4⟩ := at_T24 HR0.out a1 p102 q102
                  cases e102
                  replace hx102_0 := (HB.out.cell (World.block_lt_of_cell? w _ hx102_0)).trans hx102_0
                  replace hx102_1 := (HB.out.cell (World.block_lt_of_cell? w _ hx102_1)).trans hx102_1
                  replace hx102_2 := (HB.out.cell (World.block_lt_of_cell? w _ hx102_2)).trans hx102_2
                  replace hx102_3 := (HB.out.cell (World.block_lt_of_cell? w _ hx102_3)).trans hx102_3
                  replace hx102_4 := (HB.out.cell (World.block_lt_of_cell? w _ hx102_4)).trans hx102_4
                  have HR102_4 := Aside0.mk hi102_4
                  have HC102_4 := Aside0.mk hl102_4
                  clear hi102_4 hl102_4
                  replace p102 := eq_true p102
                  replace q102 := eq_true q102
                  go_wp2_with (first | ((with_reducible refine gate_callee (f := 49) rfl ?_); refine goesL_ (some 19) rfl rfl Try.func49 (by kernel_rfl) rfl #[.agg #[.int .u8 ((rd_T24 l0 a1).f0), .int .u8 ((rd_T24 l0 a1).f1), .int .i64 ((rd_T24 l0 a1).f2), .int .i64 ((rd_T24 l0 a1).f3), .slice A102_4 ((rd_T24 l0 a1).f4).length c102_4]] rfl (by (try simp only [List.map_toArray, List.map_cons, List.map_nil]); first | done | rfl | (simp only [List.length_drop, List.length_take]; rfl)) ?_; (with_reducible refine (check_numbers.calls ((rd_T24 l0 a1).f0) ((rd_T24 l0 a1).f1) ((rd_T24 l0 a1).f2) ((rd_T24 l0 a1).f3) _ _ ((rd_T24 l0 a1).f4) true _ ?side1 ?side2 A8.out).mono ?_); (case side1 => repeat (first | exact (Kd.C_below HR102_4.out HB.out) | (with_reducible refine Kd.C_alloc ?_ _) | (with_reducible refine Kd.C_drewN ?_ _) | (with_reducible refine Kd.C_drew ?_))); (case side2 => exact HC102_4.out); rintro e w17 ⟨rfl, hb⟩; refine ⟨_, rfl, ?_⟩; have n0_ := Aside0.mk (below_step (by repeat (first | (with_reducible first | exact HB.out | apply below_alloc | apply pw_below_drewN | apply below_drew1) | exact HB.out)) hb); clear HB; have HB := n0_; clear n0_; (try clear hb); (try clear hb2); (try clear hk); (try clear hi); have p104 : 0 ≤ (a1 : Int) := of_decide_eq_true (by first | (with_reducible assumption) | assumption); have q104 : a1 < (l0.length : Int) := of_decide_eq_true (by first | (with_reducible assumption) | assumption); obtain ⟨ad104, A104_4, c104_4, e104, hx104_0, hx104_1, hx104_2, hx104_3, hx104_4, hl104_4, hi104_4⟩ := at_T24 HR0.out a1 p104 q104; obtain rfl : ad102 = ad104 := (by injection e104); replace hx104_0 := (HB.out.cell (World.block_lt_of_cell? w _ hx104_0)).trans hx104_0; replace hx104_1 := (HB.out.cell (World.block_lt_of_cell? w _ hx104_1)).trans hx104_1; replace hx104_2 := (HB.out.cell (World.block_lt_of_cell? w _ hx104_2)).trans hx104_2; replace hx104_3 := (HB.out.cell (World.block_lt_of_cell? w _ hx104_3)).trans hx104_3; replace hx104_4 := (HB.out.cell (World.block_lt_of_cell? w _ hx104_4)).trans hx104_4; have HR104_4 := Aside0.mk hi104_4; have HC104_4 := Aside0.mk hl104_4; clear hi104_4 hl104_4; replace p104 := eq_true p104; replace q104 := eq_true q104) | ((with_reducible refine gate_callee (f := 50) rfl ?_); refine goesL_ (some 27) rfl rfl Try.func50 (by kernel_rfl) rfl #[.slice (some ad102) l0.length c0, .agg #[.int .u8 ((rd_T24 l0 a1).f0), .int .u8 ((rd_T24 l0 a1).f1), .int .i64 ((rd_T24 l0 a1).f2), .int .i64 ((rd_T24 l0 a1).f3), .slice A104_4 ((rd_T24 l0 a1).f4).length c104_4]] rfl (by (try simp only [List.map_toArray, List.map_cons, List.map_nil]); first | done | rfl | (simp only [List.length_drop, List.length_take]; rfl)) ?_; (with_reducible refine (check_ports.calls _ _ l0 ((rd_T24 l0 a1).f0) ((rd_T24 l0 a1).f1) ((rd_T24 l0 a1).f2) ((rd_T24 l0 a1).f3) _ _ ((rd_T24 l0 a1).f4) true _ ?side1 ?side2 ?side3 ?side4 A10.out).mono ?_); (case side1 => repeat (first | exact (Kd.C_below HR0.out HB.out) | (with_reducible refine Kd.C_alloc ?_ _) | (with_reducible refine Kd.C_drewN ?_ _) | (with_reducible refine Kd.C_drew ?_))); (case side2 => exact HC0.out); (case side3 => repeat (first | exact (Kd.C_below HR104_4.out HB.out) | (with_reducible refine Kd.C_alloc ?_ _) | (with_reducible refine Kd.C_drewN ?_ _) | (with_reducible refine Kd.C_drew ?_))); (case side4 => exact HC104_4.out); rintro e w18 ⟨rfl, hb⟩; refine ⟨_, rfl, ?_⟩; have n0_ := Aside0.mk (below_step (by repeat (first | (with_reducible first | exact HB.out | apply below_alloc | apply pw_below_drewN | apply below_drew1) | exact HB.out)) hb); clear HB; have HB := n0_; clear n0_; (try clear hb); (try clear hb2); (try clear hk); (try clear hi); have p106 : 0 ≤ (a1 : Int) := of_decide_eq_true (by first | (with_reducible assumption) | assumption); have q106 : a1 < (l0.length : Int) := of_decide_eq_true (by first | (with_reducible assumption) | assumption); obtain ⟨ad106, A106_4, c106_4, e106, hx106_0, hx106_1, hx106_2, hx106_3, hx106_4, hl106_4, hi106_4⟩ := at_T24 HR0.out a1 p106 q106; obtain rfl : ad102 = ad106 := (by injection e106); replace hx106_0 := (HB.out.cell (World.block_lt_of_cell? w _ hx106_0)).trans hx106_0; replace hx106_1 := (HB.out.cell (World.block_lt_of_cell? w _ hx106_1)).trans hx106_1; replace hx106_2 := (HB.out.cell (World.block_lt_of_cell? w _ hx106_2)).trans hx106_2; replace hx106_3 := (HB.out.cell (World.block_lt_of_cell? w _ hx106_3)).trans hx106_3; replace hx106_4 := (HB.out.cell (World.block_lt_of_cell? w _ hx106_4)).trans hx106_4; have HR106_4 := Aside0.mk hi106_4; have HC106_4 := Aside0.mk hl106_4; clear hi106_4 hl106_4; replace p106 := eq_true p106; replace q106 := eq_true q106) | ((with_reducible refine gate_callee (f := 51) rfl ?_); refine goesL_ (some 35) rfl rfl Try.func51 (by kernel_rfl) rfl #[.slice (some ad102) l0.length c0, .agg #[.int .u8 ((rd_T24 l0 a1).f0), .int .u8 ((rd_T24 l0 a1).f1), .int .i64 ((rd_T24 l0 a1).f2), .int .i64 ((rd_T24 l0 a1).f3), .slice A106_4 ((rd_T24 l0 a1).f4).length c106_4]] rfl (by (try simp only [List.map_toArray, List.map_cons, List.map_nil]); first | done | rfl | (simp only [List.length_drop, List.length_take]; rfl)) ?_; (with_reducible refine (check_depth.calls _ _ l0 ((rd_T24 l0 a1).f0) ((rd_T24 l0 a1).f1) ((rd_T24 l0 a1).f2) ((rd_T24 l0 a1).f3) _ _ ((rd_T24 l0 a1).f4) false _ ?side1 ?side2 ?side3 ?side4 A12.out).mono ?_); (case side1 => repeat (first | exact (Kd.C_below HR0.out HB.out) | (with_reducible refine Kd.C_alloc ?_ _) | (with_reducible refine Kd.C_drewN ?_ _) | (with_reducible refine Kd.C_drew ?_))); (case side2 => exact HC0.out); (case side3 => repeat (first | exact (Kd.C_below HR106_4.out HB.out) | (with_reducible refine Kd.C_alloc ?_ _) | (with_reducible refine Kd.C_drewN ?_ _) | (with_reducible refine Kd.C_drew ?_))); (case side4 => exact HC106_4.out); rintro e w19 ⟨rfl, hb⟩; refine ⟨_, rfl, ?_⟩; have n0_ := Aside0.mk (below_step (by repeat (first | (with_reducible first | exact HB.out | apply below_alloc | apply pw_below_drewN | apply below_drew1) | exact HB.out)) hb); clear HB; have HB := n0_; clear n0_; (try clear hb); (try clear hb2); (try clear hk); (try clear hi)))
                  go_ret
                  exact ⟨by first | rfl | (simp [errW_none, errW_some] <;> rfl) | (simp [*, errW_none, errW_some] <;> rfl), by repeat (first | (with_reducible first | exact HB.out | apply below_alloc | apply pw_below_drewN | apply below_drew1) | exact HB.out)⟩
              · replace c11 := Bool.eq_false_iff.mpr c11
                subst c11
                have H1 : (some 100) = some r := by rw [if_neg (show ¬ (false = true) by decide)] at H; exact H
                clear H
                have H := H1
                clear H1
                obtain rfl := Option.some.inj H
                have p102 : 0 ≤ (a1 : Int) := of_decide_eq_true (by first | (with_reducible assumption) | assumption)
                have q102 : a1 < (l0.length : Int) := of_decide_eq_true (by first | (with_reducible assumption) | assumption)
                obtain ⟨ad102, A102_4, c102_4, e102, hx102_0, hx102_1, hx102_2, hx102_3, hx102_4, hl102_4, hi102_4⟩ := at_T24 HR0.out a1 p102 q102
                cases e102
                replace hx102_0 := (HB.out.cell (World.block_lt_of_cell? w _ hx102_0)).trans hx102_0
                replace hx102_1 := (HB.out.cell (World.block_lt_of_cell? w _ hx102_1)).trans hx102_1
                replace hx102_2 := (HB.out.cell (World.block_lt_of_cell? w _ hx102_2)).trans hx102_2
                replace hx102_3 := (HB.out.cell (World.block_lt_of_cell? w _ hx102_3)).trans hx102_3
                replace hx102_4 := (HB.out.cell (World.block_lt_of_cell? w _ hx102_4)).trans hx102_4
                have HR102_4 := Aside0.mk hi102_4
                have HC102_4 := Aside0.mk hl102_4
                clear hi102_4 hl102_4
                replace p102 := eq_true p102
                replace q102 := eq_true q102
                go_wp2_with (first | ((with_reducible refine gate_callee (f := 49) rfl ?_); refine goesL_ (some 19) rfl rfl Try.func49 (by kernel_rfl) rfl #[.agg #[.int .u8 ((rd_T24 l0 a1).f0), .int .u8 ((rd_T24 l0 a1).f1), .int .i64 ((rd_T24 l0 a1).f2), .int .i64 ((rd_T24 l0 a1).f3), .slice A102_4 ((rd_T24 l0 a1).f4).length c102_4]] rfl (by (try simp only [List.map_toArray, List.map_cons, List.map_nil]); first | done | rfl | (simp only [List.length_drop, List.length_take]; rfl)) ?_; (with_reducible refine (check_numbers.calls ((rd_T24 l0 a1).f0) ((rd_T24 l0 a1).f1) ((rd_T24 l0 a1).f2) ((rd_T24 l0 a1).f3) _ _ ((rd_T24 l0 a1).f4) true _ ?side1 ?side2 A8.out).mono ?_); (case side1 => repeat (first | exact (Kd.C_below HR102_4.out HB.out) | (with_reducible refine Kd.C_alloc ?_ _) | (with_reducible refine Kd.C_drewN ?_ _) | (with_reducible refine Kd.C_drew ?_))); (case side2 => exact HC102_4.out); rintro e w20 ⟨rfl, hb⟩; refine ⟨_, rfl, ?_⟩; have n0_ := Aside0.mk (below_step (by repeat (first | (with_reducible first | exact HB.out | apply below_alloc | apply pw_below_drewN | apply below_drew1) | exact HB.out)) hb); clear HB; have HB := n0_; clear n0_; (try clear hb); (try clear hb2); (try clear hk); (try clear hi); have p104 : 0 ≤ (a1 : Int) := of_decide_eq_true (by first | (with_reducible assumption) | assumption); have q104 : a1 < (l0.length : Int) := of_decide_eq_true (by first | (with_reducible assumption) | assumption); obtain ⟨ad104, A104_4, c104_4, e104, hx104_0, hx104_1, hx104_2, hx104_3, hx104_4, hl104_4, hi104_4⟩ := at_T24 HR0.out a1 p104 q104; obtain rfl : ad102 = ad104 := (by injection e104); replace hx104_0 := (HB.out.cell (World.block_lt_of_cell? w _ hx104_0)).trans hx104_0; replace hx104_1 := (HB.out.cell (World.block_lt_of_cell? w _ hx104_1)).trans hx104_1; replace hx104_2 := (HB.out.cell (World.block_lt_of_cell? w _ hx104_2)).trans hx104_2; replace hx104_3 := (HB.out.cell (World.block_lt_of_cell? w _ hx104_3)).trans hx104_3; replace hx104_4 := (HB.out.cell (World.block_lt_of_cell? w _ hx104_4)).trans hx104_4; have HR104_4 := Aside0.mk hi104_4; have HC104_4 := Aside0.mk hl104_4; clear hi104_4 hl104_4; replace p104 := eq_true p104; replace q104 := eq_true q104) | ((with_reducible refine gate_callee (f := 50) rfl ?_); refine goesL_ (some 27) rfl rfl Try.func50 (by kernel_rfl) rfl #[.slice (some ad102) l0.length c0, .agg #[.int .u8 ((rd_T24 l0 a1).f0), .int .u8 ((rd_T24 l0 a1).f1), .int .i64 ((rd_T24 l0 a1).f2), .int .i64 ((rd_T24 l0 a1).f3), .slice A104_4 ((rd_T24 l0 a1).f4).length c104_4]] rfl (by (try simp only [List.map_toArray, List.map_cons, List.map_nil]); first | done | rfl | (simp only [List.length_drop, List.length_take]; rfl)) ?_; (with_reducible refine (check_ports.calls _ _ l0 ((rd_T24 l0 a1).f0) ((rd_T24 l0 a1).f1) ((rd_T24 l0 a1).f2) ((rd_T24 l0 a1).f3) _ _ ((rd_T24 l0 a1).f4) false _ ?side1 ?side2 ?side3 ?side4 A10.out).mono ?_); (case side1 => repeat (first | exact (Kd.C_below HR0.out HB.out) | (with_reducible refine Kd.C_alloc ?_ _) | (with_reducible refine Kd.C_drewN ?_ _) | (with_reducible refine Kd.C_drew ?_))); (case side2 => exact HC0.out); (case side3 => repeat (first | exact (Kd.C_below HR104_4.out HB.out) | (with_reducible refine Kd.C_alloc ?_ _) | (with_reducible refine Kd.C_drewN ?_ _) | (with_reducible refine Kd.C_drew ?_))); (case side4 => exact HC104_4.out); rintro e w21 ⟨rfl, hb⟩; refine ⟨_, rfl, ?_⟩; have n0_ := Aside0.mk (below_step (by repeat (first | (with_reducible first | exact HB.out | apply below_alloc | apply pw_below_drewN | apply below_drew1) | exact HB.out)) hb); clear HB; have HB := n0_; clear n0_; (try clear hb); (try clear hb2); (try clear hk); (try clear hi)))
                go_ret
                exact ⟨by first | rfl | (simp [errW_none, errW_some] <;> rfl) | (simp [*, errW_none, errW_some] <;> rfl), by repeat (first | (with_reducible first | exact HB.out | apply below_alloc | apply pw_below_drewN | apply below_drew1) | exact HB.out)⟩
            · replace c9 := Bool.eq_false_iff.mpr c9
              subst c9
              have H1 : (some 130) = some r := by rw [if_neg (show ¬ (false = true) by decide)] at H; exact H
              clear H
              have H := H1
              clear H1
              obtain rfl := Option.some.inj H
              have p102 : 0 ≤ (a1 : Int) := of_decide_eq_true (by first | (with_reducible assumption) | assumption)
              have q102 : a1 < (l0.length : Int) := of_decide_eq_true (by first | (with_reducible assumption) | assumption)
              obtain ⟨ad102, A102_4, c102_4, e102, hx102_0, hx102_1, hx102_2, hx102_3, hx102_4, hl102_4, hi102_4⟩ := at_T24 HR0.out a1 p102 q102
              cases e102
              replace hx102_0 := (HB.out.cell (World.block_lt_of_cell? w _ hx102_0)).trans hx102_0
              replace hx102_1 := (HB.out.cell (World.block_lt_of_cell? w _ hx102_1)).trans hx102_1
              replace hx102_2 := (HB.out.cell (World.block_lt_of_cell? w _ hx102_2)).trans hx102_2
              replace hx102_3 := (HB.out.cell (World.block_lt_of_cell? w _ hx102_3)).trans hx102_3
              replace hx102_4 := (HB.out.cell (World.block_lt_of_cell? w _ hx102_4)).trans hx102_4
              have HR102_4 := Aside0.mk hi102_4
              have HC102_4 := Aside0.mk hl102_4
              clear hi102_4 hl102_4
              replace p102 := eq_true p102
              replace q102 := eq_true q102
              go_wp2_with (first | ((with_reducible refine gate_callee (f := 49) rfl ?_); refine goesL_ (some 19) rfl rfl Try.func49 (by kernel_rfl) rfl #[.agg #[.int .u8 ((rd_T24 l0 a1).f0), .int .u8 ((rd_T24 l0 a1).f1), .int .i64 ((rd_T24 l0 a1).f2), .int .i64 ((rd_T24 l0 a1).f3), .slice A102_4 ((rd_T24 l0 a1).f4).length c102_4]] rfl (by (try simp only [List.map_toArray, List.map_cons, List.map_nil]); first | done | rfl | (simp only [List.length_drop, List.length_take]; rfl)) ?_; (with_reducible refine (check_numbers.calls ((rd_T24 l0 a1).f0) ((rd_T24 l0 a1).f1) ((rd_T24 l0 a1).f2) ((rd_T24 l0 a1).f3) _ _ ((rd_T24 l0 a1).f4) false _ ?side1 ?side2 A8.out).mono ?_); (case side1 => repeat (first | exact (Kd.C_below HR102_4.out HB.out) | (with_reducible refine Kd.C_alloc ?_ _) | (with_reducible refine Kd.C_drewN ?_ _) | (with_reducible refine Kd.C_drew ?_))); (case side2 => exact HC102_4.out); rintro e w22 ⟨rfl, hb⟩; refine ⟨_, rfl, ?_⟩; have n0_ := Aside0.mk (below_step (by repeat (first | (with_reducible first | exact HB.out | apply below_alloc | apply pw_below_drewN | apply below_drew1) | exact HB.out)) hb); clear HB; have HB := n0_; clear n0_; (try clear hb); (try clear hb2); (try clear hk); (try clear hi)))
              go_ret
              exact ⟨by first | rfl | (simp [errW_none, errW_some] <;> rfl) | (simp [*, errW_none, errW_some] <;> rfl), by repeat (first | (with_reducible first | exact HB.out | apply below_alloc | apply pw_below_drewN | apply below_drew1) | exact HB.out)⟩
          · rw [if_neg c7] at H
            exact absurd H (by simp)
        · rw [if_neg c6] at H
          exact absurd H (by simp)
end Go.Proofs.Ytcihpjkjodhdpaa.X
namespace Go.Proofs.Ytcihpjkjodhdpaa.X
set_option linter.unusedVariables false
set_option linter.unusedSimpArgs false
open Go.RowKit Go.Proofs.YtcihpjkjodhdpaaW.PrintWords Go.Proofs.YtcihpjkjodhdpaaW.PrintLast Go.Proofs.YtcihpjkjodhdpaaW.PrintMore
theorem le_srt (l : List S36) : (srt l).Pairwise (fun x y => (!(ltOf cmpR) y x) = true) := by
  refine List.pairwise_mergeSort (le := fun x y => !(ltOf cmpR) y x) ?_ ?_ l
  · intro x y z h1 h2
    simp only [Bool.not_eq_true'] at *
    exact swoR.ntrans z y x h2 h1
  · intro x y
    rw [ltOf_cmpR, ltOf_cmpR]
    simp only [Bool.or_eq_true, Bool.not_eq_true', decide_eq_false_iff_not]
    omega
theorem srt_unique {l m : List S36} (h : m.Pairwise (fun x y => (!(ltOf cmpR) y x) = true)) (hp : m.Perm l) : m = srt l := by
  refine List.Perm.eq_of_pairwise (le := fun x y => (!(ltOf cmpR) y x) = true) ?_ h (le_srt l) (hp.trans (List.mergeSort_perm _ _).symm)
  intro x y _ _ h1 h2
  simp only [Bool.not_eq_true'] at h1 h2
  exact totR x y h2 h1
theorem srt_perm {l m : List S36} (h : l.Perm m) : srt l = srt m := srt_unique (le_srt l) ((List.mergeSort_perm _ _).trans h)
def firsts : List Int → List S36 → List Int
  | _, [] => []
  | seen, x :: r => if seen.contains x.f0 then firsts seen r else x.f0 :: firsts (seen ++ [x.f0]) r
theorem firsts_mem : ∀ (r : List S36) (seen : List Int) (k : Int), k ∈ firsts seen r ↔ (k ∈ r.map S36.f0 ∧ k ∉ seen)
  | [], seen, k => by simp [firsts]
  | x :: r, seen, k => by
    unfold firsts
    by_cases h : seen.contains x.f0 = true
    · rw [if_pos h, firsts_mem r seen k]
      have h' : x.f0 ∈ seen := by simpa using h
      constructor
      · rintro ⟨h1, h2⟩; exact ⟨by simp at h1 ⊢; right; exact h1, h2⟩
      · rintro ⟨h1, h2⟩
        simp at h1
        rcases h1 with h1 | h1
        · rw [h1] at h2; exact absurd h' h2
        · exact ⟨by simpa using h1, h2⟩
    · rw [if_neg h, List.mem_cons, firsts_mem r _ k]
      have h' : x.f0 ∉ seen := by simpa using h
      constructor
      · rintro (rfl | ⟨h1, h2⟩)
        · exact ⟨by simp, h'⟩
        · exact ⟨by simp at h1 ⊢; right; exact h1, fun e => h2 (by simp [e])⟩
      · rintro ⟨h1, h2⟩
        by_cases e : k = x.f0
        · left; exact e
        · right
          simp at h1
          rcases h1 with h1 | h1
          · exact absurd h1 e
          · exact ⟨by simpa using h1, by simp [h2, e]⟩
theorem firsts_nodup : ∀ (r : List S36) (seen : List Int), (firsts seen r).Nodup
  | [], seen => by simp [firsts]
  | x :: r, seen => by
    unfold firsts
    by_cases h : seen.contains x.f0 = true
    · rw [if_pos h]; exact firsts_nodup r seen
    · rw [if_neg h, List.nodup_cons]
      refine ⟨fun hm => ?_, firsts_nodup r _⟩
      exact ((firsts_mem r _ _).1 hm).2 (by simp)
def redL (a : Int) (l : List S36) : List S36 := (firsts [] l).map fun k => ⟨k, (redS a l k).getD 0⟩
theorem redFold_some (a : Int) : ∀ (r : List S36) (f : Int → Option Int) (k : Int), ((r.foldl (redStep a) f) k).isSome = ((f k).isSome || (r.map S36.f0).contains k)
  | [], f, k => by simp
  | x :: r, f, k => by
    rw [List.foldl_cons, redFold_some a r _ k]
    unfold redStep
    by_cases e : k = x.f0
    · simp [e]
    · have e2 : (k == x.f0) = false := beq_eq_false_iff_ne.2 e
      simp [e, e2]
theorem redS_some (a : Int) (l : List S36) (k : Int) : (redS a l k).isSome = (l.map S36.f0).contains k := by
  unfold redS
  rw [redFold_some]
  simp
theorem redL_nodup (a : Int) (l : List S36) : (redL a l).Nodup := by
  unfold redL
  rw [List.nodup_iff_pairwise_ne, List.pairwise_map]
  exact (firsts_nodup l []).imp (fun h e => h (by injection e))
theorem redL_mem (a : Int) (l : List S36) (x : S36) : x ∈ redL a l ↔ redS a l x.f0 = some x.f1 := by
  unfold redL
  rw [List.mem_map]
  constructor
  · rintro ⟨k, hk, rfl⟩
    have h := redS_some a l k
    rw [((List.contains_iff_mem).2 ((firsts_mem l [] k).1 hk).1)] at h
    obtain ⟨v, hv⟩ := Option.isSome_iff_exists.1 h
    simp [hv]
  · intro h
    have h2 := redS_some a l x.f0
    rw [h] at h2
    have h3 : x.f0 ∈ l.map S36.f0 := by
      rw [← List.contains_iff_mem, ← h2]; rfl
    exact ⟨x.f0, (firsts_mem l [] x.f0).2 ⟨h3, by simp⟩, by rw [h]; rfl⟩
theorem outIs_perm {a : Int} {l out : List S36} (h : OutIs (redS a l) (fun _ => false) out) : out.Perm (redL a l) := by
  have hn : out.Nodup := by
    have := h.1
    rw [List.nodup_iff_pairwise_ne, List.pairwise_map] at this
    rw [List.nodup_iff_pairwise_ne]
    exact this.imp (fun h e => h (by rw [e]))
  refine (List.perm_ext_iff_of_nodup hn (redL_nodup a l)).2 (fun x => ?_)
  rw [h.2 x, redL_mem]
  simp
theorem node_code (k a b : Int) : ∃ e, check_Node.f 1 [⟨k, a, b, 0, []⟩] 0 = some e ∧ (e = 130 ↔ numB k a b = false) := by
  unfold check_Node.f
  simp only [check_Node.j0, rd_T24, check_numbers.f, check_ports.f, check_depth.f]
  cases hn : numB k a b with
  | false => exact ⟨130, by simp [hn], by simp⟩
  | true =>
    cases hp : portsB [⟨k, a, b, 0, []⟩] k [] with
    | false => exact ⟨100, by simp [hn, hp], by simp⟩
    | true =>
      cases hd : depthB [⟨k, a, b, 0, []⟩] k 0 [] with
      | false => exact ⟨101, by simp [hn, hp, hd], by simp⟩
      | true => exact ⟨0, by simp [hn, hp, hd], by simp⟩
end Go.Proofs.Ytcihpjkjodhdpaa.X
namespace Go.Proofs.Ytcihpjkjodhdpaa.X
set_option linter.unusedVariables false
set_option linter.unusedSimpArgs false
open Go.RowKit Go.Proofs.YtcihpjkjodhdpaaW.PrintWords Go.Proofs.YtcihpjkjodhdpaaW.PrintLast Go.Proofs.YtcihpjkjodhdpaaW.PrintMore
def rm1 : Array MapEntry := #[⟨.int .u8 2, .func (.func 27) #[] #[], 0⟩]
def rm2 : Array MapEntry := #[⟨.int .u8 2, .func (.func 27) #[] #[], 0⟩, ⟨.int .u8 3, .func (.func 28) #[] #[], 1⟩]
def rm3 : Array MapEntry := #[⟨.int .u8 2, .func (.func 27) #[] #[], 0⟩, ⟨.int .u8 3, .func (.func 28) #[] #[], 1⟩, ⟨.int .u8 5, .func (.func 29) #[] #[], 2⟩]
def rm4 : Array MapEntry := #[⟨.int .u8 2, .func (.func 27) #[] #[], 0⟩, ⟨.int .u8 3, .func (.func 28) #[] #[], 1⟩, ⟨.int .u8 5, .func (.func 29) #[] #[], 2⟩, ⟨.int .u8 6, .func (.func 30) #[] #[], 3⟩]
theorem rins0 (W : World) : (Instr.mapUpdate 61 (.map (some W.heap.size)) (.int .u8 2) (.func (.func 27) #[] #[])).run Try.prog (W.alloc (.map #[] 0)) = .ok () (W.alloc (.map rm1 1)) := run_ins 61 5 60 Try.underlying61 Try.underlying5 W #[] 0 2 _ rfl
theorem rins1 (W : World) : (Instr.mapUpdate 61 (.map (some W.heap.size)) (.int .u8 3) (.func (.func 28) #[] #[])).run Try.prog (W.alloc (.map rm1 1)) = .ok () (W.alloc (.map rm2 2)) := run_ins 61 5 60 Try.underlying61 Try.underlying5 W rm1 1 3 _ rfl
theorem rins2 (W : World) : (Instr.mapUpdate 61 (.map (some W.heap.size)) (.int .u8 5) (.func (.func 29) #[] #[])).run Try.prog (W.alloc (.map rm2 2)) = .ok () (W.alloc (.map rm3 3)) := run_ins 61 5 60 Try.underlying61 Try.underlying5 W rm2 2 5 _ rfl
theorem rins3 (W : World) : (Instr.mapUpdate 61 (.map (some W.heap.size)) (.int .u8 6) (.func (.func 30) #[] #[])).run Try.prog (W.alloc (.map rm3 3)) = .ok () (W.alloc (.map rm4 4)) := run_ins 61 5 60 Try.underlying61 Try.underlying5 W rm3 3 6 _ rfl
theorem reads_node (W : World) (nd : S24) (h4 : nd.f4 = []) : Kd.C k24 (W.alloc (.cells #[.int .u8 nd.f0, .int .u8 nd.f1, .int .i64 nd.f2, .int .i64 nd.f3, .slice none 0 0] 24)) (some ⟨W.heap.size, 0, none⟩) ([nd] : List S24).length [nd] := by
  refine ⟨rfl, by simp, fun _ => ⟨_, rfl, fun j p hj => ?_⟩⟩
  match j, hj with
  | 0, hj =>
    simp at hj; subst hj
    obtain ⟨a, b, c, d, l⟩ := nd
    simp only at h4
    subst h4
    refine ⟨[.int .u8 a, .int .u8 b, .int .i64 c, .int .i64 d, .slice none 0 0], rfl, k24_mk _ ⟨a, b, c, d, []⟩ (A4 := none) (c4 := 0) (Nat.le_refl _) ⟨rfl, by simp, fun h => absurd h (by simp)⟩, fun i u hu => ?_⟩
    rw [add_plain]
    match i, hu with
    | 0, hu => simp at hu; subst hu; simp [go_sem]
    | 1, hu => simp at hu; subst hu; simp [go_sem]
    | 2, hu => simp at hu; subst hu; simp [go_sem]
    | 3, hu => simp at hu; subst hu; simp [go_sem]
    | 4, hu => simp at hu; subst hu; simp [go_sem]
    | i + 5, hu => simp at hu
  | j + 1, hj => simp at hj
def DoesRun (f : Nat) (k a b : Int) (A : Option Addr) (n c : Nat) (w : World) (Good : List S36 → Prop) : Prop :=
  ∀ W, Below w.heap.size w W → Calls Try.prog f #[.agg #[.int .u8 k, .int .u8 a, .int .i64 b, .int .i64 0, .slice none 0 0], .slice A n c] W fun e w' => ∃ v out, e = .returned v ∧ Kd.R k36 36 w' W.heap.size (fun _ => True) v out ∧ Below W.heap.size W w' ∧ Good out ∧ out.length ≤ 1000000
set_option maxHeartbeats 4000000 in
set_option maxRecDepth 100000 in
theorem run_bad (k a b d : Int) (A4 : Option Addr) (n4 c4 : Nat) (A : Option Addr) (n c : Nat) (w : World) (hn : numB k a b = false) :
    Calls Try.prog 12 #[.agg #[.int .u8 k, .int .u8 a, .int .i64 b, .int .i64 d, .slice A4 n4 c4], .slice A n c] w fun e w' => e = .returned (.tuple #[.slice none 0 0, .int .i64 130]) ∧ Below w.heap.size w w' := by
  obtain ⟨e, he, hiff⟩ := node_code k a b
  obtain rfl := hiff.2 hn
  have hB0 := below_alloc (Below.refl w.heap.size w) (.cells #[.int .u8 k, .int .u8 a, .int .i64 b, .int .i64 0, .slice none 0 0] 24)
  have hB1 := below_alloc hB0 (.cells #[.int .u8 k, .int .u8 a, .int .i64 b, .int .i64 0, .slice none 0 0] 24)
  have HC := Aside0.mk (check_Node.calls 1 (some ⟨w.heap.size + 1, 0, none⟩) 1 [⟨k, a, b, 0, []⟩] 0 130 _ (by simpa using reads_node (w.alloc (.cells #[.int .u8 k, .int .u8 a, .int .i64 b, .int .i64 0, .slice none 0 0] 24)) ⟨k, a, b, 0, []⟩ rfl) (by simp) he)
  have HB1 := Aside0.mk hB1
  clear he hiff hn hB0 hB1
  go_enter Try.func12, Try.ntmps12
  go_wp2_with (go_at_call 25; refine HC.out.mono ?_; rintro e w1 ⟨rfl, hb⟩; have HB2 := Aside0.mk (below_step HB1.out hb); clear hb)
  go_ret2
  exact ⟨rfl, HB2.out⟩
set_option maxHeartbeats 4000000 in
set_option maxRecDepth 100000 in
theorem run_ports (k a b d : Int) (A4 : Option Addr) (n4 c4 : Nat) (A : Option Addr) (n c : Nat) (w : World) (hn : numB k a b = true) (hp : (n : Int) ≠ arityI k) (hm : n ≤ 9223372036854775807) :
    Calls Try.prog 12 #[.agg #[.int .u8 k, .int .u8 a, .int .i64 b, .int .i64 d, .slice A4 n4 c4], .slice A n c] w fun e w' => e = .returned (.tuple #[.slice none 0 0, .int .i64 100]) ∧ Below w.heap.size w w' := by
  obtain ⟨e, he, hiff⟩ := node_code k a b
  have hne : ¬ e = 130 := fun h => by rw [hiff.1 h] at hn; cases hn
  have hB0 := below_alloc (Below.refl w.heap.size w) (.cells #[.int .u8 k, .int .u8 a, .int .i64 b, .int .i64 0, .slice none 0 0] 24)
  have hB1 := below_alloc hB0 (.cells #[.int .u8 k, .int .u8 a, .int .i64 b, .int .i64 0, .slice none 0 0] 24)
  have HC := Aside0.mk (check_Node.calls 1 (some ⟨w.heap.size + 1, 0, none⟩) 1 [⟨k, a, b, 0, []⟩] 0 e _ (by simpa using reads_node (w.alloc (.cells #[.int .u8 k, .int .u8 a, .int .i64 b, .int .i64 0, .slice none 0 0] 24)) ⟨k, a, b, 0, []⟩ rfl) (by simp) he)
  have HB1 := Aside0.mk hB1
  have HBX := Aside0.mk (blk_alloc (blk_new w (.cells #[.int .u8 k, .int .u8 a, .int .i64 b, .int .i64 0, .slice none 0 0] 24)) (.cells #[.int .u8 k, .int .u8 a, .int .i64 b, .int .i64 0, .slice none 0 0] 24))
  have ar : opers_arity.f k = some (arityI k) := by
    unfold opers_arity.f arityI
    by_cases h1 : k = 1 <;> by_cases h4 : k = 4 <;> by_cases h6 : k = 6 <;> simp [h1, h4, h6]
  have HA := Aside0.mk (fun W => opers_arity.calls k _ W ar)
  have b0 : (e == 130) = false := beq_eq_false_iff_ne.2 hne
  have b1 : ((n : Int) != arityI k) = true := bne_iff_ne.2 hp
  generalize arityI k = r at HA b1
  clear he hiff hn hne hB0 hB1 hp ar
  go_enter Try.func12, Try.ntmps12
  go_wp2_with (first | (go_at_call 25; refine HC.out.mono ?_; rintro e w1 ⟨rfl, hb⟩; have HB2 := Aside0.mk (below_step HB1.out hb); have p0 := (blk_cell (blk_below HBX.out hb) 0).trans rfl; clear hb) | (go_at_call 26; refine (HA.out _).mono ?_; rintro e w2 ⟨rfl, hd⟩; have HB3 := Aside0.mk (below_step HB2.out hd.below); clear hd))
  go_ret2
  exact ⟨rfl, HB3.out⟩
end Go.Proofs.Ytcihpjkjodhdpaa.X
namespace Go.Proofs.Ytcihpjkjodhdpaa.X
set_option linter.unusedVariables false
set_option linter.unusedSimpArgs false
open Go.RowKit Go.Proofs.YtcihpjkjodhdpaaW.PrintWords Go.Proofs.YtcihpjkjodhdpaaW.PrintLast Go.Proofs.YtcihpjkjodhdpaaW.PrintMore
set_option maxHeartbeats 4000000 in
set_option maxRecDepth 100000 in
theorem run_hit (k a b d : Int) (A4 : Option Addr) (n4 c4 : Nat) (A : Option Addr) (n c : Nat) (w : World) (f i : Nat) (hf : Instr.findNow (.int .u8) (.int .u8 k) rm4.toList 0 = some (some (i, .func (.func f) #[] #[])))
    (eg : ∀ args w, (callFunc f args).run Try.prog w = .ok (.enter f args) w) (Good : List S36 → Prop) (hn : numB k a b = true) (hp : (n : Int) = arityI k) (hm : n ≤ 9223372036854775807) (hD : DoesRun f k a b A n c w Good) :
    Calls Try.prog 12 #[.agg #[.int .u8 k, .int .u8 a, .int .i64 b, .int .i64 d, .slice A4 n4 c4], .slice A n c] w fun e w' => ∃ v out, e = .returned (.tuple #[v, .int .i64 0]) ∧ Kd.R k36 36 w' w.heap.size (fun _ => True) v (srt out) ∧ Good out ∧ Below w.heap.size w w' := by
  have hlk : ∀ W : World, (Instr.lookup 61 (.map (some W.heap.size)) (.int .u8 k) true).run Try.prog (W.alloc (.map rm4 4)) = .ok (.tuple #[.func (.func f) #[] #[], .bool true]) (W.alloc (.map rm4 4)) := fun W =>
    run_find 61 5 60 Try.underlying61 Try.underlying5 _ _ rm4 4 k _ i (heap_alloc_last W (.map rm4 4)) hf
  obtain ⟨e, he, hiff⟩ := node_code k a b
  have hne : ¬ e = 130 := fun h => by rw [hiff.1 h] at hn; cases hn
  have hB0 := below_alloc (Below.refl w.heap.size w) (.cells #[.int .u8 k, .int .u8 a, .int .i64 b, .int .i64 0, .slice none 0 0] 24)
  have hB1 := below_alloc hB0 (.cells #[.int .u8 k, .int .u8 a, .int .i64 b, .int .i64 0, .slice none 0 0] 24)
  have HC := Aside0.mk (check_Node.calls 1 (some ⟨w.heap.size + 1, 0, none⟩) 1 [⟨k, a, b, 0, []⟩] 0 e _ (by simpa using reads_node (w.alloc (.cells #[.int .u8 k, .int .u8 a, .int .i64 b, .int .i64 0, .slice none 0 0] 24)) ⟨k, a, b, 0, []⟩ rfl) (by simp) he)
  have HB1 := Aside0.mk hB1
  have HBX := Aside0.mk (blk_alloc (blk_new w (.cells #[.int .u8 k, .int .u8 a, .int .i64 b, .int .i64 0, .slice none 0 0] 24)) (.cells #[.int .u8 k, .int .u8 a, .int .i64 b, .int .i64 0, .slice none 0 0] 24))
  have ar : opers_arity.f k = some (arityI k) := by
    unfold opers_arity.f arityI
    by_cases h1 : k = 1 <;> by_cases h4 : k = 4 <;> by_cases h6 : k = 6 <;> simp [h1, h4, h6]
  have HA := Aside0.mk (fun W => opers_arity.calls k _ W ar)
  have b0 : (e == 130) = false := beq_eq_false_iff_ne.2 hne
  have b1 : ((n : Int) != arityI k) = false := by simpa using hp
  generalize arityI k = r at HA b1
  have HD := Aside0.mk hD
  have mk := @run_makeMap Try.prog
  have HLK := Aside0.mk (fun W : World => hlk W)
  clear he hiff hn hne hB0 hB1 hp ar hD hlk hf
  go_enter Try.func12, Try.ntmps12
  go_wp2_with (first | (go_at_call 25; refine HC.out.mono ?_; rintro e w1 ⟨rfl, hb⟩; have HB2 := Aside0.mk (below_step HB1.out hb); have HBX2 := Aside0.mk (blk_below HBX.out hb); have p0 := (blk_cell HBX2.out 0).trans rfl; clear hb) | (go_at_call 26; refine (HA.out _).mono ?_; rintro e w2 ⟨rfl, hd⟩; have HB3 := Aside0.mk (below_step HB2.out hd.below); have HBX3 := Aside0.mk (blk_below HBX2.out hd.below); clear hd; have m0 := rins0 w2; have m1 := rins1 w2; have m2 := rins2 w2; have m3 := rins3 w2; have lk := HLK.out w2; have HBX4 := Aside0.mk (blk_alloc HBX3.out (.map rm4 4)); have HB4 := Aside0.mk (below_alloc HB3.out (.map rm4 4)); have q0 := (blk_cell HBX4.out 0).trans rfl; have q1 := (blk_cell HBX4.out 1).trans rfl; have q2 := (blk_cell HBX4.out 2).trans rfl; have q3 := (blk_cell HBX4.out 3).trans rfl; have q4 := (blk_cell HBX4.out 4).trans rfl) | (go_at_fn f; refine (HD.out _ HB4.out).mono ?_; rintro e w3 ⟨v, out, rfl, ho, hb, hgd, hol⟩; obtain ⟨Av, cv, rfl, hlc, hrc⟩ := Kd.R_reads ho; have HB5 := Aside0.mk (below_step HB4.out hb); have HS := Aside0.mk (sorted_calls Av cv out w3 hrc hlc hol); have HGD := Aside0.mk hgd; have HOL := Aside0.mk hol; have hol9 : out.length ≤ 9223372036854775807 := by { omega }; clear ho hb hgd hrc hol) | (go_at_call 32; refine HS.out.mono ?_; rintro e w4 ⟨v4, rfl, ho, hb⟩; have HO := Aside0.mk (Kd.R_lower ho HB5.out.size); have HB6 := Aside0.mk (below_step HB5.out hb); clear ho hb))
  go_ret2
  exact ⟨_, _, rfl, HO.out, HGD.out, HB6.out⟩
set_option maxHeartbeats 4000000 in
set_option maxRecDepth 100000 in
theorem run_else (k a b d : Int) (A4 : Option Addr) (n4 c4 : Nat) (A : Option Addr) (n c : Nat) (w : World) (hf : Instr.findNow (.int .u8) (.int .u8 k) rm4.toList 0 = some none)
    (Good : List S36 → Prop) (hn : numB k a b = true) (hp : (n : Int) = arityI k) (hm : n ≤ 9223372036854775807) (hD : DoesRun 31 k a b A n c w Good) :
    Calls Try.prog 12 #[.agg #[.int .u8 k, .int .u8 a, .int .i64 b, .int .i64 d, .slice A4 n4 c4], .slice A n c] w fun e w' => ∃ v out, e = .returned (.tuple #[v, .int .i64 0]) ∧ Kd.R k36 36 w' w.heap.size (fun _ => True) v (srt out) ∧ Good out ∧ Below w.heap.size w w' := by
  have hz : ∀ W, (zeroValue 60).run Try.prog W = .ok .nilFunc W := fun _ => by kernel_rfl
  have hlk : ∀ W : World, (Instr.lookup 61 (.map (some W.heap.size)) (.int .u8 k) true).run Try.prog (W.alloc (.map rm4 4)) = .ok (.tuple #[.nilFunc, .bool false]) (W.alloc (.map rm4 4)) := fun W =>
    run_miss 61 5 60 Try.underlying61 Try.underlying5 _ _ rm4 4 k .nilFunc (hz _) (heap_alloc_last W (.map rm4 4)) hf
  have eg : ∀ args w, (callFunc 31 args).run Try.prog w = .ok (.enter 31 args) w := enters_of Try.func31 (by kernel_rfl) rfl
  obtain ⟨e, he, hiff⟩ := node_code k a b
  have hne : ¬ e = 130 := fun h => by rw [hiff.1 h] at hn; cases hn
  have hB0 := below_alloc (Below.refl w.heap.size w) (.cells #[.int .u8 k, .int .u8 a, .int .i64 b, .int .i64 0, .slice none 0 0] 24)
  have hB1 := below_alloc hB0 (.cells #[.int .u8 k, .int .u8 a, .int .i64 b, .int .i64 0, .slice none 0 0] 24)
  have HC := Aside0.mk (check_Node.calls 1 (some ⟨w.heap.size + 1, 0, none⟩) 1 [⟨k, a, b, 0, []⟩] 0 e _ (by simpa using reads_node (w.alloc (.cells #[.int .u8 k, .int .u8 a, .int .i64 b, .int .i64 0, .slice none 0 0] 24)) ⟨k, a, b, 0, []⟩ rfl) (by simp) he)
  have HB1 := Aside0.mk hB1
  have HBX := Aside0.mk (blk_alloc (blk_new w (.cells #[.int .u8 k, .int .u8 a, .int .i64 b, .int .i64 0, .slice none 0 0] 24)) (.cells #[.int .u8 k, .int .u8 a, .int .i64 b, .int .i64 0, .slice none 0 0] 24))
  have ar : opers_arity.f k = some (arityI k) := by
    unfold opers_arity.f arityI
    by_cases h1 : k = 1 <;> by_cases h4 : k = 4 <;> by_cases h6 : k = 6 <;> simp [h1, h4, h6]
  have HA := Aside0.mk (fun W => opers_arity.calls k _ W ar)
  have b0 : (e == 130) = false := beq_eq_false_iff_ne.2 hne
  have b1 : ((n : Int) != arityI k) = false := by simpa using hp
  generalize arityI k = r at HA b1
  have HD := Aside0.mk hD
  have mk := @run_makeMap Try.prog
  have HLK := Aside0.mk (fun W : World => hlk W)
  clear he hiff hn hne hB0 hB1 hp ar hD hlk hf hz
  go_enter Try.func12, Try.ntmps12
  go_wp2_with (first | (go_at_call 25; refine HC.out.mono ?_; rintro e w1 ⟨rfl, hb⟩; have HB2 := Aside0.mk (below_step HB1.out hb); have HBX2 := Aside0.mk (blk_below HBX.out hb); have p0 := (blk_cell HBX2.out 0).trans rfl; clear hb) | (go_at_call 26; refine (HA.out _).mono ?_; rintro e w2 ⟨rfl, hd⟩; have HB3 := Aside0.mk (below_step HB2.out hd.below); have HBX3 := Aside0.mk (blk_below HBX2.out hd.below); clear hd; have m0 := rins0 w2; have m1 := rins1 w2; have m2 := rins2 w2; have m3 := rins3 w2; have lk := HLK.out w2; have HBX4 := Aside0.mk (blk_alloc HBX3.out (.map rm4 4)); have HB4 := Aside0.mk (below_alloc HB3.out (.map rm4 4)); have q0 := (blk_cell HBX4.out 0).trans rfl; have q1 := (blk_cell HBX4.out 1).trans rfl; have q2 := (blk_cell HBX4.out 2).trans rfl; have q3 := (blk_cell HBX4.out 3).trans rfl; have q4 := (blk_cell HBX4.out 4).trans rfl) | (go_at_fn 31; refine (HD.out _ HB4.out).mono ?_; rintro e w3 ⟨v, out, rfl, ho, hb, hgd, hol⟩; obtain ⟨Av, cv, rfl, hlc, hrc⟩ := Kd.R_reads ho; have HB5 := Aside0.mk (below_step HB4.out hb); have HS := Aside0.mk (sorted_calls Av cv out w3 hrc hlc hol); have HGD := Aside0.mk hgd; have HOL := Aside0.mk hol; have hol9 : out.length ≤ 9223372036854775807 := by { omega }; clear ho hb hgd hrc hol) | (go_at_call 32; refine HS.out.mono ?_; rintro e w4 ⟨v4, rfl, ho, hb⟩; have HO := Aside0.mk (Kd.R_lower ho HB5.out.size); have HB6 := Aside0.mk (below_step HB5.out hb); clear ho hb))
  go_ret2
  exact ⟨_, _, rfl, HO.out, HGD.out, HB6.out⟩
end Go.Proofs.Ytcihpjkjodhdpaa.X
namespace Go.Proofs.Ytcihpjkjodhdpaa.X
set_option linter.unusedVariables false
set_option linter.unusedSimpArgs false
open Go.RowKit Go.Proofs.YtcihpjkjodhdpaaW.PrintWords Go.Proofs.YtcihpjkjodhdpaaW.PrintLast Go.Proofs.YtcihpjkjodhdpaaW.PrintMore
set_option maxHeartbeats 4000000 in
theorem maps_calls (a0 a1 a2 a3 : Int) (A4 : Option Addr) (n4 c4 : Nat) (A : Option Addr) (c : Nat) (l : List (List S36)) (w : World) (hr : Kd.C (Kd.slice 36 k36) w A l.length l) (h1 : 1 ≤ l.length) (hl : (rd_L2 l 0).length ≤ 1000000)
    (hz : a1 = 0 ∨ a1 = 1 ∨ a1 = 2 ∨ a2 ≠ 0) :
    Calls Try.prog 27 #[.agg #[.int .u8 a0, .int .u8 a1, .int .i64 a2, .int .i64 a3, .slice A4 n4 c4], .slice A l.length c] w fun e w' => ∃ v, e = .returned v ∧ Kd.R k36 36 w' w.heap.size (fun _ => True) v ((rd_L2 l 0).map (mapF a1 a2)) ∧ Below w.heap.size w w' := by
  have HLEN : l.length ≤ 9223372036854775807 := hr.2.1
  obtain ⟨ad, A0, c0, eA, q0, hc0, hr0⟩ := at_L2 hr 0 (by omega) (by omega)
  subst eA
  simp only [Int.toNat_zero] at q0
  have e0 : ad.add 0 = ad := by simp [Addr.add]
  rw [e0] at q0
  clear e0
  have h1z : (0 : Int) < (l.length : Int) := by omega
  generalize rd_L2 l 0 = x at q0 hc0 hr0 hl
  have hHB := Aside0.mk (Below.refl w.heap.size w)
  have e : x.map (mapF a1 a2) = outL (fun y => (mapF a1 a2 y, true)) x := by
    unfold outL
    simp [List.filterMap_eq_map']
  have eg := enters_of Try.func53 (by kernel_rfl) rfl
  have HC := Aside0.mk (fun W (hB : Below w.heap.size w W) (hb : W.heap[w.heap.size]? = some (.cells #[.int .u8 a0, .int .u8 a1, .int .i64 a2, .int .i64 a3, .slice A4 n4 c4] 24 (0, 0))) =>
    each_calls A0 c0 x 53 #[.pointer (some ⟨w.heap.size, 0, none⟩)] (fun y => (mapF a1 a2 y, true)) eg W (Kd.C_below hr0 hB) hl fun j y hj W2 hB2 => maps_1_calls a0 a1 a2 a3 A4 c4 n4 y w.heap.size W2 ((hB2.block _ (Array.getElem?_eq_some_iff.1 hb).1).trans hb) hz)
  rw [e]
  have q1 := ((below_alloc hHB.out (.cells #[.int .u8 a0, .int .u8 a1, .int .i64 a2, .int .i64 a3, .slice A4 n4 c4] 24)).cell (World.block_lt_of_cell? w _ q0)).trans q0
  clear hr hr0 hz e eg q0
  go_enter Try.func27, Try.ntmps27
  go_wp2_with (go_at_call 52; refine (HC.out _ (below_alloc hHB.out _) (by simpa using heap_alloc_last w _)).mono ?_; rintro e w' ⟨v, rfl, ho, hb⟩; have HO := Aside0.mk ho; have HB := Aside0.mk hb; clear ho hb)
  go_ret
  exact ⟨_, rfl, Kd.R_lower HO.out (by simp), below_step (below_alloc hHB.out _) HB.out⟩
end Go.Proofs.Ytcihpjkjodhdpaa.X
namespace Go.Proofs.Ytcihpjkjodhdpaa.X
set_option linter.unusedVariables false
set_option linter.unusedSimpArgs false
open Go.RowKit Go.Proofs.YtcihpjkjodhdpaaW.PrintWords Go.Proofs.YtcihpjkjodhdpaaW.PrintLast Go.Proofs.YtcihpjkjodhdpaaW.PrintMore
def filtF (a b : Int) (x : S36) : Bool := if a = 0 then decide (x.f1 < b) else if a = 1 then Int.tmod x.f1 b == 0 else decide (x.f0 < b)
def filt.T3 : Bool × List (List Nat × List Nat) := (true, [([], []), ([], []), ([1], [1]), ([], []), ([3], [3]), ([2, 4], [2, 4]), ([0, 0], [0]), ([5, 6, 0, 1, 2, 3, 4, 5, 6], [5])])
def filt.B3 : List Nat := [0, 0, 2, 0, 8, 30, 1, 127]
theorem filt.tab3 : rtab .any (opsOf Try.f54 3) = filt.T3 := by kernel_rfl
theorem filt.bits3 : waitsOk filt.T3.2 filt.B3 = true := by kernel_rfl
def filt.T5 : Bool × List (List Nat × List Nat) := (true, [([], []), ([], []), ([1], [1]), ([], []), ([3], [3]), ([2, 4], [2, 4]), ([5], [5]), ([0, 0], [0]), ([6, 7, 0, 1, 2, 3, 4, 5, 6, 7], [6])])
def filt.B5 : List Nat := [0, 0, 2, 0, 8, 30, 62, 1, 255]
theorem filt.tab5 : rtab .any (opsOf Try.f54 5) = filt.T5 := by kernel_rfl
theorem filt.bits5 : waitsOk filt.T5.2 filt.B5 = true := by kernel_rfl
def filt.T6 : Bool × List (List Nat × List Nat) := (true, [([], []), ([], []), ([1], [1]), ([], []), ([3], [3]), ([2, 4], [2, 4]), ([0, 0], [0]), ([5, 6, 0, 1, 2, 3, 4, 5, 6], [5])])
def filt.B6 : List Nat := [0, 0, 2, 0, 8, 30, 1, 127]
theorem filt.tab6 : rtab .any (opsOf Try.f54 6) = filt.T6 := by kernel_rfl
theorem filt.bits6 : waitsOk filt.T6.2 filt.B6 = true := by kernel_rfl
set_option maxHeartbeats 4000000 in
set_option maxRecDepth 100000 in
theorem filters_1_calls (a0 a1 a2 a3 : Int) (A : Option Addr) (c n : Nat) (x : S36) (gb : Nat) (w : World) (hb : w.heap[gb]? = some (.cells #[.int .u8 a0, .int .u8 a1, .int .i64 a2, .int .i64 a3, .slice A n c] 24 (0, 0))) (hz : a1 = 1 → a2 ≠ 0) :
    Calls Try.prog 54 #[recV x, .pointer (some ⟨gb, 0, none⟩)] w fun e w' => e = .returned (.tuple #[recV x, .bool (filtF a1 a2 x)]) ∧ Below w.heap.size w w' := by
  have hlt : gb < w.heap.size := (Array.getElem?_eq_some_iff.1 hb).1
  have c1 : w.cell? ⟨gb, 1, none⟩ = some (.int .u8 a1) := by simp [World.cell?, hb]
  have c2 : w.cell? ⟨gb, 2, none⟩ = some (.int .i64 a2) := by simp [World.cell?, hb]
  obtain ⟨x0, x1⟩ := x
  unfold recV
  have hS0 : (fun W => W.cell? ⟨w.heap.size, 0, none⟩ = some (.int .i64 x0) ∧ W.cell? ⟨w.heap.size, 1, none⟩ = some (.int .i64 x1) ∧ W.cell? ⟨gb, 2, none⟩ = some (.int .i64 a2) ∧ Below w.heap.size w W) (((w.alloc (.cells #[.int .i64 x0, .int .i64 x1] 36)).alloc (.cells #[.int .i64 0, .int .i64 0] 36)).drew) := by
    have hB : Below w.heap.size w ((w.alloc (.cells #[.int .i64 x0, .int .i64 x1] 36)).alloc (.cells #[.int .i64 0, .int .i64 0] 36)).drew := (below_alloc (below_alloc (Below.refl _ _) _) _).drew
    exact ⟨by go_simp, by go_simp, (pw_cell_below hB c2), hB⟩
  have hbk : (((w.alloc (.cells #[.int .i64 x0, .int .i64 x1] 36)).alloc (.cells #[.int .i64 0, .int .i64 0] 36)).drew).heap[w.heap.size + 1]? = some (.cells #[.int .i64 0, .int .i64 0] 36 (0, 0)) :=
    blk_drew (by simpa using heap_alloc_last (w.alloc (.cells #[.int .i64 x0, .int .i64 x1] 36)) (.cells #[.int .i64 0, .int .i64 0] 36))
  clear hb
  by_cases k0 : a1 = 0
  · subst k0
    have HF := Aside0.mk (show filtF 0 a2 ⟨x0, x1⟩ = decide (x1 < a2) by simp [filtF])
    go_enter Try.func54, Try.ntmps54
    go_wp2
    refine start_ (n := 8) (S := fun W => W.cell? ⟨w.heap.size, 0, none⟩ = some (.int .i64 x0) ∧ W.cell? ⟨w.heap.size, 1, none⟩ = some (.int .i64 x1) ∧ W.cell? ⟨gb, 2, none⟩ = some (.int .i64 a2) ∧ Below w.heap.size w W) (ds := []) #[false, false, false, false, false, false, false, false] (by kernel_rfl) rfl rfl hS0 (fun hHeld => ?_)
    refine with_tabW filt.tab3 filt.bits3 (fun HT_ HW_ => ?_)
    clear hS0
    generalize World.drew _ = w0 at hHeld hbk ⊢
    refine take_ (i := 0) (N := (some 9)) (v := ?_) (a' := ?_) #[true, false, false, false, false, false, false, false] rfl rfl (take_ofW HT_.out HW_.out (by kernel_rfl)) (fun _ _ _ h => h) (Or.inl ⟨by rfl, ?_⟩) hHeld ?_ ?_
    rotate_left
    · rintro w' ⟨sx0, sx1, sx2, sx3⟩
      go_simp
      (try with_reducible rfl)
    rotate_left
    · simp only [Act.put, List.setIfInBounds_toArray, List.set_cons_zero, List.set_cons_succ, i64_w, i32_w]
      rfl
    refine pure_ (i := 1) (N := (some 10)) (v := ?_) (a' := ?_) #[true, true, false, false, false, false, false, false] rfl rfl (any_of HT_.out (by kernel_rfl)) (fun _ _ _ h => h) (Or.inl ⟨by rfl, ?_⟩) ?_ ?_
    rotate_left
    · intro w'
      go_simp
      (try with_reducible rfl)
    rotate_left
    · simp only [Act.put, List.setIfInBounds_toArray, List.set_cons_zero, List.set_cons_succ, i64_w, i32_w]
      rfl
    refine take_ (i := 2) (N := (some 11)) (v := ?_) (a' := ?_) #[true, true, true, false, false, false, false, false] rfl rfl (take_ofW HT_.out HW_.out (by kernel_rfl)) (fun _ _ _ h => h) (Or.inl ⟨by rfl, ?_⟩) hHeld ?_ ?_
    rotate_left
    · rintro w' ⟨sx0, sx1, sx2, sx3⟩
      go_simp
      (try with_reducible rfl)
    rotate_left
    · simp only [Act.put, List.setIfInBounds_toArray, List.set_cons_zero, List.set_cons_succ, i64_w, i32_w]
      rfl
    refine pure_ (i := 3) (N := (some 12)) (v := ?_) (a' := ?_) #[true, true, true, true, false, false, false, false] rfl rfl (any_of HT_.out (by kernel_rfl)) (fun _ _ _ h => h) (Or.inl ⟨by rfl, ?_⟩) ?_ ?_
    rotate_left
    · intro w'
      go_simp
      (try with_reducible rfl)
    rotate_left
    · simp only [Act.put, List.setIfInBounds_toArray, List.set_cons_zero, List.set_cons_succ, i64_w, i32_w]
      rfl
    refine take_ (i := 4) (N := (some 13)) (v := ?_) (a' := ?_) #[true, true, true, true, true, false, false, false] rfl rfl (take_ofW HT_.out HW_.out (by kernel_rfl)) (fun _ _ _ h => h) (Or.inl ⟨by rfl, ?_⟩) hHeld ?_ ?_
    rotate_left
    · rintro w' ⟨sx0, sx1, sx2, sx3⟩
      go_simp
      (try with_reducible rfl)
    rotate_left
    · simp only [Act.put, List.setIfInBounds_toArray, List.set_cons_zero, List.set_cons_succ, i64_w, i32_w]
      rfl
    refine pure_ (i := 5) (N := (some 14)) (v := ?_) (a' := ?_) #[true, true, true, true, true, true, false, false] rfl rfl (any_of HT_.out (by kernel_rfl)) (fun _ _ _ h => h) (Or.inl ⟨by rfl, ?_⟩) ?_ ?_
    rotate_left
    · intro w'
      go_simp
      (try with_reducible rfl)
    rotate_left
    · simp only [Act.put, List.setIfInBounds_toArray, List.set_cons_zero, List.set_cons_succ, i64_w, i32_w]
      rfl
    refine one_ (i := 6) (N := none) #[true, true, true, true, true, true, true, false] rfl rfl (one_of HT_.out (by kernel_rfl)) (by decide) (fun K hK => ?_)
    obtain ⟨q0_, q1_, q2_, hBX⟩ := hHeld
    have tc0 := (blk_cell hbk 0).trans rfl
    have tc1 := (blk_cell hbk 1).trans rfl
    have tf0 := blk_frozen hbk 0
    have tf1 := blk_frozen hbk 1
    refine skip_ (w1 := ?_) (by rfl) rfl ?_ ?_
    rotate_left
    · go_simp
      rfl
    refine hK.out _ _ ⟨(cell_far (by simp) _).trans ((cell_far (by simp) _).trans q0_), (cell_far (by simp) _).trans ((cell_far (by simp) _).trans q1_), (cell_far (by simp; omega) _).trans ((cell_far (by simp; omega) _).trans q2_), below_set (below_set hBX (by simp)) (by simp)⟩ (fun hHeld => ?_)
    clear hK K
    refine pure_ (i := 7) (N := (some 4)) (v := ?_) (a' := ?_) #[true, true, true, true, true, true, true, true] rfl rfl (any_of HT_.out (by kernel_rfl)) (fun _ _ _ h => h) (Or.inl ⟨by rfl, ?_⟩) ?_ ?_
    rotate_left
    · intro w'
      go_simp
      (try with_reducible rfl)
    rotate_left
    · simp only [Act.put, List.setIfInBounds_toArray, List.set_cons_zero, List.set_cons_succ, i64_w, i32_w]
      rfl
    refine done_ (done_of HT_.out (by kernel_rfl)) ?_
    go_wp2
    refine bodyPost_ret (results_ct rfl _ _ (w.heap.size + 1) 36 #[.int .i64 x0, .int .i64 x1] (0, 0) _ rfl (by rw [blk_set (blk_set hbk 0 (.int .i64 x0)) 1 (.int .i64 x1)]; rfl) Try.underlying36 rfl (by kernel_rfl)) rfl ?_
    exact ⟨by rw [HF.out]; rfl, hHeld.2.2.2⟩
  by_cases k1 : a1 = 1
  · subst k1
    have hz2 := hz rfl
    have HF := Aside0.mk (show filtF 1 a2 ⟨x0, x1⟩ = (Int.tmod x1 a2 == 0) by simp [filtF])
    go_enter Try.func54, Try.ntmps54
    go_wp2
    refine start_ (n := 9) (S := fun W => W.cell? ⟨w.heap.size, 0, none⟩ = some (.int .i64 x0) ∧ W.cell? ⟨w.heap.size, 1, none⟩ = some (.int .i64 x1) ∧ W.cell? ⟨gb, 2, none⟩ = some (.int .i64 a2) ∧ Below w.heap.size w W) (ds := []) #[false, false, false, false, false, false, false, false, false] (by kernel_rfl) rfl rfl hS0 (fun hHeld => ?_)
    refine with_tabW filt.tab5 filt.bits5 (fun HT_ HW_ => ?_)
    clear hS0
    generalize World.drew _ = w0 at hHeld hbk ⊢
    refine take_ (i := 0) (N := (some 17)) (v := ?_) (a' := ?_) #[true, false, false, false, false, false, false, false, false] rfl rfl (take_ofW HT_.out HW_.out (by kernel_rfl)) (fun _ _ _ h => h) (Or.inl ⟨by rfl, ?_⟩) hHeld ?_ ?_
    rotate_left
    · rintro w' ⟨sx0, sx1, sx2, sx3⟩
      go_simp
      (try with_reducible rfl)
    rotate_left
    · simp only [Act.put, List.setIfInBounds_toArray, List.set_cons_zero, List.set_cons_succ, i64_w, i32_w]
      rfl
    refine pure_ (i := 1) (N := (some 18)) (v := ?_) (a' := ?_) #[true, true, false, false, false, false, false, false, false] rfl rfl (any_of HT_.out (by kernel_rfl)) (fun _ _ _ h => h) (Or.inl ⟨by rfl, ?_⟩) ?_ ?_
    rotate_left
    · intro w'
      go_simp
      (try with_reducible rfl)
    rotate_left
    · simp only [Act.put, List.setIfInBounds_toArray, List.set_cons_zero, List.set_cons_succ, i64_w, i32_w]
      rfl
    refine take_ (i := 2) (N := (some 19)) (v := ?_) (a' := ?_) #[true, true, true, false, false, false, false, false, false] rfl rfl (take_ofW HT_.out HW_.out (by kernel_rfl)) (fun _ _ _ h => h) (Or.inl ⟨by rfl, ?_⟩) hHeld ?_ ?_
    rotate_left
    · rintro w' ⟨sx0, sx1, sx2, sx3⟩
      go_simp
      (try with_reducible rfl)
    rotate_left
    · simp only [Act.put, List.setIfInBounds_toArray, List.set_cons_zero, List.set_cons_succ, i64_w, i32_w]
      rfl
    refine pure_ (i := 3) (N := (some 20)) (v := ?_) (a' := ?_) #[true, true, true, true, false, false, false, false, false] rfl rfl (any_of HT_.out (by kernel_rfl)) (fun _ _ _ h => h) (Or.inl ⟨by rfl, ?_⟩) ?_ ?_
    rotate_left
    · intro w'
      go_simp
      (try with_reducible rfl)
    rotate_left
    · simp only [Act.put, List.setIfInBounds_toArray, List.set_cons_zero, List.set_cons_succ, i64_w, i32_w]
      rfl
    refine take_ (i := 4) (N := (some 21)) (v := ?_) (a' := ?_) #[true, true, true, true, true, false, false, false, false] rfl rfl (take_ofW HT_.out HW_.out (by kernel_rfl)) (fun _ _ _ h => h) (Or.inl ⟨by rfl, ?_⟩) hHeld ?_ ?_
    rotate_left
    · rintro w' ⟨sx0, sx1, sx2, sx3⟩
      go_simp
      (try with_reducible rfl)
    rotate_left
    · simp only [Act.put, List.setIfInBounds_toArray, List.set_cons_zero, List.set_cons_succ, i64_w, i32_w]
      rfl
    refine pure_ (i := 5) (N := (some 22)) (v := ?_) (a' := ?_) #[true, true, true, true, true, true, false, false, false] rfl rfl (any_of HT_.out (by kernel_rfl)) (fun _ _ _ h => h) (Or.inl ⟨by rfl, ?_⟩) ?_ ?_
    rotate_left
    · intro w'
      go_simp
      (try with_reducible rfl)
    rotate_left
    · simp only [Act.put, List.setIfInBounds_toArray, List.set_cons_zero, List.set_cons_succ, i64_w, i32_w]
      rfl
    refine pure_ (i := 6) (N := (some 23)) (v := ?_) (a' := ?_) #[true, true, true, true, true, true, true, false, false] rfl rfl (any_of HT_.out (by kernel_rfl)) (fun _ _ _ h => h) (Or.inl ⟨by rfl, ?_⟩) ?_ ?_
    rotate_left
    · intro w'
      go_simp
      (try with_reducible rfl)
    rotate_left
    · simp only [Act.put, List.setIfInBounds_toArray, List.set_cons_zero, List.set_cons_succ, i64_w, i32_w]
      rfl
    refine one_ (i := 7) (N := none) #[true, true, true, true, true, true, true, true, false] rfl rfl (one_of HT_.out (by kernel_rfl)) (by decide) (fun K hK => ?_)
    obtain ⟨q0_, q1_, q2_, hBX⟩ := hHeld
    have tc0 := (blk_cell hbk 0).trans rfl
    have tc1 := (blk_cell hbk 1).trans rfl
    have tf0 := blk_frozen hbk 0
    have tf1 := blk_frozen hbk 1
    refine skip_ (w1 := ?_) (by rfl) rfl ?_ ?_
    rotate_left
    · go_simp
      rfl
    refine hK.out _ _ ⟨(cell_far (by simp) _).trans ((cell_far (by simp) _).trans q0_), (cell_far (by simp) _).trans ((cell_far (by simp) _).trans q1_), (cell_far (by simp; omega) _).trans ((cell_far (by simp; omega) _).trans q2_), below_set (below_set hBX (by simp)) (by simp)⟩ (fun hHeld => ?_)
    clear hK K
    refine pure_ (i := 8) (N := (some 4)) (v := ?_) (a' := ?_) #[true, true, true, true, true, true, true, true, true] rfl rfl (any_of HT_.out (by kernel_rfl)) (fun _ _ _ h => h) (Or.inl ⟨by rfl, ?_⟩) ?_ ?_
    rotate_left
    · intro w'
      go_simp
      (try with_reducible rfl)
    rotate_left
    · simp only [Act.put, List.setIfInBounds_toArray, List.set_cons_zero, List.set_cons_succ, i64_w, i32_w]
      rfl
    refine done_ (done_of HT_.out (by kernel_rfl)) ?_
    go_wp2
    refine bodyPost_ret (results_ct rfl _ _ (w.heap.size + 1) 36 #[.int .i64 x0, .int .i64 x1] (0, 0) _ rfl (by rw [blk_set (blk_set hbk 0 (.int .i64 x0)) 1 (.int .i64 x1)]; rfl) Try.underlying36 rfl (by kernel_rfl)) rfl ?_
    exact ⟨by rw [HF.out]; rfl, hHeld.2.2.2⟩
  have b0 : (a1 == 0) = false := beq_eq_false_iff_ne.2 k0
  have b1 : (a1 == 1) = false := beq_eq_false_iff_ne.2 k1
  have HF := Aside0.mk (show filtF a1 a2 ⟨x0, x1⟩ = decide (x0 < a2) by simp [filtF, k0, k1])
  clear k0 k1 hz
  · go_enter Try.func54, Try.ntmps54
    go_wp2
    refine start_ (n := 8) (S := fun W => W.cell? ⟨w.heap.size, 0, none⟩ = some (.int .i64 x0) ∧ W.cell? ⟨w.heap.size, 1, none⟩ = some (.int .i64 x1) ∧ W.cell? ⟨gb, 2, none⟩ = some (.int .i64 a2) ∧ Below w.heap.size w W) (ds := []) #[false, false, false, false, false, false, false, false] (by kernel_rfl) rfl rfl hS0 (fun hHeld => ?_)
    refine with_tabW filt.tab6 filt.bits6 (fun HT_ HW_ => ?_)
    clear hS0
    generalize World.drew _ = w0 at hHeld hbk ⊢
    refine take_ (i := 0) (N := (some 24)) (v := ?_) (a' := ?_) #[true, false, false, false, false, false, false, false] rfl rfl (take_ofW HT_.out HW_.out (by kernel_rfl)) (fun _ _ _ h => h) (Or.inl ⟨by rfl, ?_⟩) hHeld ?_ ?_
    rotate_left
    · rintro w' ⟨sx0, sx1, sx2, sx3⟩
      go_simp
      (try with_reducible rfl)
    rotate_left
    · simp only [Act.put, List.setIfInBounds_toArray, List.set_cons_zero, List.set_cons_succ, i64_w, i32_w]
      rfl
    refine pure_ (i := 1) (N := (some 25)) (v := ?_) (a' := ?_) #[true, true, false, false, false, false, false, false] rfl rfl (any_of HT_.out (by kernel_rfl)) (fun _ _ _ h => h) (Or.inl ⟨by rfl, ?_⟩) ?_ ?_
    rotate_left
    · intro w'
      go_simp
      (try with_reducible rfl)
    rotate_left
    · simp only [Act.put, List.setIfInBounds_toArray, List.set_cons_zero, List.set_cons_succ, i64_w, i32_w]
      rfl
    refine take_ (i := 2) (N := (some 26)) (v := ?_) (a' := ?_) #[true, true, true, false, false, false, false, false] rfl rfl (take_ofW HT_.out HW_.out (by kernel_rfl)) (fun _ _ _ h => h) (Or.inl ⟨by rfl, ?_⟩) hHeld ?_ ?_
    rotate_left
    · rintro w' ⟨sx0, sx1, sx2, sx3⟩
      go_simp
      (try with_reducible rfl)
    rotate_left
    · simp only [Act.put, List.setIfInBounds_toArray, List.set_cons_zero, List.set_cons_succ, i64_w, i32_w]
      rfl
    refine pure_ (i := 3) (N := (some 27)) (v := ?_) (a' := ?_) #[true, true, true, true, false, false, false, false] rfl rfl (any_of HT_.out (by kernel_rfl)) (fun _ _ _ h => h) (Or.inl ⟨by rfl, ?_⟩) ?_ ?_
    rotate_left
    · intro w'
      go_simp
      (try with_reducible rfl)
    rotate_left
    · simp only [Act.put, List.setIfInBounds_toArray, List.set_cons_zero, List.set_cons_succ, i64_w, i32_w]
      rfl
    refine take_ (i := 4) (N := (some 28)) (v := ?_) (a' := ?_) #[true, true, true, true, true, false, false, false] rfl rfl (take_ofW HT_.out HW_.out (by kernel_rfl)) (fun _ _ _ h => h) (Or.inl ⟨by rfl, ?_⟩) hHeld ?_ ?_
    rotate_left
    · rintro w' ⟨sx0, sx1, sx2, sx3⟩
      go_simp
      (try with_reducible rfl)
    rotate_left
    · simp only [Act.put, List.setIfInBounds_toArray, List.set_cons_zero, List.set_cons_succ, i64_w, i32_w]
      rfl
    refine pure_ (i := 5) (N := (some 29)) (v := ?_) (a' := ?_) #[true, true, true, true, true, true, false, false] rfl rfl (any_of HT_.out (by kernel_rfl)) (fun _ _ _ h => h) (Or.inl ⟨by rfl, ?_⟩) ?_ ?_
    rotate_left
    · intro w'
      go_simp
      (try with_reducible rfl)
    rotate_left
    · simp only [Act.put, List.setIfInBounds_toArray, List.set_cons_zero, List.set_cons_succ, i64_w, i32_w]
      rfl
    refine one_ (i := 6) (N := none) #[true, true, true, true, true, true, true, false] rfl rfl (one_of HT_.out (by kernel_rfl)) (by decide) (fun K hK => ?_)
    obtain ⟨q0_, q1_, q2_, hBX⟩ := hHeld
    have tc0 := (blk_cell hbk 0).trans rfl
    have tc1 := (blk_cell hbk 1).trans rfl
    have tf0 := blk_frozen hbk 0
    have tf1 := blk_frozen hbk 1
    refine skip_ (w1 := ?_) (by rfl) rfl ?_ ?_
    rotate_left
    · go_simp
      rfl
    refine hK.out _ _ ⟨(cell_far (by simp) _).trans ((cell_far (by simp) _).trans q0_), (cell_far (by simp) _).trans ((cell_far (by simp) _).trans q1_), (cell_far (by simp; omega) _).trans ((cell_far (by simp; omega) _).trans q2_), below_set (below_set hBX (by simp)) (by simp)⟩ (fun hHeld => ?_)
    clear hK K
    refine pure_ (i := 7) (N := (some 4)) (v := ?_) (a' := ?_) #[true, true, true, true, true, true, true, true] rfl rfl (any_of HT_.out (by kernel_rfl)) (fun _ _ _ h => h) (Or.inl ⟨by rfl, ?_⟩) ?_ ?_
    rotate_left
    · intro w'
      go_simp
      (try with_reducible rfl)
    rotate_left
    · simp only [Act.put, List.setIfInBounds_toArray, List.set_cons_zero, List.set_cons_succ, i64_w, i32_w]
      rfl
    refine done_ (done_of HT_.out (by kernel_rfl)) ?_
    go_wp2
    refine bodyPost_ret (results_ct rfl _ _ (w.heap.size + 1) 36 #[.int .i64 x0, .int .i64 x1] (0, 0) _ rfl (by rw [blk_set (blk_set hbk 0 (.int .i64 x0)) 1 (.int .i64 x1)]; rfl) Try.underlying36 rfl (by kernel_rfl)) rfl ?_
    exact ⟨by rw [HF.out]; rfl, hHeld.2.2.2⟩
set_option maxHeartbeats 4000000 in
theorem filters_calls (a0 a1 a2 a3 : Int) (A4 : Option Addr) (n4 c4 : Nat) (A : Option Addr) (c : Nat) (l : List (List S36)) (w : World) (hr : Kd.C (Kd.slice 36 k36) w A l.length l) (h1 : 1 ≤ l.length) (hl : (rd_L2 l 0).length ≤ 1000000)
    (hz : a1 = 1 → a2 ≠ 0) :
    Calls Try.prog 28 #[.agg #[.int .u8 a0, .int .u8 a1, .int .i64 a2, .int .i64 a3, .slice A4 n4 c4], .slice A l.length c] w fun e w' => ∃ v, e = .returned v ∧ Kd.R k36 36 w' w.heap.size (fun _ => True) v ((rd_L2 l 0).filter (filtF a1 a2)) ∧ Below w.heap.size w w' := by
  have HLEN : l.length ≤ 9223372036854775807 := hr.2.1
  obtain ⟨ad, A0, c0, eA, q0, hc0, hr0⟩ := at_L2 hr 0 (by omega) (by omega)
  subst eA
  simp only [Int.toNat_zero] at q0
  have e0 : ad.add 0 = ad := by simp [Addr.add]
  rw [e0] at q0
  clear e0
  have h1z : (0 : Int) < (l.length : Int) := by omega
  generalize rd_L2 l 0 = x at q0 hc0 hr0 hl
  have hHB := Aside0.mk (Below.refl w.heap.size w)
  have e : x.filter (filtF a1 a2) = outL (fun y => (y, filtF a1 a2 y)) x := by
    unfold outL
    rw [← List.filterMap_eq_filter]
    rfl
  have eg := enters_of Try.func54 (by kernel_rfl) rfl
  have HC := Aside0.mk (fun W (hB : Below w.heap.size w W) (hb : W.heap[w.heap.size]? = some (.cells #[.int .u8 a0, .int .u8 a1, .int .i64 a2, .int .i64 a3, .slice A4 n4 c4] 24 (0, 0))) =>
    each_calls A0 c0 x 54 #[.pointer (some ⟨w.heap.size, 0, none⟩)] (fun y => (y, filtF a1 a2 y)) eg W (Kd.C_below hr0 hB) hl fun j y hj W2 hB2 => filters_1_calls a0 a1 a2 a3 A4 c4 n4 y w.heap.size W2 ((hB2.block _ (Array.getElem?_eq_some_iff.1 hb).1).trans hb) hz)
  rw [e]
  have q1 := ((below_alloc hHB.out (.cells #[.int .u8 a0, .int .u8 a1, .int .i64 a2, .int .i64 a3, .slice A4 n4 c4] 24)).cell (World.block_lt_of_cell? w _ q0)).trans q0
  clear hr hr0 hz e eg q0
  go_enter Try.func28, Try.ntmps28
  go_wp2_with (go_at_call 52; refine (HC.out _ (below_alloc hHB.out _) (by simpa using heap_alloc_last w _)).mono ?_; rintro e w' ⟨v, rfl, ho, hb⟩; have HO := Aside0.mk ho; have HB := Aside0.mk hb; clear ho hb)
  go_ret
  exact ⟨_, rfl, Kd.R_lower HO.out (by simp), below_step (below_alloc hHB.out _) HB.out⟩
end Go.Proofs.Ytcihpjkjodhdpaa.X
namespace Go.Proofs.Ytcihpjkjodhdpaa.X
set_option linter.unusedVariables false
set_option linter.unusedSimpArgs false
open Go.RowKit Go.Proofs.YtcihpjkjodhdpaaW.PrintWords Go.Proofs.YtcihpjkjodhdpaaW.PrintLast Go.Proofs.YtcihpjkjodhdpaaW.PrintMore
def wfB (x : S36) : Bool := (Lit.int .i64 x.f0).wf && (Lit.int .i64 x.f1).wf
theorem wfB_iff (x : S36) : wfB x = true ↔ wf36 x := by unfold wfB wf36; simp
def okRows (L : List (List S36)) : Bool := L.all fun l => decide (l.length ≤ 1000) && l.all wfB
theorem okRows_mem {L : List (List S36)} (h : okRows L = true) {l : List S36} (hl : l ∈ L) : l.length ≤ 1000 ∧ ∀ x ∈ l, wf36 x := by
  have h1 := List.all_eq_true.1 h l hl
  simp only [Bool.and_eq_true, decide_eq_true_eq] at h1
  exact ⟨h1.1, fun x hx => (wfB_iff x).1 (List.all_eq_true.1 h1.2 x hx)⟩
theorem rd_mem {L : List (List S36)} {i : Int} (h0 : 0 ≤ i) (h1 : i < L.length) : rd_L2 L i ∈ L := by
  unfold rd_L2
  rw [List.getD_eq_getElem?_getD, List.getElem?_eq_getElem (by omega)]
  exact List.getElem_mem _
theorem flatten_le {L : List (List S36)} (h : okRows L = true) : L.flatten.length ≤ L.length * 1000 := by
  induction L with
  | nil => simp
  | cons l r ih =>
    have h1 := okRows_mem h (List.mem_cons_self)
    have h2 := ih (by unfold okRows at *; simp only [List.all_cons, Bool.and_eq_true] at h ⊢; exact h.2)
    simp only [List.flatten_cons, List.length_append, List.length_cons]
    omega
def doesL (k a b : Int) (L : List (List S36)) : List S36 :=
  if k = 2 then (rd_L2 L 0).map (mapF a b) else if k = 3 then (rd_L2 L 0).filter (filtF a b) else if k = 5 then redL a (rd_L2 L 0) else if k = 6 then joinL (rd_L2 L 0) (rd_L2 L 1) else L.flatten
def opers_Run.f (a0 a1 a2 _a3 : Int) (_l : List Int) (L : List (List S36)) : Option (List S36 × Int) :=
  if numB a0 a1 a2 = false then some ([], 130) else if (L.length : Int) ≠ arityI a0 then some ([], 100) else if okRows L = true ∧ 0 ≤ a1 then some (srt (doesL a0 a1 a2 L), 0) else none
theorem opers_Run.calls (a0_0 : Int) (a0_1 : Int) (a0_2 : Int) (a0_3 : Int) (A0_4 : Option Addr) (c0_4 : Nat) (l0_4 : List Int) (A1 : Option Addr) (c1 : Nat) (l1 : List (List (S36))) (r1 : List (S36)) (r2 : Int) (w : World) (hr0_4 : Kd.C (Kd.int .i64) w A0_4 l0_4.length l0_4) (hc0_4 : l0_4.length ≤ c0_4) (hr1 : Kd.C (Kd.slice 36 k36) w A1 l1.length l1) (hc1 : l1.length ≤ c1) (h : opers_Run.f a0_0 a0_1 a0_2 a0_3 l0_4 l1 = some (r1, r2)) :
    Calls Try.prog 12 #[.agg #[.int .u8 a0_0, .int .u8 a0_1, .int .i64 a0_2, .int .i64 a0_3, .slice A0_4 l0_4.length c0_4], .slice A1 l1.length c1] w fun e w' => ∃ v0_ : Value, e = .returned (.tuple #[v0_, .int .i64 r2]) ∧ Kd.R k36 36 w' w.heap.size (fun _ => True) v0_ r1 ∧ Below w.heap.size w w' := by
  unfold opers_Run.f at h
  have hm : l1.length ≤ 9223372036854775807 := hr1.2.1
  by_cases hn : numB a0_0 a0_1 a0_2 = false
  · rw [if_pos hn] at h
    simp only [Option.some.injEq, Prod.mk.injEq] at h
    obtain ⟨rfl, rfl⟩ := h
    exact (run_bad a0_0 a0_1 a0_2 a0_3 A0_4 _ c0_4 A1 _ c1 w hn).mono fun e w' ⟨he, hb⟩ => ⟨_, he, Kd.R_nil _ _ _ _ _, hb⟩
  rw [if_neg hn] at h
  have hn1 : numB a0_0 a0_1 a0_2 = true := by simpa using hn
  by_cases hp : (l1.length : Int) ≠ arityI a0_0
  · rw [if_pos hp] at h
    simp only [Option.some.injEq, Prod.mk.injEq] at h
    obtain ⟨rfl, rfl⟩ := h
    exact (run_ports a0_0 a0_1 a0_2 a0_3 A0_4 _ c0_4 A1 _ c1 w hn1 hp hm).mono fun e w' ⟨he, hb⟩ => ⟨_, he, Kd.R_nil _ _ _ _ _, hb⟩
  rw [if_neg hp] at h
  have hp1 : (l1.length : Int) = arityI a0_0 := Decidable.not_not.1 hp
  by_cases hk : okRows l1 = true ∧ 0 ≤ a0_1
  · rw [if_pos hk] at h
    simp only [Option.some.injEq, Prod.mk.injEq] at h
    obtain ⟨rfl, rfl⟩ := h
    obtain ⟨hok, ha⟩ := hk
    have fin : ∀ {Good : List S36 → Prop}, (∀ out, Good out → srt out = srt (doesL a0_0 a0_1 a0_2 l1)) →
        (Calls Try.prog 12 #[.agg #[.int .u8 a0_0, .int .u8 a0_1, .int .i64 a0_2, .int .i64 a0_3, .slice A0_4 l0_4.length c0_4], .slice A1 l1.length c1] w fun e w' => ∃ v out, e = .returned (.tuple #[v, .int .i64 0]) ∧ Kd.R k36 36 w' w.heap.size (fun _ => True) v (srt out) ∧ Good out ∧ Below w.heap.size w w') →
        Calls Try.prog 12 #[.agg #[.int .u8 a0_0, .int .u8 a0_1, .int .i64 a0_2, .int .i64 a0_3, .slice A0_4 l0_4.length c0_4], .slice A1 l1.length c1] w fun e w' => ∃ v0_ : Value, e = .returned (.tuple #[v0_, .int .i64 0]) ∧ Kd.R k36 36 w' w.heap.size (fun _ => True) v0_ (srt (doesL a0_0 a0_1 a0_2 l1)) ∧ Below w.heap.size w w' :=
      fun hG hC => hC.mono fun e w' ⟨v, out, he, hr, hg, hb⟩ => ⟨v, he, by rw [← hG out hg]; exact hr, hb⟩
    by_cases k2 : a0_0 = 2
    · subst k2
      have hl1 : 1 ≤ l1.length := by simp [arityI] at hp1; omega
      obtain ⟨hlen, hwf⟩ := okRows_mem hok (rd_mem (i := 0) (by omega) (by omega))
      refine fin (Good := fun out => out = (rd_L2 l1 0).map (mapF a0_1 a0_2)) (fun out ho => by rw [ho]; rfl) (run_hit 2 a0_1 a0_2 a0_3 A0_4 _ c0_4 A1 _ c1 w 27 0 rfl (enters_of Try.func27 (by kernel_rfl) rfl) _ hn1 hp1 hm fun W hB => ?_)
      have hz : a0_1 = 0 ∨ a0_1 = 1 ∨ a0_1 = 2 ∨ a0_2 ≠ 0 := by
        simp [numB] at hn1
        omega
      exact (maps_calls 2 a0_1 a0_2 0 none 0 0 A1 c1 l1 W (Kd.C_below hr1 hB) hl1 (by omega) hz).mono fun e w' ⟨v, he, hr, hb⟩ => ⟨v, _, he, hr, hb, rfl, by rw [List.length_map]; omega⟩
    by_cases k3 : a0_0 = 3
    · subst k3
      have hl1 : 1 ≤ l1.length := by simp [arityI] at hp1; omega
      obtain ⟨hlen, hwf⟩ := okRows_mem hok (rd_mem (i := 0) (by omega) (by omega))
      refine fin (Good := fun out => out = (rd_L2 l1 0).filter (filtF a0_1 a0_2)) (fun out ho => by rw [ho]; rfl) (run_hit 3 a0_1 a0_2 a0_3 A0_4 _ c0_4 A1 _ c1 w 28 1 rfl (enters_of Try.func28 (by kernel_rfl) rfl) _ hn1 hp1 hm fun W hB => ?_)
      have hz : a0_1 = 1 → a0_2 ≠ 0 := by
        simp [numB] at hn1
        omega
      exact (filters_calls 3 a0_1 a0_2 0 none 0 0 A1 c1 l1 W (Kd.C_below hr1 hB) hl1 (by omega) hz).mono fun e w' ⟨v, he, hr, hb⟩ => ⟨v, _, he, hr, hb, rfl, by have := List.length_filter_le (filtF a0_1 a0_2) (rd_L2 l1 0); omega⟩
    by_cases k5 : a0_0 = 5
    · subst k5
      have hl1 : 1 ≤ l1.length := by simp [arityI] at hp1; omega
      obtain ⟨hlen, hwf⟩ := okRows_mem hok (rd_mem (i := 0) (by omega) (by omega))
      refine fin (Good := fun out => OutIs (redS a0_1 (rd_L2 l1 0)) (fun _ => false) out) (fun out ho => srt_perm (outIs_perm ho)) (run_hit 5 a0_1 a0_2 a0_3 A0_4 _ c0_4 A1 _ c1 w 29 2 rfl (enters_of Try.func29 (by kernel_rfl) rfl) _ hn1 hp1 hm fun W hB => ?_)
      exact (reduces_calls 5 a0_1 a0_2 0 none 0 0 A1 c1 l1 W (Kd.C_below hr1 hB) hl1 (by omega) hwf).mono fun e w' ⟨v, out, he, hr, hb, hg, hl⟩ => ⟨v, out, he, hr, hb, hg, by omega⟩
    by_cases k6 : a0_0 = 6
    · subst k6
      have hl1 : 2 ≤ l1.length := by simp [arityI] at hp1; omega
      obtain ⟨hlen0, hwf0⟩ := okRows_mem hok (rd_mem (i := 0) (by omega) (by omega))
      obtain ⟨hlen1, hwf1⟩ := okRows_mem hok (rd_mem (i := 1) (by omega) (by omega))
      refine fin (Good := fun out => out = joinL (rd_L2 l1 0) (rd_L2 l1 1)) (fun out ho => by rw [ho]; rfl) (run_hit 6 a0_1 a0_2 a0_3 A0_4 _ c0_4 A1 _ c1 w 30 3 rfl (enters_of Try.func30 (by kernel_rfl) rfl) _ hn1 hp1 hm fun W hB => ?_)
      have hj := joinL_length (rd_L2 l1 0) (rd_L2 l1 1)
      have hj2 : (rd_L2 l1 0).length * (rd_L2 l1 1).length ≤ 1000 * 1000 := Nat.mul_le_mul hlen0 hlen1
      exact (joins_calls 6 a0_1 a0_2 0 none 0 0 A1 c1 l1 W (Kd.C_below hr1 hB) hl1 hlen0 hlen1 hwf0 hwf1).mono fun e w' ⟨v, he, hr, hb⟩ => ⟨v, _, he, hr, hb, rfl, by omega⟩
    · have har : l1.length ≤ 2 := by
        unfold arityI at hp1
        split at hp1 <;> (try split at hp1) <;> (try split at hp1) <;> omega
      have hfl := flatten_le hok
      have hd : doesL a0_0 a0_1 a0_2 l1 = l1.flatten := by unfold doesL; rw [if_neg k2, if_neg k3, if_neg k5, if_neg k6]
      refine fin (Good := fun out => out = srt l1.flatten) (fun out ho => by rw [ho, hd]; exact srt_perm (List.mergeSort_perm _ _)) (run_else a0_0 a0_1 a0_2 a0_3 A0_4 _ c0_4 A1 _ c1 w ?_ _ hn1 hp1 hm fun W hB => ?_)
      · simp [rm4, Instr.findNow, Instr.sameNow, beq_eq_false_iff_ne.2 k2, beq_eq_false_iff_ne.2 k3, beq_eq_false_iff_ne.2 k5, beq_eq_false_iff_ne.2 k6]
      · exact (passes_calls a0_0 a0_1 a0_2 0 none 0 0 A1 c1 l1 W (Kd.C_below hr1 hB) (by omega)).mono fun e w' ⟨v, he, hr, hb⟩ => ⟨v, _, he, hr, hb, rfl, by rw [srt_length]; omega⟩
  · rw [if_neg hk] at h
    cases h
def value_Add.f (L : List (List S36)) : Option (List S36) := if L.flatten.length ≤ 1000000 then some (srt L.flatten) else none
theorem value_Add.calls (A0 : Option Addr) (c0 : Nat) (l0 : List (List (S36))) (r : List (S36)) (w : World) (hr0 : Kd.C (Kd.slice 36 k36) w A0 l0.length l0) (hc0 : l0.length ≤ c0) (h : value_Add.f l0 = some r) :
    Calls Try.prog 21 #[.slice A0 l0.length c0] w fun e w' => ∃ v0_ : Value, e = .returned (v0_) ∧ Kd.R k36 36 w' w.heap.size (fun _ => True) v0_ r ∧ Below w.heap.size w w' := by
  unfold value_Add.f at h
  by_cases hl : l0.flatten.length ≤ 1000000
  · rw [if_pos hl] at h
    simp only [Option.some.injEq] at h
    subst h
    exact add_calls A0 c0 l0 w hr0 hl
  · rw [if_neg hl] at h
    cases h
end Go.Proofs.Ytcihpjkjodhdpaa.X
namespace Go.Proofs.Ytcihpjkjodhdpaa.X
set_option linter.unusedVariables false
set_option linter.unusedSimpArgs false
open Go.RowKit Go.Proofs.YtcihpjkjodhdpaaW.PrintWords Go.Proofs.YtcihpjkjodhdpaaW.PrintLast Go.Proofs.YtcihpjkjodhdpaaW.PrintMore
theorem wrap_small {x : Int} (h0 : -1000000 ≤ x) (h1 : x ≤ 1000000) : wrap64 x = x := by unfold wrap64; omega
def cnt (k : Int) : List S36 → Nat
  | [] => 0
  | x :: r => (if k = x.f0 then 1 else 0) + cnt k r
end Go.Proofs.Ytcihpjkjodhdpaa.X
namespace Go.Proofs.Ytcihpjkjodhdpaa.X
set_option linter.unusedVariables false
set_option linter.unusedSimpArgs false
open Go.RowKit Go.Proofs.YtcihpjkjodhdpaaW.PrintWords Go.Proofs.YtcihpjkjodhdpaaW.PrintLast Go.Proofs.YtcihpjkjodhdpaaW.PrintMore
structure St where
  d : Int
  e : Int
  a : Int
  b : Int
  c : Int
def stV (t : St) : Value := .agg #[.int .i64 t.d, .int .i64 t.e, .int .i64 t.a, .int .i64 t.b, .int .i64 t.c]
def St.loop (t : St) (i : Nat) : Int := if i = 0 then t.a else if i = 1 then t.b else t.c
def okLoop (d n : Int) (i : Nat) : Bool := decide (0 ≤ n) && decide (n < 16) && (decide ((i : Int) < d) || n == 0)
def rightB (t : St) : Bool := decide (0 ≤ t.d) && decide (t.d ≤ 3) && decide (0 ≤ t.e) && decide (t.e < 1000) && okLoop t.d t.a 0 && okLoop t.d t.b 1 && okLoop t.d t.c 2
set_option maxHeartbeats 8000000 in
set_option maxRecDepth 100000 in
theorem stamp_Right_calls (t : St) (w : World) : Calls Try.prog 39 #[stV t] w fun e w' => e = .returned (.bool (rightB t)) ∧ Below w.heap.size w w' := by
  obtain ⟨d, e, a, b, c⟩ := t
  unfold stV
  simp only
  have hHB := Aside0.mk (below_alloc (Below.refl w.heap.size w) (.cells #[.int .i64 d, .int .i64 e, .int .i64 a, .int .i64 b, .int .i64 c] 40))
  by_cases h : (0 ≤ d ∧ d ≤ 3 ∧ 0 ≤ e ∧ e < 1000)
  · obtain ⟨h1, h2, h3, h4⟩ := h
    have g1 : ¬ d < 0 := by omega
    have g2 : ¬ d > 3 := by omega
    have g3 : ¬ e < 0 := by omega
    have g4 : ¬ e ≥ 1000 := by omega
    have HR := Aside0.mk (show rightB ⟨d, e, a, b, c⟩ = (okLoop d a 0 && okLoop d b 1 && okLoop d c 2) by simp [rightB, h1, h2, h3, h4])
    clear h1 h2 h3 h4
    go_enter Try.func39, Try.ntmps39
    go_wp2
    go_loopg [23] 3 (fun gg v wr => ∃ k : Nat, k ≤ 3 ∧ 3 - k ≤ gg ∧ v = .int .i64 k ∧ wr = w.alloc (.cells #[.int .i64 d, .int .i64 e, .int .i64 a, .int .i64 b, .int .i64 c] 40) ∧ Aside0 (∀ i, i < k → okLoop d (St.loop ⟨d, e, a, b, c⟩ i) i = true))
    case atStart => exact ⟨0, by omega, by omega, rfl, rfl, ⟨fun i hi => absurd hi (by omega)⟩⟩
    case round =>
      obtain ⟨k, hk, hg, rfl, rfl, HK⟩ := hrel
      by_cases k0 : k = 0
      · subst k0
        have hz : ((0 : Nat) : Int) = 0 := rfl
        rcases (show a < 0 ∨ (¬ a < 0 ∧ a ≥ 16) ∨ (¬ a < 0 ∧ ¬ a ≥ 16 ∧ d ≤ 0 ∧ 0 < a) ∨ (¬ a < 0 ∧ ¬ a ≥ 16 ∧ d ≤ 0 ∧ a = 0) ∨ (¬ a < 0 ∧ ¬ a ≥ 16 ∧ 0 < d) from by omega) with m1 | ⟨m1, m2⟩ | ⟨m1, m2, m3, m4⟩ | ⟨m1, m2, m3, m4⟩ | ⟨m1, m2, m3⟩
        · have HF := Aside0.mk (show okLoop d a 0 = false by unfold okLoop; simp only [Bool.and_eq_false_iff, Bool.or_eq_false_iff, decide_eq_false_iff_not, beq_eq_false_iff_ne]; omega)
          go_wp2
          go_ret
          exact ⟨by rw [HR.out, HF.out]; simp, hHB.out⟩
        · have HF := Aside0.mk (show okLoop d a 0 = false by unfold okLoop; simp only [Bool.and_eq_false_iff, Bool.or_eq_false_iff, decide_eq_false_iff_not, beq_eq_false_iff_ne]; omega)
          go_wp2
          go_ret
          exact ⟨by rw [HR.out, HF.out]; simp, hHB.out⟩
        · have HF := Aside0.mk (show okLoop d a 0 = false by unfold okLoop; simp only [Bool.and_eq_false_iff, Bool.or_eq_false_iff, decide_eq_false_iff_not, beq_eq_false_iff_ne]; omega)
          have hb : (a != 0) = true := bne_iff_ne.2 (by omega)
          go_wp2
          go_ret
          exact ⟨by rw [HR.out, HF.out]; simp, hHB.out⟩
        · subst m4
          have HF := Aside0.mk (show okLoop d 0 0 = true by unfold okLoop; simp)
          go_wp2
          go_roundg 2
          case measure => omega
          case rel => exact ⟨1, by omega, by omega, by go_num, rfl, ⟨fun i hi => by
            by_cases e : i = 0
            · subst e; exact HF.out
            · exact HK.out i (by omega)⟩⟩
        · have HF := Aside0.mk (show okLoop d a 0 = true by unfold okLoop; simp; omega)
          go_wp2
          go_roundg 2
          case measure => omega
          case rel => exact ⟨1, by omega, by omega, by go_num, rfl, ⟨fun i hi => by
            by_cases e : i = 0
            · subst e; exact HF.out
            · exact HK.out i (by omega)⟩⟩
      by_cases k1 : k = 1
      · subst k1
        have hz : ((1 : Nat) : Int) = 1 := rfl
        rcases (show b < 0 ∨ (¬ b < 0 ∧ b ≥ 16) ∨ (¬ b < 0 ∧ ¬ b ≥ 16 ∧ d ≤ 1 ∧ 0 < b) ∨ (¬ b < 0 ∧ ¬ b ≥ 16 ∧ d ≤ 1 ∧ b = 0) ∨ (¬ b < 0 ∧ ¬ b ≥ 16 ∧ 1 < d) from by omega) with m1 | ⟨m1, m2⟩ | ⟨m1, m2, m3, m4⟩ | ⟨m1, m2, m3, m4⟩ | ⟨m1, m2, m3⟩
        · have HF := Aside0.mk (show okLoop d b 1 = false by unfold okLoop; simp only [Bool.and_eq_false_iff, Bool.or_eq_false_iff, decide_eq_false_iff_not, beq_eq_false_iff_ne]; omega)
          go_wp2
          go_ret
          exact ⟨by rw [HR.out, HF.out]; simp, hHB.out⟩
        · have HF := Aside0.mk (show okLoop d b 1 = false by unfold okLoop; simp only [Bool.and_eq_false_iff, Bool.or_eq_false_iff, decide_eq_false_iff_not, beq_eq_false_iff_ne]; omega)
          go_wp2
          go_ret
          exact ⟨by rw [HR.out, HF.out]; simp, hHB.out⟩
        · have HF := Aside0.mk (show okLoop d b 1 = false by unfold okLoop; simp only [Bool.and_eq_false_iff, Bool.or_eq_false_iff, decide_eq_false_iff_not, beq_eq_false_iff_ne]; omega)
          have hb : (b != 0) = true := bne_iff_ne.2 (by omega)
          go_wp2
          go_ret
          exact ⟨by rw [HR.out, HF.out]; simp, hHB.out⟩
        · subst m4
          have HF := Aside0.mk (show okLoop d 0 1 = true by unfold okLoop; simp)
          go_wp2
          go_roundg 1
          case measure => omega
          case rel => exact ⟨2, by omega, by omega, by go_num, rfl, ⟨fun i hi => by
            by_cases e : i = 1
            · subst e; exact HF.out
            · exact HK.out i (by omega)⟩⟩
        · have HF := Aside0.mk (show okLoop d b 1 = true by unfold okLoop; simp; omega)
          go_wp2
          go_roundg 1
          case measure => omega
          case rel => exact ⟨2, by omega, by omega, by go_num, rfl, ⟨fun i hi => by
            by_cases e : i = 1
            · subst e; exact HF.out
            · exact HK.out i (by omega)⟩⟩
      by_cases k2 : k = 2
      · subst k2
        have hz : ((2 : Nat) : Int) = 2 := rfl
        rcases (show c < 0 ∨ (¬ c < 0 ∧ c ≥ 16) ∨ (¬ c < 0 ∧ ¬ c ≥ 16 ∧ d ≤ 2 ∧ 0 < c) ∨ (¬ c < 0 ∧ ¬ c ≥ 16 ∧ d ≤ 2 ∧ c = 0) ∨ (¬ c < 0 ∧ ¬ c ≥ 16 ∧ 2 < d) from by omega) with m1 | ⟨m1, m2⟩ | ⟨m1, m2, m3, m4⟩ | ⟨m1, m2, m3, m4⟩ | ⟨m1, m2, m3⟩
        · have HF := Aside0.mk (show okLoop d c 2 = false by unfold okLoop; simp only [Bool.and_eq_false_iff, Bool.or_eq_false_iff, decide_eq_false_iff_not, beq_eq_false_iff_ne]; omega)
          go_wp2
          go_ret
          exact ⟨by rw [HR.out, HF.out]; simp, hHB.out⟩
        · have HF := Aside0.mk (show okLoop d c 2 = false by unfold okLoop; simp only [Bool.and_eq_false_iff, Bool.or_eq_false_iff, decide_eq_false_iff_not, beq_eq_false_iff_ne]; omega)
          go_wp2
          go_ret
          exact ⟨by rw [HR.out, HF.out]; simp, hHB.out⟩
        · have HF := Aside0.mk (show okLoop d c 2 = false by unfold okLoop; simp only [Bool.and_eq_false_iff, Bool.or_eq_false_iff, decide_eq_false_iff_not, beq_eq_false_iff_ne]; omega)
          have hb : (c != 0) = true := bne_iff_ne.2 (by omega)
          go_wp2
          go_ret
          exact ⟨by rw [HR.out, HF.out]; simp, hHB.out⟩
        · subst m4
          have HF := Aside0.mk (show okLoop d 0 2 = true by unfold okLoop; simp)
          go_wp2
          go_roundg 0
          case measure => omega
          case rel => exact ⟨3, by omega, by omega, by go_num, rfl, ⟨fun i hi => by
            by_cases e : i = 2
            · subst e; exact HF.out
            · exact HK.out i (by omega)⟩⟩
        · have HF := Aside0.mk (show okLoop d c 2 = true by unfold okLoop; simp; omega)
          go_wp2
          go_roundg 0
          case measure => omega
          case rel => exact ⟨3, by omega, by omega, by go_num, rfl, ⟨fun i hi => by
            by_cases e : i = 2
            · subst e; exact HF.out
            · exact HK.out i (by omega)⟩⟩
      · obtain rfl : k = 3 := by omega
        have HT := Aside0.mk (show rightB ⟨d, e, a, b, c⟩ = true by rw [HR.out]; have x0 := HK.out 0 (by omega); have x1 := HK.out 1 (by omega); have x2 := HK.out 2 (by omega); simp only [St.loop, if_true] at x0 x1 x2; simp at x1 x2; simp [x0, x1, x2])
        go_wp2
        go_ret
        exact ⟨by rw [HT.out]; rfl, hHB.out⟩
  · have HF := Aside0.mk (show rightB ⟨d, e, a, b, c⟩ = false by
      unfold rightB
      simp only [Bool.and_eq_false_iff, decide_eq_false_iff_not]
      omega)
    have h4 : d < 0 ∨ (¬ d < 0 ∧ d > 3) ∨ (¬ d < 0 ∧ ¬ d > 3 ∧ e < 0) ∨ (¬ d < 0 ∧ ¬ d > 3 ∧ ¬ e < 0 ∧ e ≥ 1000) := by omega
    clear h
    rcases h4 with h1 | ⟨h1, h2⟩ | ⟨h1, h2, h3⟩ | ⟨h1, h2, h3, h5⟩
    all_goals
      go_enter Try.func39, Try.ntmps39
      go_wp2
      go_ret
      exact ⟨by rw [HF.out]; rfl, hHB.out⟩
end Go.Proofs.Ytcihpjkjodhdpaa.X
namespace Go.Proofs.Ytcihpjkjodhdpaa.X
set_option linter.unusedVariables false
set_option linter.unusedSimpArgs false
open Go.RowKit Go.Proofs.YtcihpjkjodhdpaaW.PrintWords Go.Proofs.YtcihpjkjodhdpaaW.PrintLast Go.Proofs.YtcihpjkjodhdpaaW.PrintMore
def St.zero : St := ⟨0, 0, 0, 0, 0⟩
def intoC (t : St) : St × Bool :=
  if wrap64 (t.d + 1) > 3 then (St.zero, false) else if rightB ⟨wrap64 (t.d + 1), t.e, t.a, t.b, t.c⟩ = false then (St.zero, false) else if wrap64 (t.d + 1) < 1 then (St.zero, false)
  else if t.loop (wrap64 (t.d + 1) - 1).toNat > 0 then (St.zero, false) else (⟨wrap64 (t.d + 1), t.e, t.a, t.b, t.c⟩, true)
theorem right_in {t : St} (h : rightB t = true) : 0 ≤ t.d ∧ t.d ≤ 3 ∧ 0 ≤ t.e ∧ t.e < 1000 ∧ 0 ≤ t.a ∧ t.a < 16 ∧ 0 ≤ t.b ∧ t.b < 16 ∧ 0 ≤ t.c ∧ t.c < 16 := by
  unfold rightB okLoop at h
  simp only [Bool.and_eq_true, decide_eq_true_eq] at h
  omega
set_option maxHeartbeats 8000000 in
set_option maxRecDepth 100000 in
theorem stamp_Into_calls (t : St) (w : World) : Calls Try.prog 36 #[stV t] w fun e w' => e = .returned (.tuple #[stV (intoC t).1, .bool (intoC t).2]) ∧ Below w.heap.size w w' := by
  obtain ⟨d, e, a, b, c⟩ := t
  show Calls Try.prog 36 #[.agg #[.int .i64 d, .int .i64 e, .int .i64 a, .int .i64 b, .int .i64 c]] w _
  have hHB := Aside0.mk (Below.refl w.heap.size w)
  obtain ⟨q, hq⟩ : ∃ q, q = wrap64 (d + 1) := ⟨_, rfl⟩
  have hqw := hq.symm
  by_cases k3 : q > 3
  · have HF := Aside0.mk (show intoC ⟨d, e, a, b, c⟩ = (St.zero, false) by unfold intoC; simp only [← hq]; rw [if_pos k3])
    clear hq
    go_enter Try.func36, Try.ntmps36
    go_wp2
    refine bodyPost_ret (results_ct rfl _ _ (w.heap.size + 1) 40 #[.int .i64 0, .int .i64 0, .int .i64 0, .int .i64 0, .int .i64 0] (0, 0) _ rfl (by first | (rw [(blk_set (blk_set (blk_set (blk_set (blk_set (blk_new w (.map #[] 0)) 0 (.int .i64 0)) 1 (.int .i64 0)) 2 (.int .i64 0)) 3 (.int .i64 0)) 4 (.int .i64 0))]; rfl) | (go_simp; done) | (simpa using heap_alloc_last (w.alloc _) _)) Try.underlying40 rfl (by kernel_rfl)) rfl ?_
    exact ⟨by rw [HF.out]; rfl, by first | exact (below_set (below_set (below_set (below_set (below_set hHB.out (by simp)) (by simp)) (by simp)) (by simp)) (by simp)) | (repeat (first | exact hHB.out | apply below_alloc | refine below_set ?_ (by first | exact Nat.le_refl _ | (simp; done) | (simp; omega))))⟩
  have HB1 := Aside0.mk (blk_alloc (blk_new w (.cells #[.int .i64 q, .int .i64 e, .int .i64 a, .int .i64 b, .int .i64 c] 40)) (.cells #[.int .i64 0, .int .i64 0, .int .i64 0, .int .i64 0, .int .i64 0] 40))
  have HB2 := Aside0.mk (show (((w.alloc (.cells #[.int .i64 q, .int .i64 e, .int .i64 a, .int .i64 b, .int .i64 c] 40)).alloc (.cells #[.int .i64 0, .int .i64 0, .int .i64 0, .int .i64 0, .int .i64 0] 40))).heap[w.heap.size + 1]? = some (.cells #[.int .i64 0, .int .i64 0, .int .i64 0, .int .i64 0, .int .i64 0] 40 (0, 0)) by simpa using heap_alloc_last (w.alloc (.cells #[.int .i64 q, .int .i64 e, .int .i64 a, .int .i64 b, .int .i64 c] 40)) (.cells #[.int .i64 0, .int .i64 0, .int .i64 0, .int .i64 0, .int .i64 0] 40))
  have hHB2 := Aside0.mk (below_alloc (below_alloc hHB.out (.cells #[.int .i64 q, .int .i64 e, .int .i64 a, .int .i64 b, .int .i64 c] 40)) (.cells #[.int .i64 0, .int .i64 0, .int .i64 0, .int .i64 0, .int .i64 0] 40))
  have HC0 := Aside0.mk (stamp_Right_calls ⟨q, e, a, b, c⟩ (((w.alloc (.cells #[.int .i64 q, .int .i64 e, .int .i64 a, .int .i64 b, .int .i64 c] 40)).alloc (.cells #[.int .i64 0, .int .i64 0, .int .i64 0, .int .i64 0, .int .i64 0] 40))))
  simp only [stV] at HC0
  obtain ⟨rb, hrb⟩ : ∃ rb, rb = rightB ⟨q, e, a, b, c⟩ := ⟨_, rfl⟩
  rw [← hrb] at HC0
  have HRB := Aside0.mk hrb
  cases rb with
  | false =>
    have HF := Aside0.mk (show intoC ⟨d, e, a, b, c⟩ = (St.zero, false) by unfold intoC; simp only [← hq]; rw [if_neg k3, if_pos hrb.symm])
    clear hq hrb
    go_enter Try.func36, Try.ntmps36
    go_wp2_with (go_at_call 39; refine HC0.out.mono ?_; rintro e1 w1 ⟨rfl, hb⟩; have HX1 := Aside0.mk (blk_below HB1.out hb); have HX2 := Aside0.mk (blk_below HB2.out hb); have HBW := Aside0.mk (below_step hHB2.out hb); clear hb; have p1_0 := (blk_cell HX1.out 0).trans rfl; have p1_1 := (blk_cell HX1.out 1).trans rfl; have p1_2 := (blk_cell HX1.out 2).trans rfl; have p1_3 := (blk_cell HX1.out 3).trans rfl; have p1_4 := (blk_cell HX1.out 4).trans rfl; have r1_0 := (blk_cell HX2.out 0).trans rfl; have r1_1 := (blk_cell HX2.out 1).trans rfl; have r1_2 := (blk_cell HX2.out 2).trans rfl; have r1_3 := (blk_cell HX2.out 3).trans rfl; have r1_4 := (blk_cell HX2.out 4).trans rfl; have f1_0 := blk_frozen HX1.out 0; have f1_1 := blk_frozen HX1.out 1; have f1_2 := blk_frozen HX1.out 2; have f1_3 := blk_frozen HX1.out 3; have f1_4 := blk_frozen HX1.out 4; have g1_0 := blk_frozen HX2.out 0; have g1_1 := blk_frozen HX2.out 1; have g1_2 := blk_frozen HX2.out 2; have g1_3 := blk_frozen HX2.out 3; have g1_4 := blk_frozen HX2.out 4)
    refine bodyPost_ret (results_ct rfl _ _ (w.heap.size + 1) 40 #[.int .i64 0, .int .i64 0, .int .i64 0, .int .i64 0, .int .i64 0] (0, 0) _ rfl (by first | (rw [(blk_set (blk_set (blk_set (blk_set (blk_set HX2.out 0 (.int .i64 0)) 1 (.int .i64 0)) 2 (.int .i64 0)) 3 (.int .i64 0)) 4 (.int .i64 0))]; rfl) | (go_simp; done) | (simpa using heap_alloc_last (w.alloc _) _)) Try.underlying40 rfl (by kernel_rfl)) rfl ?_
    exact ⟨by rw [HF.out]; rfl, by first | exact (below_set (below_set (below_set (below_set (below_set HBW.out (by simp)) (by simp)) (by simp)) (by simp)) (by simp)) | (repeat (first | exact hHB.out | apply below_alloc | refine below_set ?_ (by first | exact Nat.le_refl _ | (simp; done) | (simp; omega))))⟩
  | true =>
    have hin := right_in hrb.symm
    simp only at hin
    by_cases k1 : q < 1
    · have HF := Aside0.mk (show intoC ⟨d, e, a, b, c⟩ = (St.zero, false) by unfold intoC; simp only [← hq]; rw [if_neg k3, if_neg (by rw [← hrb]; simp), if_pos k1])
      clear hq hrb hin
      go_enter Try.func36, Try.ntmps36
      go_wp2_with (go_at_call 39; refine HC0.out.mono ?_; rintro e1 w1 ⟨rfl, hb⟩; have HX1 := Aside0.mk (blk_below HB1.out hb); have HX2 := Aside0.mk (blk_below HB2.out hb); have HBW := Aside0.mk (below_step hHB2.out hb); clear hb; have p1_0 := (blk_cell HX1.out 0).trans rfl; have p1_1 := (blk_cell HX1.out 1).trans rfl; have p1_2 := (blk_cell HX1.out 2).trans rfl; have p1_3 := (blk_cell HX1.out 3).trans rfl; have p1_4 := (blk_cell HX1.out 4).trans rfl; have r1_0 := (blk_cell HX2.out 0).trans rfl; have r1_1 := (blk_cell HX2.out 1).trans rfl; have r1_2 := (blk_cell HX2.out 2).trans rfl; have r1_3 := (blk_cell HX2.out 3).trans rfl; have r1_4 := (blk_cell HX2.out 4).trans rfl; have f1_0 := blk_frozen HX1.out 0; have f1_1 := blk_frozen HX1.out 1; have f1_2 := blk_frozen HX1.out 2; have f1_3 := blk_frozen HX1.out 3; have f1_4 := blk_frozen HX1.out 4; have g1_0 := blk_frozen HX2.out 0; have g1_1 := blk_frozen HX2.out 1; have g1_2 := blk_frozen HX2.out 2; have g1_3 := blk_frozen HX2.out 3; have g1_4 := blk_frozen HX2.out 4)
      refine bodyPost_ret (results_ct rfl _ _ (w.heap.size + 1) 40 #[.int .i64 0, .int .i64 0, .int .i64 0, .int .i64 0, .int .i64 0] (0, 0) _ rfl (by first | (rw [(blk_set (blk_set (blk_set (blk_set (blk_set HX2.out 0 (.int .i64 0)) 1 (.int .i64 0)) 2 (.int .i64 0)) 3 (.int .i64 0)) 4 (.int .i64 0))]; rfl) | (go_simp; done) | (simpa using heap_alloc_last (w.alloc _) _)) Try.underlying40 rfl (by kernel_rfl)) rfl ?_
      exact ⟨by rw [HF.out]; rfl, by first | exact (below_set (below_set (below_set (below_set (below_set HBW.out (by simp)) (by simp)) (by simp)) (by simp)) (by simp)) | (repeat (first | exact hHB.out | apply below_alloc | refine below_set ?_ (by first | exact Nat.le_refl _ | (simp; done) | (simp; omega))))⟩
    clear hqw
    have hq3 : q = 1 ∨ q = 2 ∨ q = 3 := by omega
    rcases hq3 with rfl | rfl | rfl
    · have hqw := hq.symm
      by_cases kn : a > 0
      · have HF := Aside0.mk (show intoC ⟨d, e, a, b, c⟩ = (St.zero, false) by unfold intoC; simp only [← hq]; rw [if_neg k3, if_neg (by rw [← hrb]; simp), if_neg k1]; simp [St.loop, kn])
        clear hq hrb hin
        go_enter Try.func36, Try.ntmps36
        go_wp2_with (go_at_call 39; refine HC0.out.mono ?_; rintro e1 w1 ⟨rfl, hb⟩; have HX1 := Aside0.mk (blk_below HB1.out hb); have HX2 := Aside0.mk (blk_below HB2.out hb); have HBW := Aside0.mk (below_step hHB2.out hb); clear hb; have p1_0 := (blk_cell HX1.out 0).trans rfl; have p1_1 := (blk_cell HX1.out 1).trans rfl; have p1_2 := (blk_cell HX1.out 2).trans rfl; have p1_3 := (blk_cell HX1.out 3).trans rfl; have p1_4 := (blk_cell HX1.out 4).trans rfl; have r1_0 := (blk_cell HX2.out 0).trans rfl; have r1_1 := (blk_cell HX2.out 1).trans rfl; have r1_2 := (blk_cell HX2.out 2).trans rfl; have r1_3 := (blk_cell HX2.out 3).trans rfl; have r1_4 := (blk_cell HX2.out 4).trans rfl; have f1_0 := blk_frozen HX1.out 0; have f1_1 := blk_frozen HX1.out 1; have f1_2 := blk_frozen HX1.out 2; have f1_3 := blk_frozen HX1.out 3; have f1_4 := blk_frozen HX1.out 4; have g1_0 := blk_frozen HX2.out 0; have g1_1 := blk_frozen HX2.out 1; have g1_2 := blk_frozen HX2.out 2; have g1_3 := blk_frozen HX2.out 3; have g1_4 := blk_frozen HX2.out 4)
        refine bodyPost_ret (results_ct rfl _ _ (w.heap.size + 1) 40 #[.int .i64 0, .int .i64 0, .int .i64 0, .int .i64 0, .int .i64 0] (0, 0) _ rfl (by first | (rw [(blk_set (blk_set (blk_set (blk_set (blk_set HX2.out 0 (.int .i64 0)) 1 (.int .i64 0)) 2 (.int .i64 0)) 3 (.int .i64 0)) 4 (.int .i64 0))]; rfl) | (go_simp; done) | (simpa using heap_alloc_last (w.alloc _) _)) Try.underlying40 rfl (by kernel_rfl)) rfl ?_
        exact ⟨by rw [HF.out]; rfl, by first | exact (below_set (below_set (below_set (below_set (below_set HBW.out (by simp)) (by simp)) (by simp)) (by simp)) (by simp)) | (repeat (first | exact hHB.out | apply below_alloc | refine below_set ?_ (by first | exact Nat.le_refl _ | (simp; done) | (simp; omega))))⟩
      · have HF := Aside0.mk (show intoC ⟨d, e, a, b, c⟩ = (⟨1, e, a, b, c⟩, true) by unfold intoC; simp only [← hq]; rw [if_neg k3, if_neg (by rw [← hrb]; simp), if_neg k1]; simp [St.loop, kn])
        clear hq hrb hin
        go_enter Try.func36, Try.ntmps36
        go_wp2_with (go_at_call 39; refine HC0.out.mono ?_; rintro e1 w1 ⟨rfl, hb⟩; have HX1 := Aside0.mk (blk_below HB1.out hb); have HX2 := Aside0.mk (blk_below HB2.out hb); have HBW := Aside0.mk (below_step hHB2.out hb); clear hb; have p1_0 := (blk_cell HX1.out 0).trans rfl; have p1_1 := (blk_cell HX1.out 1).trans rfl; have p1_2 := (blk_cell HX1.out 2).trans rfl; have p1_3 := (blk_cell HX1.out 3).trans rfl; have p1_4 := (blk_cell HX1.out 4).trans rfl; have r1_0 := (blk_cell HX2.out 0).trans rfl; have r1_1 := (blk_cell HX2.out 1).trans rfl; have r1_2 := (blk_cell HX2.out 2).trans rfl; have r1_3 := (blk_cell HX2.out 3).trans rfl; have r1_4 := (blk_cell HX2.out 4).trans rfl; have f1_0 := blk_frozen HX1.out 0; have f1_1 := blk_frozen HX1.out 1; have f1_2 := blk_frozen HX1.out 2; have f1_3 := blk_frozen HX1.out 3; have f1_4 := blk_frozen HX1.out 4; have g1_0 := blk_frozen HX2.out 0; have g1_1 := blk_frozen HX2.out 1; have g1_2 := blk_frozen HX2.out 2; have g1_3 := blk_frozen HX2.out 3; have g1_4 := blk_frozen HX2.out 4)
        refine bodyPost_ret (results_ct rfl _ _ (w.heap.size + 1) 40 #[.int .i64 1, .int .i64 e, .int .i64 a, .int .i64 b, .int .i64 c] (0, 0) _ rfl (by first | (rw [(blk_set (blk_set (blk_set (blk_set (blk_set HX2.out 0 (.int .i64 1)) 1 (.int .i64 e)) 2 (.int .i64 a)) 3 (.int .i64 b)) 4 (.int .i64 c))]; rfl) | (go_simp; done) | (simpa using heap_alloc_last (w.alloc _) _)) Try.underlying40 rfl (by kernel_rfl)) rfl ?_
        exact ⟨by rw [HF.out]; rfl, by first | exact (below_set (below_set (below_set (below_set (below_set HBW.out (by simp)) (by simp)) (by simp)) (by simp)) (by simp)) | (repeat (first | exact hHB.out | apply below_alloc | refine below_set ?_ (by first | exact Nat.le_refl _ | (simp; done) | (simp; omega))))⟩
    · have hqw := hq.symm
      by_cases kn : b > 0
      · have HF := Aside0.mk (show intoC ⟨d, e, a, b, c⟩ = (St.zero, false) by unfold intoC; simp only [← hq]; rw [if_neg k3, if_neg (by rw [← hrb]; simp), if_neg k1]; simp [St.loop, kn])
        clear hq hrb hin
        go_enter Try.func36, Try.ntmps36
        go_wp2_with (go_at_call 39; refine HC0.out.mono ?_; rintro e1 w1 ⟨rfl, hb⟩; have HX1 := Aside0.mk (blk_below HB1.out hb); have HX2 := Aside0.mk (blk_below HB2.out hb); have HBW := Aside0.mk (below_step hHB2.out hb); clear hb; have p1_0 := (blk_cell HX1.out 0).trans rfl; have p1_1 := (blk_cell HX1.out 1).trans rfl; have p1_2 := (blk_cell HX1.out 2).trans rfl; have p1_3 := (blk_cell HX1.out 3).trans rfl; have p1_4 := (blk_cell HX1.out 4).trans rfl; have r1_0 := (blk_cell HX2.out 0).trans rfl; have r1_1 := (blk_cell HX2.out 1).trans rfl; have r1_2 := (blk_cell HX2.out 2).trans rfl; have r1_3 := (blk_cell HX2.out 3).trans rfl; have r1_4 := (blk_cell HX2.out 4).trans rfl; have f1_0 := blk_frozen HX1.out 0; have f1_1 := blk_frozen HX1.out 1; have f1_2 := blk_frozen HX1.out 2; have f1_3 := blk_frozen HX1.out 3; have f1_4 := blk_frozen HX1.out 4; have g1_0 := blk_frozen HX2.out 0; have g1_1 := blk_frozen HX2.out 1; have g1_2 := blk_frozen HX2.out 2; have g1_3 := blk_frozen HX2.out 3; have g1_4 := blk_frozen HX2.out 4)
        refine bodyPost_ret (results_ct rfl _ _ (w.heap.size + 1) 40 #[.int .i64 0, .int .i64 0, .int .i64 0, .int .i64 0, .int .i64 0] (0, 0) _ rfl (by first | (rw [(blk_set (blk_set (blk_set (blk_set (blk_set HX2.out 0 (.int .i64 0)) 1 (.int .i64 0)) 2 (.int .i64 0)) 3 (.int .i64 0)) 4 (.int .i64 0))]; rfl) | (go_simp; done) | (simpa using heap_alloc_last (w.alloc _) _)) Try.underlying40 rfl (by kernel_rfl)) rfl ?_
        exact ⟨by rw [HF.out]; rfl, by first | exact (below_set (below_set (below_set (below_set (below_set HBW.out (by simp)) (by simp)) (by simp)) (by simp)) (by simp)) | (repeat (first | exact hHB.out | apply below_alloc | refine below_set ?_ (by first | exact Nat.le_refl _ | (simp; done) | (simp; omega))))⟩
      · have HF := Aside0.mk (show intoC ⟨d, e, a, b, c⟩ = (⟨2, e, a, b, c⟩, true) by unfold intoC; simp only [← hq]; rw [if_neg k3, if_neg (by rw [← hrb]; simp), if_neg k1]; simp [St.loop, kn])
        clear hq hrb hin
        go_enter Try.func36, Try.ntmps36
        go_wp2_with (go_at_call 39; refine HC0.out.mono ?_; rintro e1 w1 ⟨rfl, hb⟩; have HX1 := Aside0.mk (blk_below HB1.out hb); have HX2 := Aside0.mk (blk_below HB2.out hb); have HBW := Aside0.mk (below_step hHB2.out hb); clear hb; have p1_0 := (blk_cell HX1.out 0).trans rfl; have p1_1 := (blk_cell HX1.out 1).trans rfl; have p1_2 := (blk_cell HX1.out 2).trans rfl; have p1_3 := (blk_cell HX1.out 3).trans rfl; have p1_4 := (blk_cell HX1.out 4).trans rfl; have r1_0 := (blk_cell HX2.out 0).trans rfl; have r1_1 := (blk_cell HX2.out 1).trans rfl; have r1_2 := (blk_cell HX2.out 2).trans rfl; have r1_3 := (blk_cell HX2.out 3).trans rfl; have r1_4 := (blk_cell HX2.out 4).trans rfl; have f1_0 := blk_frozen HX1.out 0; have f1_1 := blk_frozen HX1.out 1; have f1_2 := blk_frozen HX1.out 2; have f1_3 := blk_frozen HX1.out 3; have f1_4 := blk_frozen HX1.out 4; have g1_0 := blk_frozen HX2.out 0; have g1_1 := blk_frozen HX2.out 1; have g1_2 := blk_frozen HX2.out 2; have g1_3 := blk_frozen HX2.out 3; have g1_4 := blk_frozen HX2.out 4)
        refine bodyPost_ret (results_ct rfl _ _ (w.heap.size + 1) 40 #[.int .i64 2, .int .i64 e, .int .i64 a, .int .i64 b, .int .i64 c] (0, 0) _ rfl (by first | (rw [(blk_set (blk_set (blk_set (blk_set (blk_set HX2.out 0 (.int .i64 2)) 1 (.int .i64 e)) 2 (.int .i64 a)) 3 (.int .i64 b)) 4 (.int .i64 c))]; rfl) | (go_simp; done) | (simpa using heap_alloc_last (w.alloc _) _)) Try.underlying40 rfl (by kernel_rfl)) rfl ?_
        exact ⟨by rw [HF.out]; rfl, by first | exact (below_set (below_set (below_set (below_set (below_set HBW.out (by simp)) (by simp)) (by simp)) (by simp)) (by simp)) | (repeat (first | exact hHB.out | apply below_alloc | refine below_set ?_ (by first | exact Nat.le_refl _ | (simp; done) | (simp; omega))))⟩
    · have hqw := hq.symm
      by_cases kn : c > 0
      · have HF := Aside0.mk (show intoC ⟨d, e, a, b, c⟩ = (St.zero, false) by unfold intoC; simp only [← hq]; rw [if_neg k3, if_neg (by rw [← hrb]; simp), if_neg k1]; simp [St.loop, kn])
        clear hq hrb hin
        go_enter Try.func36, Try.ntmps36
        go_wp2_with (go_at_call 39; refine HC0.out.mono ?_; rintro e1 w1 ⟨rfl, hb⟩; have HX1 := Aside0.mk (blk_below HB1.out hb); have HX2 := Aside0.mk (blk_below HB2.out hb); have HBW := Aside0.mk (below_step hHB2.out hb); clear hb; have p1_0 := (blk_cell HX1.out 0).trans rfl; have p1_1 := (blk_cell HX1.out 1).trans rfl; have p1_2 := (blk_cell HX1.out 2).trans rfl; have p1_3 := (blk_cell HX1.out 3).trans rfl; have p1_4 := (blk_cell HX1.out 4).trans rfl; have r1_0 := (blk_cell HX2.out 0).trans rfl; have r1_1 := (blk_cell HX2.out 1).trans rfl; have r1_2 := (blk_cell HX2.out 2).trans rfl; have r1_3 := (blk_cell HX2.out 3).trans rfl; have r1_4 := (blk_cell HX2.out 4).trans rfl; have f1_0 := blk_frozen HX1.out 0; have f1_1 := blk_frozen HX1.out 1; have f1_2 := blk_frozen HX1.out 2; have f1_3 := blk_frozen HX1.out 3; have f1_4 := blk_frozen HX1.out 4; have g1_0 := blk_frozen HX2.out 0; have g1_1 := blk_frozen HX2.out 1; have g1_2 := blk_frozen HX2.out 2; have g1_3 := blk_frozen HX2.out 3; have g1_4 := blk_frozen HX2.out 4)
        refine bodyPost_ret (results_ct rfl _ _ (w.heap.size + 1) 40 #[.int .i64 0, .int .i64 0, .int .i64 0, .int .i64 0, .int .i64 0] (0, 0) _ rfl (by first | (rw [(blk_set (blk_set (blk_set (blk_set (blk_set HX2.out 0 (.int .i64 0)) 1 (.int .i64 0)) 2 (.int .i64 0)) 3 (.int .i64 0)) 4 (.int .i64 0))]; rfl) | (go_simp; done) | (simpa using heap_alloc_last (w.alloc _) _)) Try.underlying40 rfl (by kernel_rfl)) rfl ?_
        exact ⟨by rw [HF.out]; rfl, by first | exact (below_set (below_set (below_set (below_set (below_set HBW.out (by simp)) (by simp)) (by simp)) (by simp)) (by simp)) | (repeat (first | exact hHB.out | apply below_alloc | refine below_set ?_ (by first | exact Nat.le_refl _ | (simp; done) | (simp; omega))))⟩
      · have HF := Aside0.mk (show intoC ⟨d, e, a, b, c⟩ = (⟨3, e, a, b, c⟩, true) by unfold intoC; simp only [← hq]; rw [if_neg k3, if_neg (by rw [← hrb]; simp), if_neg k1]; simp [St.loop, kn])
        clear hq hrb hin
        go_enter Try.func36, Try.ntmps36
        go_wp2_with (go_at_call 39; refine HC0.out.mono ?_; rintro e1 w1 ⟨rfl, hb⟩; have HX1 := Aside0.mk (blk_below HB1.out hb); have HX2 := Aside0.mk (blk_below HB2.out hb); have HBW := Aside0.mk (below_step hHB2.out hb); clear hb; have p1_0 := (blk_cell HX1.out 0).trans rfl; have p1_1 := (blk_cell HX1.out 1).trans rfl; have p1_2 := (blk_cell HX1.out 2).trans rfl; have p1_3 := (blk_cell HX1.out 3).trans rfl; have p1_4 := (blk_cell HX1.out 4).trans rfl; have r1_0 := (blk_cell HX2.out 0).trans rfl; have r1_1 := (blk_cell HX2.out 1).trans rfl; have r1_2 := (blk_cell HX2.out 2).trans rfl; have r1_3 := (blk_cell HX2.out 3).trans rfl; have r1_4 := (blk_cell HX2.out 4).trans rfl; have f1_0 := blk_frozen HX1.out 0; have f1_1 := blk_frozen HX1.out 1; have f1_2 := blk_frozen HX1.out 2; have f1_3 := blk_frozen HX1.out 3; have f1_4 := blk_frozen HX1.out 4; have g1_0 := blk_frozen HX2.out 0; have g1_1 := blk_frozen HX2.out 1; have g1_2 := blk_frozen HX2.out 2; have g1_3 := blk_frozen HX2.out 3; have g1_4 := blk_frozen HX2.out 4)
        refine bodyPost_ret (results_ct rfl _ _ (w.heap.size + 1) 40 #[.int .i64 3, .int .i64 e, .int .i64 a, .int .i64 b, .int .i64 c] (0, 0) _ rfl (by first | (rw [(blk_set (blk_set (blk_set (blk_set (blk_set HX2.out 0 (.int .i64 3)) 1 (.int .i64 e)) 2 (.int .i64 a)) 3 (.int .i64 b)) 4 (.int .i64 c))]; rfl) | (go_simp; done) | (simpa using heap_alloc_last (w.alloc _) _)) Try.underlying40 rfl (by kernel_rfl)) rfl ?_
        exact ⟨by rw [HF.out]; rfl, by first | exact (below_set (below_set (below_set (below_set (below_set HBW.out (by simp)) (by simp)) (by simp)) (by simp)) (by simp)) | (repeat (first | exact hHB.out | apply below_alloc | refine below_set ?_ (by first | exact Nat.le_refl _ | (simp; done) | (simp; omega))))⟩
end Go.Proofs.Ytcihpjkjodhdpaa.X
namespace Go.Proofs.Ytcihpjkjodhdpaa.X
set_option linter.unusedVariables false
set_option linter.unusedSimpArgs false
open Go.RowKit Go.Proofs.YtcihpjkjodhdpaaW.PrintWords Go.Proofs.YtcihpjkjodhdpaaW.PrintLast Go.Proofs.YtcihpjkjodhdpaaW.PrintMore
def outC (t : St) : St × Bool :=
  if rightB t = false then (St.zero, false) else if t.d = 0 then (St.zero, false) else (⟨t.d - 1, t.e, if t.d = 1 then 0 else t.a, if t.d = 2 then 0 else t.b, if t.d = 3 then 0 else t.c⟩, true)
def stepped (t : St) : St := ⟨t.d, t.e, if t.d = 1 then t.a + 1 else t.a, if t.d = 2 then t.b + 1 else t.b, if t.d = 3 then t.c + 1 else t.c⟩
def stepC (t : St) : St × Bool :=
  if rightB t = false then (St.zero, false) else if t.d = 0 then (St.zero, false) else if rightB (stepped t) = false then (St.zero, false) else (stepped t, true)
set_option maxHeartbeats 8000000 in
set_option maxRecDepth 100000 in
theorem stamp_Out_calls (t : St) (w : World) : Calls Try.prog 37 #[stV t] w fun e w' => e = .returned (.tuple #[stV (outC t).1, .bool (outC t).2]) ∧ Below w.heap.size w w' := by
  obtain ⟨d, e, a, b, c⟩ := t
  show Calls Try.prog 37 #[.agg #[.int .i64 d, .int .i64 e, .int .i64 a, .int .i64 b, .int .i64 c]] w _
  have hHB := Aside0.mk (Below.refl w.heap.size w)
  have HB1 := Aside0.mk (blk_alloc (blk_new w (.cells #[.int .i64 d, .int .i64 e, .int .i64 a, .int .i64 b, .int .i64 c] 40)) (.cells #[.int .i64 0, .int .i64 0, .int .i64 0, .int .i64 0, .int .i64 0] 40))
  have HB2 := Aside0.mk (show (((w.alloc (.cells #[.int .i64 d, .int .i64 e, .int .i64 a, .int .i64 b, .int .i64 c] 40)).alloc (.cells #[.int .i64 0, .int .i64 0, .int .i64 0, .int .i64 0, .int .i64 0] 40))).heap[w.heap.size + 1]? = some (.cells #[.int .i64 0, .int .i64 0, .int .i64 0, .int .i64 0, .int .i64 0] 40 (0, 0)) by simpa using heap_alloc_last (w.alloc (.cells #[.int .i64 d, .int .i64 e, .int .i64 a, .int .i64 b, .int .i64 c] 40)) (.cells #[.int .i64 0, .int .i64 0, .int .i64 0, .int .i64 0, .int .i64 0] 40))
  have hHB2 := Aside0.mk (below_alloc (below_alloc hHB.out (.cells #[.int .i64 d, .int .i64 e, .int .i64 a, .int .i64 b, .int .i64 c] 40)) (.cells #[.int .i64 0, .int .i64 0, .int .i64 0, .int .i64 0, .int .i64 0] 40))
  have HC0 := Aside0.mk (stamp_Right_calls ⟨d, e, a, b, c⟩ (((w.alloc (.cells #[.int .i64 d, .int .i64 e, .int .i64 a, .int .i64 b, .int .i64 c] 40)).alloc (.cells #[.int .i64 0, .int .i64 0, .int .i64 0, .int .i64 0, .int .i64 0] 40))))
  simp only [stV] at HC0
  obtain ⟨rb, hrb⟩ : ∃ rb, rb = rightB ⟨d, e, a, b, c⟩ := ⟨_, rfl⟩
  rw [← hrb] at HC0
  cases rb with
  | false =>
    have HF := Aside0.mk (show outC ⟨d, e, a, b, c⟩ = (St.zero, false) by unfold outC; rw [if_pos hrb.symm])
    clear hrb
    go_enter Try.func37, Try.ntmps37
    go_wp2_with (go_at_call 39; refine HC0.out.mono ?_; rintro e1 w1 ⟨rfl, hb⟩; have HX1 := Aside0.mk (blk_below HB1.out hb); have HX2 := Aside0.mk (blk_below HB2.out hb); have HBW := Aside0.mk (below_step hHB2.out hb); clear hb; have p1_0 := (blk_cell HX1.out 0).trans rfl; have p1_1 := (blk_cell HX1.out 1).trans rfl; have p1_2 := (blk_cell HX1.out 2).trans rfl; have p1_3 := (blk_cell HX1.out 3).trans rfl; have p1_4 := (blk_cell HX1.out 4).trans rfl; have r1_0 := (blk_cell HX2.out 0).trans rfl; have r1_1 := (blk_cell HX2.out 1).trans rfl; have r1_2 := (blk_cell HX2.out 2).trans rfl; have r1_3 := (blk_cell HX2.out 3).trans rfl; have r1_4 := (blk_cell HX2.out 4).trans rfl; have f1_0 := blk_frozen HX1.out 0; have f1_1 := blk_frozen HX1.out 1; have f1_2 := blk_frozen HX1.out 2; have f1_3 := blk_frozen HX1.out 3; have f1_4 := blk_frozen HX1.out 4; have g1_0 := blk_frozen HX2.out 0; have g1_1 := blk_frozen HX2.out 1; have g1_2 := blk_frozen HX2.out 2; have g1_3 := blk_frozen HX2.out 3; have g1_4 := blk_frozen HX2.out 4)
    refine bodyPost_ret (results_ct rfl _ _ (w.heap.size + 1) 40 #[.int .i64 0, .int .i64 0, .int .i64 0, .int .i64 0, .int .i64 0] (0, 0) _ rfl (by first | (rw [(blk_set (blk_set (blk_set (blk_set (blk_set HX2.out 0 (.int .i64 0)) 1 (.int .i64 0)) 2 (.int .i64 0)) 3 (.int .i64 0)) 4 (.int .i64 0))]; rfl) | (go_simp; done) | (simpa using heap_alloc_last (w.alloc _) _)) Try.underlying40 rfl (by kernel_rfl)) rfl ?_
    exact ⟨by rw [HF.out]; rfl, by first | exact (below_set (below_set (below_set (below_set (below_set HBW.out (by simp)) (by simp)) (by simp)) (by simp)) (by simp)) | (repeat (first | exact hHB.out | apply below_alloc | refine below_set ?_ (by first | exact Nat.le_refl _ | (simp; done) | (simp; omega))))⟩
  | true =>
    have hin := right_in hrb.symm
    simp only at hin
    obtain ⟨i0, i1, i2, i3, i4, i5, i6, i7, i8, i9⟩ := hin
    have hd : d = 0 ∨ d = 1 ∨ d = 2 ∨ d = 3 := by omega
    rcases hd with rfl | rfl | rfl | rfl
    · have HF := Aside0.mk (show outC ⟨0, e, a, b, c⟩ = (St.zero, false) by unfold outC; rw [if_neg (by rw [← hrb]; simp)]; simp)
      clear hrb
      go_enter Try.func37, Try.ntmps37
      go_wp2_with (go_at_call 39; refine HC0.out.mono ?_; rintro e1 w1 ⟨rfl, hb⟩; have HX1 := Aside0.mk (blk_below HB1.out hb); have HX2 := Aside0.mk (blk_below HB2.out hb); have HBW := Aside0.mk (below_step hHB2.out hb); clear hb; have p1_0 := (blk_cell HX1.out 0).trans rfl; have p1_1 := (blk_cell HX1.out 1).trans rfl; have p1_2 := (blk_cell HX1.out 2).trans rfl; have p1_3 := (blk_cell HX1.out 3).trans rfl; have p1_4 := (blk_cell HX1.out 4).trans rfl; have r1_0 := (blk_cell HX2.out 0).trans rfl; have r1_1 := (blk_cell HX2.out 1).trans rfl; have r1_2 := (blk_cell HX2.out 2).trans rfl; have r1_3 := (blk_cell HX2.out 3).trans rfl; have r1_4 := (blk_cell HX2.out 4).trans rfl; have f1_0 := blk_frozen HX1.out 0; have f1_1 := blk_frozen HX1.out 1; have f1_2 := blk_frozen HX1.out 2; have f1_3 := blk_frozen HX1.out 3; have f1_4 := blk_frozen HX1.out 4; have g1_0 := blk_frozen HX2.out 0; have g1_1 := blk_frozen HX2.out 1; have g1_2 := blk_frozen HX2.out 2; have g1_3 := blk_frozen HX2.out 3; have g1_4 := blk_frozen HX2.out 4)
      refine bodyPost_ret (results_ct rfl _ _ (w.heap.size + 1) 40 #[.int .i64 0, .int .i64 0, .int .i64 0, .int .i64 0, .int .i64 0] (0, 0) _ rfl (by first | (rw [(blk_set (blk_set (blk_set (blk_set (blk_set HX2.out 0 (.int .i64 0)) 1 (.int .i64 0)) 2 (.int .i64 0)) 3 (.int .i64 0)) 4 (.int .i64 0))]; rfl) | (go_simp; done) | (simpa using heap_alloc_last (w.alloc _) _)) Try.underlying40 rfl (by kernel_rfl)) rfl ?_
      exact ⟨by rw [HF.out]; rfl, by first | exact (below_set (below_set (below_set (below_set (below_set HBW.out (by simp)) (by simp)) (by simp)) (by simp)) (by simp)) | (repeat (first | exact hHB.out | apply below_alloc | refine below_set ?_ (by first | exact Nat.le_refl _ | (simp; done) | (simp; omega))))⟩
    · have HF := Aside0.mk (show outC ⟨1, e, a, b, c⟩ = (⟨0, e, 0, b, c⟩, true) by unfold outC; rw [if_neg (by rw [← hrb]; simp)]; simp)
      clear hrb
      go_enter Try.func37, Try.ntmps37
      go_wp2_with (go_at_call 39; refine HC0.out.mono ?_; rintro e1 w1 ⟨rfl, hb⟩; have HX1 := Aside0.mk (blk_below HB1.out hb); have HX2 := Aside0.mk (blk_below HB2.out hb); have HBW := Aside0.mk (below_step hHB2.out hb); clear hb; have p1_0 := (blk_cell HX1.out 0).trans rfl; have p1_1 := (blk_cell HX1.out 1).trans rfl; have p1_2 := (blk_cell HX1.out 2).trans rfl; have p1_3 := (blk_cell HX1.out 3).trans rfl; have p1_4 := (blk_cell HX1.out 4).trans rfl; have r1_0 := (blk_cell HX2.out 0).trans rfl; have r1_1 := (blk_cell HX2.out 1).trans rfl; have r1_2 := (blk_cell HX2.out 2).trans rfl; have r1_3 := (blk_cell HX2.out 3).trans rfl; have r1_4 := (blk_cell HX2.out 4).trans rfl; have f1_0 := blk_frozen HX1.out 0; have f1_1 := blk_frozen HX1.out 1; have f1_2 := blk_frozen HX1.out 2; have f1_3 := blk_frozen HX1.out 3; have f1_4 := blk_frozen HX1.out 4; have g1_0 := blk_frozen HX2.out 0; have g1_1 := blk_frozen HX2.out 1; have g1_2 := blk_frozen HX2.out 2; have g1_3 := blk_frozen HX2.out 3; have g1_4 := blk_frozen HX2.out 4)
      refine bodyPost_ret (results_ct rfl _ _ (w.heap.size + 1) 40 #[.int .i64 0, .int .i64 e, .int .i64 0, .int .i64 b, .int .i64 c] (0, 0) _ rfl (by first | (rw [(blk_set (blk_set (blk_set (blk_set (blk_set (blk_far (blk_far HX2.out (by simp) _) (by simp) _) 0 (.int .i64 0)) 1 (.int .i64 e)) 2 (.int .i64 0)) 3 (.int .i64 b)) 4 (.int .i64 c))]; rfl) | (go_simp; done) | (simpa using heap_alloc_last (w.alloc _) _)) Try.underlying40 rfl (by kernel_rfl)) rfl ?_
      exact ⟨by rw [HF.out]; rfl, by first | exact (below_set (below_set (below_set (below_set (below_set (below_set (below_set HBW.out (by simp)) (by simp)) (by simp)) (by simp)) (by simp)) (by simp)) (by simp)) | (repeat (first | exact hHB.out | apply below_alloc | refine below_set ?_ (by first | exact Nat.le_refl _ | (simp; done) | (simp; omega))))⟩
    · have HF := Aside0.mk (show outC ⟨2, e, a, b, c⟩ = (⟨1, e, a, 0, c⟩, true) by unfold outC; rw [if_neg (by rw [← hrb]; simp)]; simp)
      clear hrb
      go_enter Try.func37, Try.ntmps37
      go_wp2_with (go_at_call 39; refine HC0.out.mono ?_; rintro e1 w1 ⟨rfl, hb⟩; have HX1 := Aside0.mk (blk_below HB1.out hb); have HX2 := Aside0.mk (blk_below HB2.out hb); have HBW := Aside0.mk (below_step hHB2.out hb); clear hb; have p1_0 := (blk_cell HX1.out 0).trans rfl; have p1_1 := (blk_cell HX1.out 1).trans rfl; have p1_2 := (blk_cell HX1.out 2).trans rfl; have p1_3 := (blk_cell HX1.out 3).trans rfl; have p1_4 := (blk_cell HX1.out 4).trans rfl; have r1_0 := (blk_cell HX2.out 0).trans rfl; have r1_1 := (blk_cell HX2.out 1).trans rfl; have r1_2 := (blk_cell HX2.out 2).trans rfl; have r1_3 := (blk_cell HX2.out 3).trans rfl; have r1_4 := (blk_cell HX2.out 4).trans rfl; have f1_0 := blk_frozen HX1.out 0; have f1_1 := blk_frozen HX1.out 1; have f1_2 := blk_frozen HX1.out 2; have f1_3 := blk_frozen HX1.out 3; have f1_4 := blk_frozen HX1.out 4; have g1_0 := blk_frozen HX2.out 0; have g1_1 := blk_frozen HX2.out 1; have g1_2 := blk_frozen HX2.out 2; have g1_3 := blk_frozen HX2.out 3; have g1_4 := blk_frozen HX2.out 4)
      refine bodyPost_ret (results_ct rfl _ _ (w.heap.size + 1) 40 #[.int .i64 1, .int .i64 e, .int .i64 a, .int .i64 0, .int .i64 c] (0, 0) _ rfl (by first | (rw [(blk_set (blk_set (blk_set (blk_set (blk_set (blk_far (blk_far HX2.out (by simp) _) (by simp) _) 0 (.int .i64 1)) 1 (.int .i64 e)) 2 (.int .i64 a)) 3 (.int .i64 0)) 4 (.int .i64 c))]; rfl) | (go_simp; done) | (simpa using heap_alloc_last (w.alloc _) _)) Try.underlying40 rfl (by kernel_rfl)) rfl ?_
      exact ⟨by rw [HF.out]; rfl, by first | exact (below_set (below_set (below_set (below_set (below_set (below_set (below_set HBW.out (by simp)) (by simp)) (by simp)) (by simp)) (by simp)) (by simp)) (by simp)) | (repeat (first | exact hHB.out | apply below_alloc | refine below_set ?_ (by first | exact Nat.le_refl _ | (simp; done) | (simp; omega))))⟩
    · have HF := Aside0.mk (show outC ⟨3, e, a, b, c⟩ = (⟨2, e, a, b, 0⟩, true) by unfold outC; rw [if_neg (by rw [← hrb]; simp)]; simp)
      clear hrb
      go_enter Try.func37, Try.ntmps37
      go_wp2_with (go_at_call 39; refine HC0.out.mono ?_; rintro e1 w1 ⟨rfl, hb⟩; have HX1 := Aside0.mk (blk_below HB1.out hb); have HX2 := Aside0.mk (blk_below HB2.out hb); have HBW := Aside0.mk (below_step hHB2.out hb); clear hb; have p1_0 := (blk_cell HX1.out 0).trans rfl; have p1_1 := (blk_cell HX1.out 1).trans rfl; have p1_2 := (blk_cell HX1.out 2).trans rfl; have p1_3 := (blk_cell HX1.out 3).trans rfl; have p1_4 := (blk_cell HX1.out 4).trans rfl; have r1_0 := (blk_cell HX2.out 0).trans rfl; have r1_1 := (blk_cell HX2.out 1).trans rfl; have r1_2 := (blk_cell HX2.out 2).trans rfl; have r1_3 := (blk_cell HX2.out 3).trans rfl; have r1_4 := (blk_cell HX2.out 4).trans rfl; have f1_0 := blk_frozen HX1.out 0; have f1_1 := blk_frozen HX1.out 1; have f1_2 := blk_frozen HX1.out 2; have f1_3 := blk_frozen HX1.out 3; have f1_4 := blk_frozen HX1.out 4; have g1_0 := blk_frozen HX2.out 0; have g1_1 := blk_frozen HX2.out 1; have g1_2 := blk_frozen HX2.out 2; have g1_3 := blk_frozen HX2.out 3; have g1_4 := blk_frozen HX2.out 4)
      refine bodyPost_ret (results_ct rfl _ _ (w.heap.size + 1) 40 #[.int .i64 2, .int .i64 e, .int .i64 a, .int .i64 b, .int .i64 0] (0, 0) _ rfl (by first | (rw [(blk_set (blk_set (blk_set (blk_set (blk_set (blk_far (blk_far HX2.out (by simp) _) (by simp) _) 0 (.int .i64 2)) 1 (.int .i64 e)) 2 (.int .i64 a)) 3 (.int .i64 b)) 4 (.int .i64 0))]; rfl) | (go_simp; done) | (simpa using heap_alloc_last (w.alloc _) _)) Try.underlying40 rfl (by kernel_rfl)) rfl ?_
      exact ⟨by rw [HF.out]; rfl, by first | exact (below_set (below_set (below_set (below_set (below_set (below_set (below_set HBW.out (by simp)) (by simp)) (by simp)) (by simp)) (by simp)) (by simp)) (by simp)) | (repeat (first | exact hHB.out | apply below_alloc | refine below_set ?_ (by first | exact Nat.le_refl _ | (simp; done) | (simp; omega))))⟩
set_option maxHeartbeats 8000000 in
set_option maxRecDepth 100000 in
theorem stamp_Step_calls (t : St) (w : World) : Calls Try.prog 38 #[stV t] w fun e w' => e = .returned (.tuple #[stV (stepC t).1, .bool (stepC t).2]) ∧ Below w.heap.size w w' := by
  obtain ⟨d, e, a, b, c⟩ := t
  show Calls Try.prog 38 #[.agg #[.int .i64 d, .int .i64 e, .int .i64 a, .int .i64 b, .int .i64 c]] w _
  have hHB := Aside0.mk (Below.refl w.heap.size w)
  have HB1 := Aside0.mk (blk_alloc (blk_new w (.cells #[.int .i64 d, .int .i64 e, .int .i64 a, .int .i64 b, .int .i64 c] 40)) (.cells #[.int .i64 0, .int .i64 0, .int .i64 0, .int .i64 0, .int .i64 0] 40))
  have HB2 := Aside0.mk (show (((w.alloc (.cells #[.int .i64 d, .int .i64 e, .int .i64 a, .int .i64 b, .int .i64 c] 40)).alloc (.cells #[.int .i64 0, .int .i64 0, .int .i64 0, .int .i64 0, .int .i64 0] 40))).heap[w.heap.size + 1]? = some (.cells #[.int .i64 0, .int .i64 0, .int .i64 0, .int .i64 0, .int .i64 0] 40 (0, 0)) by simpa using heap_alloc_last (w.alloc (.cells #[.int .i64 d, .int .i64 e, .int .i64 a, .int .i64 b, .int .i64 c] 40)) (.cells #[.int .i64 0, .int .i64 0, .int .i64 0, .int .i64 0, .int .i64 0] 40))
  have hHB2 := Aside0.mk (below_alloc (below_alloc hHB.out (.cells #[.int .i64 d, .int .i64 e, .int .i64 a, .int .i64 b, .int .i64 c] 40)) (.cells #[.int .i64 0, .int .i64 0, .int .i64 0, .int .i64 0, .int .i64 0] 40))
  have HC0 := Aside0.mk (stamp_Right_calls ⟨d, e, a, b, c⟩ (((w.alloc (.cells #[.int .i64 d, .int .i64 e, .int .i64 a, .int .i64 b, .int .i64 c] 40)).alloc (.cells #[.int .i64 0, .int .i64 0, .int .i64 0, .int .i64 0, .int .i64 0] 40))))
  simp only [stV] at HC0
  obtain ⟨rb, hrb⟩ : ∃ rb, rb = rightB ⟨d, e, a, b, c⟩ := ⟨_, rfl⟩
  rw [← hrb] at HC0
  cases rb with
  | false =>
    have HF := Aside0.mk (show stepC ⟨d, e, a, b, c⟩ = (St.zero, false) by unfold stepC; rw [if_pos hrb.symm])
    clear hrb
    go_enter Try.func38, Try.ntmps38
    go_wp2_with (go_at_call 39; refine HC0.out.mono ?_; rintro e1 w1 ⟨rfl, hb⟩; have HX1 := Aside0.mk (blk_below HB1.out hb); have HX2 := Aside0.mk (blk_below HB2.out hb); have HBW := Aside0.mk (below_step hHB2.out hb); clear hb; have p1_0 := (blk_cell HX1.out 0).trans rfl; have p1_1 := (blk_cell HX1.out 1).trans rfl; have p1_2 := (blk_cell HX1.out 2).trans rfl; have p1_3 := (blk_cell HX1.out 3).trans rfl; have p1_4 := (blk_cell HX1.out 4).trans rfl; have r1_0 := (blk_cell HX2.out 0).trans rfl; have r1_1 := (blk_cell HX2.out 1).trans rfl; have r1_2 := (blk_cell HX2.out 2).trans rfl; have r1_3 := (blk_cell HX2.out 3).trans rfl; have r1_4 := (blk_cell HX2.out 4).trans rfl; have f1_0 := blk_frozen HX1.out 0; have f1_1 := blk_frozen HX1.out 1; have f1_2 := blk_frozen HX1.out 2; have f1_3 := blk_frozen HX1.out 3; have f1_4 := blk_frozen HX1.out 4; have g1_0 := blk_frozen HX2.out 0; have g1_1 := blk_frozen HX2.out 1; have g1_2 := blk_frozen HX2.out 2; have g1_3 := blk_frozen HX2.out 3; have g1_4 := blk_frozen HX2.out 4)
    refine bodyPost_ret (results_ct rfl _ _ (w.heap.size + 1) 40 #[.int .i64 0, .int .i64 0, .int .i64 0, .int .i64 0, .int .i64 0] (0, 0) _ rfl (by first | (rw [(blk_set (blk_set (blk_set (blk_set (blk_set HX2.out 0 (.int .i64 0)) 1 (.int .i64 0)) 2 (.int .i64 0)) 3 (.int .i64 0)) 4 (.int .i64 0))]; rfl) | (go_simp; done) | (simpa using heap_alloc_last (w.alloc _) _)) Try.underlying40 rfl (by kernel_rfl)) rfl ?_
    exact ⟨by rw [HF.out]; rfl, by first | exact (below_set (below_set (below_set (below_set (below_set HBW.out (by simp)) (by simp)) (by simp)) (by simp)) (by simp)) | (repeat (first | exact hHB.out | apply below_alloc | refine below_set ?_ (by first | exact Nat.le_refl _ | (simp; done) | (simp; omega))))⟩
  | true =>
    have hin := right_in hrb.symm
    simp only at hin
    obtain ⟨i0, i1, i2, i3, i4, i5, i6, i7, i8, i9⟩ := hin
    have hd : d = 0 ∨ d = 1 ∨ d = 2 ∨ d = 3 := by omega
    rcases hd with rfl | rfl | rfl | rfl
    · have HF := Aside0.mk (show stepC ⟨0, e, a, b, c⟩ = (St.zero, false) by unfold stepC; rw [if_neg (by rw [← hrb]; simp)]; simp)
      clear hrb
      go_enter Try.func38, Try.ntmps38
      go_wp2_with (go_at_call 39; refine HC0.out.mono ?_; rintro e1 w1 ⟨rfl, hb⟩; have HX1 := Aside0.mk (blk_below HB1.out hb); have HX2 := Aside0.mk (blk_below HB2.out hb); have HBW := Aside0.mk (below_step hHB2.out hb); clear hb; have p1_0 := (blk_cell HX1.out 0).trans rfl; have p1_1 := (blk_cell HX1.out 1).trans rfl; have p1_2 := (blk_cell HX1.out 2).trans rfl; have p1_3 := (blk_cell HX1.out 3).trans rfl; have p1_4 := (blk_cell HX1.out 4).trans rfl; have r1_0 := (blk_cell HX2.out 0).trans rfl; have r1_1 := (blk_cell HX2.out 1).trans rfl; have r1_2 := (blk_cell HX2.out 2).trans rfl; have r1_3 := (blk_cell HX2.out 3).trans rfl; have r1_4 := (blk_cell HX2.out 4).trans rfl; have f1_0 := blk_frozen HX1.out 0; have f1_1 := blk_frozen HX1.out 1; have f1_2 := blk_frozen HX1.out 2; have f1_3 := blk_frozen HX1.out 3; have f1_4 := blk_frozen HX1.out 4; have g1_0 := blk_frozen HX2.out 0; have g1_1 := blk_frozen HX2.out 1; have g1_2 := blk_frozen HX2.out 2; have g1_3 := blk_frozen HX2.out 3; have g1_4 := blk_frozen HX2.out 4)
      refine bodyPost_ret (results_ct rfl _ _ (w.heap.size + 1) 40 #[.int .i64 0, .int .i64 0, .int .i64 0, .int .i64 0, .int .i64 0] (0, 0) _ rfl (by first | (rw [(blk_set (blk_set (blk_set (blk_set (blk_set HX2.out 0 (.int .i64 0)) 1 (.int .i64 0)) 2 (.int .i64 0)) 3 (.int .i64 0)) 4 (.int .i64 0))]; rfl) | (go_simp; done) | (simpa using heap_alloc_last (w.alloc _) _)) Try.underlying40 rfl (by kernel_rfl)) rfl ?_
      exact ⟨by rw [HF.out]; rfl, by first | exact (below_set (below_set (below_set (below_set (below_set HBW.out (by simp)) (by simp)) (by simp)) (by simp)) (by simp)) | (repeat (first | exact hHB.out | apply below_alloc | refine below_set ?_ (by first | exact Nat.le_refl _ | (simp; done) | (simp; omega))))⟩
    · have HC1 := Aside0.mk (fun W => stamp_Right_calls ⟨1, e, a + 1, b, c⟩ W)
      simp only [stV] at HC1
      obtain ⟨rc, hrc⟩ : ∃ rc, rc = rightB ⟨1, e, a + 1, b, c⟩ := ⟨_, rfl⟩
      rw [← hrc] at HC1
      cases rc with
      | false =>
        have HF := Aside0.mk (show stepC ⟨1, e, a, b, c⟩ = (St.zero, false) by unfold stepC; rw [if_neg (by rw [← hrb]; simp)]; simp [stepped, ← hrc])
        clear hrb hrc
        go_enter Try.func38, Try.ntmps38
        go_wp2_with (first | (go_at_call_has 39 (Value.int .i64 (a + 1)); refine (HC1.out _).mono ?_; rintro e2 w2 ⟨rfl, hb⟩; have HY1 := Aside0.mk (blk_below (blk_set HX1.out 2 (.int .i64 (a + 1))) hb); have HY2 := Aside0.mk (blk_below (blk_far HX2.out (by simp) _) hb); have HBY := Aside0.mk (below_step (below_set HBW.out (by simp)) hb); clear hb; have p2_0 := (blk_cell HY1.out 0).trans rfl; have p2_1 := (blk_cell HY1.out 1).trans rfl; have p2_2 := (blk_cell HY1.out 2).trans rfl; have p2_3 := (blk_cell HY1.out 3).trans rfl; have p2_4 := (blk_cell HY1.out 4).trans rfl; have r2_0 := (blk_cell HY2.out 0).trans rfl; have r2_1 := (blk_cell HY2.out 1).trans rfl; have r2_2 := (blk_cell HY2.out 2).trans rfl; have r2_3 := (blk_cell HY2.out 3).trans rfl; have r2_4 := (blk_cell HY2.out 4).trans rfl; have f2_0 := blk_frozen HY1.out 0; have f2_1 := blk_frozen HY1.out 1; have f2_2 := blk_frozen HY1.out 2; have f2_3 := blk_frozen HY1.out 3; have f2_4 := blk_frozen HY1.out 4; have g2_0 := blk_frozen HY2.out 0; have g2_1 := blk_frozen HY2.out 1; have g2_2 := blk_frozen HY2.out 2; have g2_3 := blk_frozen HY2.out 3; have g2_4 := blk_frozen HY2.out 4) | (go_at_call 39; refine HC0.out.mono ?_; rintro e1 w1 ⟨rfl, hb⟩; have HX1 := Aside0.mk (blk_below HB1.out hb); have HX2 := Aside0.mk (blk_below HB2.out hb); have HBW := Aside0.mk (below_step hHB2.out hb); clear hb; have p1_0 := (blk_cell HX1.out 0).trans rfl; have p1_1 := (blk_cell HX1.out 1).trans rfl; have p1_2 := (blk_cell HX1.out 2).trans rfl; have p1_3 := (blk_cell HX1.out 3).trans rfl; have p1_4 := (blk_cell HX1.out 4).trans rfl; have r1_0 := (blk_cell HX2.out 0).trans rfl; have r1_1 := (blk_cell HX2.out 1).trans rfl; have r1_2 := (blk_cell HX2.out 2).trans rfl; have r1_3 := (blk_cell HX2.out 3).trans rfl; have r1_4 := (blk_cell HX2.out 4).trans rfl; have f1_0 := blk_frozen HX1.out 0; have f1_1 := blk_frozen HX1.out 1; have f1_2 := blk_frozen HX1.out 2; have f1_3 := blk_frozen HX1.out 3; have f1_4 := blk_frozen HX1.out 4; have g1_0 := blk_frozen HX2.out 0; have g1_1 := blk_frozen HX2.out 1; have g1_2 := blk_frozen HX2.out 2; have g1_3 := blk_frozen HX2.out 3; have g1_4 := blk_frozen HX2.out 4))
        refine bodyPost_ret (results_ct rfl _ _ (w.heap.size + 1) 40 #[.int .i64 0, .int .i64 0, .int .i64 0, .int .i64 0, .int .i64 0] (0, 0) _ rfl (by first | (rw [(blk_set (blk_set (blk_set (blk_set (blk_set HY2.out 0 (.int .i64 0)) 1 (.int .i64 0)) 2 (.int .i64 0)) 3 (.int .i64 0)) 4 (.int .i64 0))]; rfl) | (go_simp; done) | (simpa using heap_alloc_last (w.alloc _) _)) Try.underlying40 rfl (by kernel_rfl)) rfl ?_
        exact ⟨by rw [HF.out]; rfl, by first | exact (below_set (below_set (below_set (below_set (below_set HBY.out (by simp)) (by simp)) (by simp)) (by simp)) (by simp)) | (repeat (first | exact hHB.out | apply below_alloc | refine below_set ?_ (by first | exact Nat.le_refl _ | (simp; done) | (simp; omega))))⟩
      | true =>
        have HF := Aside0.mk (show stepC ⟨1, e, a, b, c⟩ = (⟨1, e, a + 1, b, c⟩, true) by unfold stepC; rw [if_neg (by rw [← hrb]; simp)]; simp [stepped, ← hrc])
        clear hrb hrc
        go_enter Try.func38, Try.ntmps38
        go_wp2_with (first | (go_at_call_has 39 (Value.int .i64 (a + 1)); refine (HC1.out _).mono ?_; rintro e2 w2 ⟨rfl, hb⟩; have HY1 := Aside0.mk (blk_below (blk_set HX1.out 2 (.int .i64 (a + 1))) hb); have HY2 := Aside0.mk (blk_below (blk_far HX2.out (by simp) _) hb); have HBY := Aside0.mk (below_step (below_set HBW.out (by simp)) hb); clear hb; have p2_0 := (blk_cell HY1.out 0).trans rfl; have p2_1 := (blk_cell HY1.out 1).trans rfl; have p2_2 := (blk_cell HY1.out 2).trans rfl; have p2_3 := (blk_cell HY1.out 3).trans rfl; have p2_4 := (blk_cell HY1.out 4).trans rfl; have r2_0 := (blk_cell HY2.out 0).trans rfl; have r2_1 := (blk_cell HY2.out 1).trans rfl; have r2_2 := (blk_cell HY2.out 2).trans rfl; have r2_3 := (blk_cell HY2.out 3).trans rfl; have r2_4 := (blk_cell HY2.out 4).trans rfl; have f2_0 := blk_frozen HY1.out 0; have f2_1 := blk_frozen HY1.out 1; have f2_2 := blk_frozen HY1.out 2; have f2_3 := blk_frozen HY1.out 3; have f2_4 := blk_frozen HY1.out 4; have g2_0 := blk_frozen HY2.out 0; have g2_1 := blk_frozen HY2.out 1; have g2_2 := blk_frozen HY2.out 2; have g2_3 := blk_frozen HY2.out 3; have g2_4 := blk_frozen HY2.out 4) | (go_at_call 39; refine HC0.out.mono ?_; rintro e1 w1 ⟨rfl, hb⟩; have HX1 := Aside0.mk (blk_below HB1.out hb); have HX2 := Aside0.mk (blk_below HB2.out hb); have HBW := Aside0.mk (below_step hHB2.out hb); clear hb; have p1_0 := (blk_cell HX1.out 0).trans rfl; have p1_1 := (blk_cell HX1.out 1).trans rfl; have p1_2 := (blk_cell HX1.out 2).trans rfl; have p1_3 := (blk_cell HX1.out 3).trans rfl; have p1_4 := (blk_cell HX1.out 4).trans rfl; have r1_0 := (blk_cell HX2.out 0).trans rfl; have r1_1 := (blk_cell HX2.out 1).trans rfl; have r1_2 := (blk_cell HX2.out 2).trans rfl; have r1_3 := (blk_cell HX2.out 3).trans rfl; have r1_4 := (blk_cell HX2.out 4).trans rfl; have f1_0 := blk_frozen HX1.out 0; have f1_1 := blk_frozen HX1.out 1; have f1_2 := blk_frozen HX1.out 2; have f1_3 := blk_frozen HX1.out 3; have f1_4 := blk_frozen HX1.out 4; have g1_0 := blk_frozen HX2.out 0; have g1_1 := blk_frozen HX2.out 1; have g1_2 := blk_frozen HX2.out 2; have g1_3 := blk_frozen HX2.out 3; have g1_4 := blk_frozen HX2.out 4))
        refine bodyPost_ret (results_ct rfl _ _ (w.heap.size + 1) 40 #[.int .i64 1, .int .i64 e, .int .i64 (a + 1), .int .i64 b, .int .i64 c] (0, 0) _ rfl (by first | (rw [(blk_set (blk_set (blk_set (blk_set (blk_set HY2.out 0 (.int .i64 1)) 1 (.int .i64 e)) 2 (.int .i64 (a + 1))) 3 (.int .i64 b)) 4 (.int .i64 c))]; rfl) | (go_simp; done) | (simpa using heap_alloc_last (w.alloc _) _)) Try.underlying40 rfl (by kernel_rfl)) rfl ?_
        exact ⟨by rw [HF.out]; rfl, by first | exact (below_set (below_set (below_set (below_set (below_set HBY.out (by simp)) (by simp)) (by simp)) (by simp)) (by simp)) | (repeat (first | exact hHB.out | apply below_alloc | refine below_set ?_ (by first | exact Nat.le_refl _ | (simp; done) | (simp; omega))))⟩
    · have HC1 := Aside0.mk (fun W => stamp_Right_calls ⟨2, e, a, b + 1, c⟩ W)
      simp only [stV] at HC1
      obtain ⟨rc, hrc⟩ : ∃ rc, rc = rightB ⟨2, e, a, b + 1, c⟩ := ⟨_, rfl⟩
      rw [← hrc] at HC1
      cases rc with
      | false =>
        have HF := Aside0.mk (show stepC ⟨2, e, a, b, c⟩ = (St.zero, false) by unfold stepC; rw [if_neg (by rw [← hrb]; simp)]; simp [stepped, ← hrc])
        clear hrb hrc
        go_enter Try.func38, Try.ntmps38
        go_wp2_with (first | (go_at_call_has 39 (Value.int .i64 (b + 1)); refine (HC1.out _).mono ?_; rintro e2 w2 ⟨rfl, hb⟩; have HY1 := Aside0.mk (blk_below (blk_set HX1.out 3 (.int .i64 (b + 1))) hb); have HY2 := Aside0.mk (blk_below (blk_far HX2.out (by simp) _) hb); have HBY := Aside0.mk (below_step (below_set HBW.out (by simp)) hb); clear hb; have p2_0 := (blk_cell HY1.out 0).trans rfl; have p2_1 := (blk_cell HY1.out 1).trans rfl; have p2_2 := (blk_cell HY1.out 2).trans rfl; have p2_3 := (blk_cell HY1.out 3).trans rfl; have p2_4 := (blk_cell HY1.out 4).trans rfl; have r2_0 := (blk_cell HY2.out 0).trans rfl; have r2_1 := (blk_cell HY2.out 1).trans rfl; have r2_2 := (blk_cell HY2.out 2).trans rfl; have r2_3 := (blk_cell HY2.out 3).trans rfl; have r2_4 := (blk_cell HY2.out 4).trans rfl; have f2_0 := blk_frozen HY1.out 0; have f2_1 := blk_frozen HY1.out 1; have f2_2 := blk_frozen HY1.out 2; have f2_3 := blk_frozen HY1.out 3; have f2_4 := blk_frozen HY1.out 4; have g2_0 := blk_frozen HY2.out 0; have g2_1 := blk_frozen HY2.out 1; have g2_2 := blk_frozen HY2.out 2; have g2_3 := blk_frozen HY2.out 3; have g2_4 := blk_frozen HY2.out 4) | (go_at_call 39; refine HC0.out.mono ?_; rintro e1 w1 ⟨rfl, hb⟩; have HX1 := Aside0.mk (blk_below HB1.out hb); have HX2 := Aside0.mk (blk_below HB2.out hb); have HBW := Aside0.mk (below_step hHB2.out hb); clear hb; have p1_0 := (blk_cell HX1.out 0).trans rfl; have p1_1 := (blk_cell HX1.out 1).trans rfl; have p1_2 := (blk_cell HX1.out 2).trans rfl; have p1_3 := (blk_cell HX1.out 3).trans rfl; have p1_4 := (blk_cell HX1.out 4).trans rfl; have r1_0 := (blk_cell HX2.out 0).trans rfl; have r1_1 := (blk_cell HX2.out 1).trans rfl; have r1_2 := (blk_cell HX2.out 2).trans rfl; have r1_3 := (blk_cell HX2.out 3).trans rfl; have r1_4 := (blk_cell HX2.out 4).trans rfl; have f1_0 := blk_frozen HX1.out 0; have f1_1 := blk_frozen HX1.out 1; have f1_2 := blk_frozen HX1.out 2; have f1_3 := blk_frozen HX1.out 3; have f1_4 := blk_frozen HX1.out 4; have g1_0 := blk_frozen HX2.out 0; have g1_1 := blk_frozen HX2.out 1; have g1_2 := blk_frozen HX2.out 2; have g1_3 := blk_frozen HX2.out 3; have g1_4 := blk_frozen HX2.out 4))
        refine bodyPost_ret (results_ct rfl _ _ (w.heap.size + 1) 40 #[.int .i64 0, .int .i64 0, .int .i64 0, .int .i64 0, .int .i64 0] (0, 0) _ rfl (by first | (rw [(blk_set (blk_set (blk_set (blk_set (blk_set HY2.out 0 (.int .i64 0)) 1 (.int .i64 0)) 2 (.int .i64 0)) 3 (.int .i64 0)) 4 (.int .i64 0))]; rfl) | (go_simp; done) | (simpa using heap_alloc_last (w.alloc _) _)) Try.underlying40 rfl (by kernel_rfl)) rfl ?_
        exact ⟨by rw [HF.out]; rfl, by first | exact (below_set (below_set (below_set (below_set (below_set HBY.out (by simp)) (by simp)) (by simp)) (by simp)) (by simp)) | (repeat (first | exact hHB.out | apply below_alloc | refine below_set ?_ (by first | exact Nat.le_refl _ | (simp; done) | (simp; omega))))⟩
      | true =>
        have HF := Aside0.mk (show stepC ⟨2, e, a, b, c⟩ = (⟨2, e, a, b + 1, c⟩, true) by unfold stepC; rw [if_neg (by rw [← hrb]; simp)]; simp [stepped, ← hrc])
        clear hrb hrc
        go_enter Try.func38, Try.ntmps38
        go_wp2_with (first | (go_at_call_has 39 (Value.int .i64 (b + 1)); refine (HC1.out _).mono ?_; rintro e2 w2 ⟨rfl, hb⟩; have HY1 := Aside0.mk (blk_below (blk_set HX1.out 3 (.int .i64 (b + 1))) hb); have HY2 := Aside0.mk (blk_below (blk_far HX2.out (by simp) _) hb); have HBY := Aside0.mk (below_step (below_set HBW.out (by simp)) hb); clear hb; have p2_0 := (blk_cell HY1.out 0).trans rfl; have p2_1 := (blk_cell HY1.out 1).trans rfl; have p2_2 := (blk_cell HY1.out 2).trans rfl; have p2_3 := (blk_cell HY1.out 3).trans rfl; have p2_4 := (blk_cell HY1.out 4).trans rfl; have r2_0 := (blk_cell HY2.out 0).trans rfl; have r2_1 := (blk_cell HY2.out 1).trans rfl; have r2_2 := (blk_cell HY2.out 2).trans rfl; have r2_3 := (blk_cell HY2.out 3).trans rfl; have r2_4 := (blk_cell HY2.out 4).trans rfl; have f2_0 := blk_frozen HY1.out 0; have f2_1 := blk_frozen HY1.out 1; have f2_2 := blk_frozen HY1.out 2; have f2_3 := blk_frozen HY1.out 3; have f2_4 := blk_frozen HY1.out 4; have g2_0 := blk_frozen HY2.out 0; have g2_1 := blk_frozen HY2.out 1; have g2_2 := blk_frozen HY2.out 2; have g2_3 := blk_frozen HY2.out 3; have g2_4 := blk_frozen HY2.out 4) | (go_at_call 39; refine HC0.out.mono ?_; rintro e1 w1 ⟨rfl, hb⟩; have HX1 := Aside0.mk (blk_below HB1.out hb); have HX2 := Aside0.mk (blk_below HB2.out hb); have HBW := Aside0.mk (below_step hHB2.out hb); clear hb; have p1_0 := (blk_cell HX1.out 0).trans rfl; have p1_1 := (blk_cell HX1.out 1).trans rfl; have p1_2 := (blk_cell HX1.out 2).trans rfl; have p1_3 := (blk_cell HX1.out 3).trans rfl; have p1_4 := (blk_cell HX1.out 4).trans rfl; have r1_0 := (blk_cell HX2.out 0).trans rfl; have r1_1 := (blk_cell HX2.out 1).trans rfl; have r1_2 := (blk_cell HX2.out 2).trans rfl; have r1_3 := (blk_cell HX2.out 3).trans rfl; have r1_4 := (blk_cell HX2.out 4).trans rfl; have f1_0 := blk_frozen HX1.out 0; have f1_1 := blk_frozen HX1.out 1; have f1_2 := blk_frozen HX1.out 2; have f1_3 := blk_frozen HX1.out 3; have f1_4 := blk_frozen HX1.out 4; have g1_0 := blk_frozen HX2.out 0; have g1_1 := blk_frozen HX2.out 1; have g1_2 := blk_frozen HX2.out 2; have g1_3 := blk_frozen HX2.out 3; have g1_4 := blk_frozen HX2.out 4))
        refine bodyPost_ret (results_ct rfl _ _ (w.heap.size + 1) 40 #[.int .i64 2, .int .i64 e, .int .i64 a, .int .i64 (b + 1), .int .i64 c] (0, 0) _ rfl (by first | (rw [(blk_set (blk_set (blk_set (blk_set (blk_set HY2.out 0 (.int .i64 2)) 1 (.int .i64 e)) 2 (.int .i64 a)) 3 (.int .i64 (b + 1))) 4 (.int .i64 c))]; rfl) | (go_simp; done) | (simpa using heap_alloc_last (w.alloc _) _)) Try.underlying40 rfl (by kernel_rfl)) rfl ?_
        exact ⟨by rw [HF.out]; rfl, by first | exact (below_set (below_set (below_set (below_set (below_set HBY.out (by simp)) (by simp)) (by simp)) (by simp)) (by simp)) | (repeat (first | exact hHB.out | apply below_alloc | refine below_set ?_ (by first | exact Nat.le_refl _ | (simp; done) | (simp; omega))))⟩
    · have HC1 := Aside0.mk (fun W => stamp_Right_calls ⟨3, e, a, b, c + 1⟩ W)
      simp only [stV] at HC1
      obtain ⟨rc, hrc⟩ : ∃ rc, rc = rightB ⟨3, e, a, b, c + 1⟩ := ⟨_, rfl⟩
      rw [← hrc] at HC1
      cases rc with
      | false =>
        have HF := Aside0.mk (show stepC ⟨3, e, a, b, c⟩ = (St.zero, false) by unfold stepC; rw [if_neg (by rw [← hrb]; simp)]; simp [stepped, ← hrc])
        clear hrb hrc
        go_enter Try.func38, Try.ntmps38
        go_wp2_with (first | (go_at_call_has 39 (Value.int .i64 (c + 1)); refine (HC1.out _).mono ?_; rintro e2 w2 ⟨rfl, hb⟩; have HY1 := Aside0.mk (blk_below (blk_set HX1.out 4 (.int .i64 (c + 1))) hb); have HY2 := Aside0.mk (blk_below (blk_far HX2.out (by simp) _) hb); have HBY := Aside0.mk (below_step (below_set HBW.out (by simp)) hb); clear hb; have p2_0 := (blk_cell HY1.out 0).trans rfl; have p2_1 := (blk_cell HY1.out 1).trans rfl; have p2_2 := (blk_cell HY1.out 2).trans rfl; have p2_3 := (blk_cell HY1.out 3).trans rfl; have p2_4 := (blk_cell HY1.out 4).trans rfl; have r2_0 := (blk_cell HY2.out 0).trans rfl; have r2_1 := (blk_cell HY2.out 1).trans rfl; have r2_2 := (blk_cell HY2.out 2).trans rfl; have r2_3 := (blk_cell HY2.out 3).trans rfl; have r2_4 := (blk_cell HY2.out 4).trans rfl; have f2_0 := blk_frozen HY1.out 0; have f2_1 := blk_frozen HY1.out 1; have f2_2 := blk_frozen HY1.out 2; have f2_3 := blk_frozen HY1.out 3; have f2_4 := blk_frozen HY1.out 4; have g2_0 := blk_frozen HY2.out 0; have g2_1 := blk_frozen HY2.out 1; have g2_2 := blk_frozen HY2.out 2; have g2_3 := blk_frozen HY2.out 3; have g2_4 := blk_frozen HY2.out 4) | (go_at_call 39; refine HC0.out.mono ?_; rintro e1 w1 ⟨rfl, hb⟩; have HX1 := Aside0.mk (blk_below HB1.out hb); have HX2 := Aside0.mk (blk_below HB2.out hb); have HBW := Aside0.mk (below_step hHB2.out hb); clear hb; have p1_0 := (blk_cell HX1.out 0).trans rfl; have p1_1 := (blk_cell HX1.out 1).trans rfl; have p1_2 := (blk_cell HX1.out 2).trans rfl; have p1_3 := (blk_cell HX1.out 3).trans rfl; have p1_4 := (blk_cell HX1.out 4).trans rfl; have r1_0 := (blk_cell HX2.out 0).trans rfl; have r1_1 := (blk_cell HX2.out 1).trans rfl; have r1_2 := (blk_cell HX2.out 2).trans rfl; have r1_3 := (blk_cell HX2.out 3).trans rfl; have r1_4 := (blk_cell HX2.out 4).trans rfl; have f1_0 := blk_frozen HX1.out 0; have f1_1 := blk_frozen HX1.out 1; have f1_2 := blk_frozen HX1.out 2; have f1_3 := blk_frozen HX1.out 3; have f1_4 := blk_frozen HX1.out 4; have g1_0 := blk_frozen HX2.out 0; have g1_1 := blk_frozen HX2.out 1; have g1_2 := blk_frozen HX2.out 2; have g1_3 := blk_frozen HX2.out 3; have g1_4 := blk_frozen HX2.out 4))
        refine bodyPost_ret (results_ct rfl _ _ (w.heap.size + 1) 40 #[.int .i64 0, .int .i64 0, .int .i64 0, .int .i64 0, .int .i64 0] (0, 0) _ rfl (by first | (rw [(blk_set (blk_set (blk_set (blk_set (blk_set HY2.out 0 (.int .i64 0)) 1 (.int .i64 0)) 2 (.int .i64 0)) 3 (.int .i64 0)) 4 (.int .i64 0))]; rfl) | (go_simp; done) | (simpa using heap_alloc_last (w.alloc _) _)) Try.underlying40 rfl (by kernel_rfl)) rfl ?_
        exact ⟨by rw [HF.out]; rfl, by first | exact (below_set (below_set (below_set (below_set (below_set HBY.out (by simp)) (by simp)) (by simp)) (by simp)) (by simp)) | (repeat (first | exact hHB.out | apply below_alloc | refine below_set ?_ (by first | exact Nat.le_refl _ | (simp; done) | (simp; omega))))⟩
      | true =>
        have HF := Aside0.mk (show stepC ⟨3, e, a, b, c⟩ = (⟨3, e, a, b, c + 1⟩, true) by unfold stepC; rw [if_neg (by rw [← hrb]; simp)]; simp [stepped, ← hrc])
        clear hrb hrc
        go_enter Try.func38, Try.ntmps38
        go_wp2_with (first | (go_at_call_has 39 (Value.int .i64 (c + 1)); refine (HC1.out _).mono ?_; rintro e2 w2 ⟨rfl, hb⟩; have HY1 := Aside0.mk (blk_below (blk_set HX1.out 4 (.int .i64 (c + 1))) hb); have HY2 := Aside0.mk (blk_below (blk_far HX2.out (by simp) _) hb); have HBY := Aside0.mk (below_step (below_set HBW.out (by simp)) hb); clear hb; have p2_0 := (blk_cell HY1.out 0).trans rfl; have p2_1 := (blk_cell HY1.out 1).trans rfl; have p2_2 := (blk_cell HY1.out 2).trans rfl; have p2_3 := (blk_cell HY1.out 3).trans rfl; have p2_4 := (blk_cell HY1.out 4).trans rfl; have r2_0 := (blk_cell HY2.out 0).trans rfl; have r2_1 := (blk_cell HY2.out 1).trans rfl; have r2_2 := (blk_cell HY2.out 2).trans rfl; have r2_3 := (blk_cell HY2.out 3).trans rfl; have r2_4 := (blk_cell HY2.out 4).trans rfl; have f2_0 := blk_frozen HY1.out 0; have f2_1 := blk_frozen HY1.out 1; have f2_2 := blk_frozen HY1.out 2; have f2_3 := blk_frozen HY1.out 3; have f2_4 := blk_frozen HY1.out 4; have g2_0 := blk_frozen HY2.out 0; have g2_1 := blk_frozen HY2.out 1; have g2_2 := blk_frozen HY2.out 2; have g2_3 := blk_frozen HY2.out 3; have g2_4 := blk_frozen HY2.out 4) | (go_at_call 39; refine HC0.out.mono ?_; rintro e1 w1 ⟨rfl, hb⟩; have HX1 := Aside0.mk (blk_below HB1.out hb); have HX2 := Aside0.mk (blk_below HB2.out hb); have HBW := Aside0.mk (below_step hHB2.out hb); clear hb; have p1_0 := (blk_cell HX1.out 0).trans rfl; have p1_1 := (blk_cell HX1.out 1).trans rfl; have p1_2 := (blk_cell HX1.out 2).trans rfl; have p1_3 := (blk_cell HX1.out 3).trans rfl; have p1_4 := (blk_cell HX1.out 4).trans rfl; have r1_0 := (blk_cell HX2.out 0).trans rfl; have r1_1 := (blk_cell HX2.out 1).trans rfl; have r1_2 := (blk_cell HX2.out 2).trans rfl; have r1_3 := (blk_cell HX2.out 3).trans rfl; have r1_4 := (blk_cell HX2.out 4).trans rfl; have f1_0 := blk_frozen HX1.out 0; have f1_1 := blk_frozen HX1.out 1; have f1_2 := blk_frozen HX1.out 2; have f1_3 := blk_frozen HX1.out 3; have f1_4 := blk_frozen HX1.out 4; have g1_0 := blk_frozen HX2.out 0; have g1_1 := blk_frozen HX2.out 1; have g1_2 := blk_frozen HX2.out 2; have g1_3 := blk_frozen HX2.out 3; have g1_4 := blk_frozen HX2.out 4))
        refine bodyPost_ret (results_ct rfl _ _ (w.heap.size + 1) 40 #[.int .i64 3, .int .i64 e, .int .i64 a, .int .i64 b, .int .i64 (c + 1)] (0, 0) _ rfl (by first | (rw [(blk_set (blk_set (blk_set (blk_set (blk_set HY2.out 0 (.int .i64 3)) 1 (.int .i64 e)) 2 (.int .i64 a)) 3 (.int .i64 b)) 4 (.int .i64 (c + 1)))]; rfl) | (go_simp; done) | (simpa using heap_alloc_last (w.alloc _) _)) Try.underlying40 rfl (by kernel_rfl)) rfl ?_
        exact ⟨by rw [HF.out]; rfl, by first | exact (below_set (below_set (below_set (below_set (below_set HBY.out (by simp)) (by simp)) (by simp)) (by simp)) (by simp)) | (repeat (first | exact hHB.out | apply below_alloc | refine below_set ?_ (by first | exact Nat.le_refl _ | (simp; done) | (simp; omega))))⟩
end Go.Proofs.Ytcihpjkjodhdpaa.X
