/- A part of the proof. -/
import Derived.Test.YtnjlonenckifpaaCP2
import Derived.Outline
import Derived.Deep.DeepMust
import Derived.Deep.RegionHeld3
import Derived.StillTailTactics
import Derived.Laws.NewBlocks
namespace Go.Proofs.Ytnjlonenckifpaa.X
set_option linter.unusedVariables false
set_option linter.unusedSimpArgs false
open Go.RowKit Go.Proofs.YtnjlonenckifpaaW.PrintWords Go.Proofs.YtnjlonenckifpaaW.PrintLast Go.Proofs.YtnjlonenckifpaaW.PrintMore
theorem info37 : (Try.prog.info? 37).map (fun i => (i.zero, i.size, i.bytes)) = some (some (.slice none 0 0), 1, 24) := by kernel_rfl
theorem run_make_outer (n : Nat) (hn : n ≤ 64) (R : Nat → Nat) (W : World) : (Instr.makeSlice 58 (.int .i64 (n : Int)) (.int .i64 (n : Int))).run Try.prog W = .ok (.slice (some ⟨W.heap.size, 0, none⟩) n n) (W.alloc (.cells (outerA n 0 R) 37)) := by
  obtain ⟨i, hi, hz, hs, hb⟩ := info_parts info37
  have := run_make (P := Try.prog) W 58 37 i (.slice none 0 0) Try.underlying58 hi hz .i64 .i64 (n : Int) (n : Int) (by omega) (by omega) (by rw [hb]; omega) (by omega)
  simp only [Int.toNat_natCast, hs] at this
  rw [this]
  congr 3
  apply Array.ext
  · simp [madeCells, outerA]
  · intro j h1 h2
    simp [madeCells, outerA, Nat.mod_one, Value.cells]
theorem Mat.push' {w : World} {base gb n k : Nat} {R : Nat → Nat} {M : Nat → Nat → Bool} (h : Mat w base gb n k R M) (hk : k < n) (hge : base ≤ w.heap.size) :
    Mat ((w.setCell ⟨gb, k, none⟩ (.slice (some ⟨w.heap.size, 0, none⟩) n n)).alloc (.cells (boolRow (List.replicate n false)) 4)) base gb n (k + 1) (fun i => if i = k then w.heap.size else R i) (fun i => if i = k then fun _ => false else M i) := by
  have h1 := Mat.push (h.alloc (.cells (boolRow (List.replicate n false)) 4)) w.heap.size hk ⟨by rw [← rowL_false]; exact heap_alloc_last w _⟩ hge (fun i hi e => by have := (h.row i hi).lt; omega)
  rw [World.setCell_alloc_past _ _ _ _ h.lt] at h1
  exact h1
theorem toL_length {G : List S39} (h : small G = true) (i : Int) : (toL G i).length ≤ 10000 := by
  simp only [small, Bool.and_eq_true, List.all_eq_true, decide_eq_true_eq] at h
  have := toFrom_length i G 0 h.2
  unfold toL
  omega
def ways.T10 : Bool × List (List Nat × List Nat) := (true, [([], []), ([], []), ([0, 1], [0, 1]), ([2], [2]), ([], []), ([4], [4]), ([], []), ([], []), ([], []), ([7, 8], [7, 8]), ([9], [9]), ([6, 10], [6, 10]), ([11, 11], [11]), ([12], [12]), ([12], [12]), ([12], [12]), ([15, 12], [12, 15]), ([14, 16, 12], [12, 14, 16]), ([17, 12], [12, 17]), ([13, 18, 12, 12], [12, 13, 18]), ([12, 19], [12, 19]), ([3, 5, 0, 1, 2, 3, 4, 5, 6, 7, 8, 9, 10, 11, 12, 13, 14, 15, 16, 17, 18, 19, 20], [3, 5]), ([21, 20, 19, 0, 1, 2, 3, 4, 5, 6, 7, 8, 9, 10, 11, 12, 13, 14, 15, 16, 17, 18, 19, 20], [20, 21])])
def ways.B10 : List Nat := [0, 0, 3, 7, 0, 16, 0, 0, 0, 384, 896, 1984, 4032, 8128, 8128, 8128, 40896, 122816, 253888, 524224, 1048512, 2097151, 4194303]
theorem ways.tab10 : rtab .any (opsOf Try.f45 10) = ways.T10 := by kernel_rfl
theorem ways.bits10 : waitsOk ways.T10.2 ways.B10 = true := by kernel_rfl
theorem ne69 : ∀ q, q ∈ 69 :: k69.E → q ≠ 4 := by
  intro q hq
  simp [k69, Kd.iso, Kd.pair, Kd.int, Kd.scalar] at hq
  omega
theorem step_row {n k j : Nat} {r r' val : Nat → Bool} {E : Nat → Nat → Bool} {p : S69} {v : Bool} (h : r' = fun b => if b = p.f0.toNat then val b else r b) (hj : p.f0.toNat = j) (hv : val j = v) :
    ∀ a b, a < k + 1 → b < n → upd2 (fun i => if i = k then r else E i) k j v a b = (fun i => if i = k then r' else E i) a b := by
  intro a b _ _
  subst h
  by_cases e : a = k
  · by_cases e2 : b = j
    · simp [upd2, e, e2, hj, hv]
    · simp [upd2, e, e2, hj]
  · simp [upd2, e]
def ways.T22 : Bool × List (List Nat × List Nat) := (true, [([], []), ([], []), ([0, 1], [0, 1]), ([2], [2]), ([], []), ([], []), ([], []), ([5, 6], [5, 6]), ([7], [7]), ([], []), ([8, 9], [8, 9]), ([10], [10]), ([11], [11]), ([12], [12]), ([12], [12]), ([13, 14, 12], [12, 13, 14]), ([15, 12], [12, 15]), ([12], [12]), ([16, 17, 12], [12, 16, 17]), ([18, 12], [12, 18]), ([19, 12, 12], [12, 19]), ([20], [20]), ([20], [20]), ([21, 22, 20], [20, 21, 22]), ([23, 20], [20, 23]), ([20], [20]), ([24, 25, 20], [20, 24, 25]), ([26, 20], [20, 26]), ([20, 27, 12], [12, 20, 27]), ([12, 28], [12, 28]), ([3, 4, 0, 1, 2, 3, 4, 5, 6, 7, 8, 9, 10, 11, 12, 13, 14, 15, 16, 17, 18, 19, 20, 21, 22, 23, 24, 25, 26, 27, 28, 29], [3, 4]), ([30, 29, 20, 0, 1, 2, 3, 4, 5, 6, 7, 8, 9, 10, 11, 12, 13, 14, 15, 16, 17, 18, 19, 20, 21, 22, 23, 24, 25, 26, 27, 28, 29], [29, 30])])
def ways.B22 : List Nat := [0, 0, 3, 7, 0, 0, 0, 96, 224, 0, 992, 2016, 4064, 8160, 8160, 32736, 65504, 8160, 262112, 524256, 1048544, 2097120, 2097120, 8388576, 16777184, 2097120, 67108832, 134217696, 268435424, 536870880, 1073741823, 2147483647]
theorem ways.tab22 : rtab .any (opsOf Try.f45 22) = ways.T22 := by kernel_rfl
theorem ways.bits22 : waitsOk ways.T22.2 ways.B22 = true := by kernel_rfl
theorem Var.ne_row {w : World} {b b2 : Nat} {v : Value} {t : TypeId} {th : List Bool} (h : Var w b v t) (hr : Row w b2 th) (ht : t ≠ 4) : b ≠ b2 := by
  rintro rfl
  have h1 := h.blk
  rw [hr.blk] at h1
  injection h1 with h1
  injection h1 with _ h1
  exact ht h1.symm
def WaysPost (G : List S39) (least : Int) (w : World) (e : Ending) (w' : World) : Prop :=
  ∃ gb R, e = .returned (.slice (some ⟨gb, 0, none⟩) G.length G.length) ∧ Mat w' w.heap.size gb G.length G.length R (waysM G least) ∧ Below w.heap.size w w'
set_option maxHeartbeats 8000000 in
set_option maxRecDepth 100000 in
theorem ways_calls (A : Option Addr) (c : Nat) (G : List S39) (least : Int) (w : World) (hr : Kd.C k39 w A G.length G) (hc : G.length ≤ c) (hs : small G = true) :
    Calls Try.prog 45 #[.slice A G.length c, .int .i64 least] w (WaysPost G least w) := by
  have hn : G.length ≤ 64 := by simp [small] at hs; exact hs.1
  have HS := Aside0.mk hs
  have HR := Aside0.mk hr
  have HC := Aside0.mk hc
  clear hr hs hc
  have hmk := fun W : World => run_make_row0 G.length hn W
  have hmo := fun W : World => run_make_outer G.length hn (fun _ => 0) W
  have HB0 := Aside0.mk (Below.refl w.heap.size w)
  go_enter Try.func45, Try.ntmps45
  go_wp2
  go_loopg [19] G.length (fun gg v19 wr => ∃ (k : Nat) (R : Nat → Nat), v19 = .int .i64 k ∧ k ≤ G.length ∧ G.length - k ≤ gg ∧ Aside0 (Mat wr w.heap.size (w.heap.size + 1) G.length k R (edgeM G least)) ∧
      Aside0 (Var wr w.heap.size (.int .i64 least) 3) ∧ Aside0 (Below w.heap.size w wr))
  case atStart =>
    refine ⟨0, fun _ => 0, rfl, Nat.zero_le _, by omega, ⟨⟨?_, fun i hi => absurd hi (Nat.not_lt_zero _), by omega, fun i hi => absurd hi (Nat.not_lt_zero _), fun i j hi => absurd hi (Nat.not_lt_zero _)⟩⟩, ⟨Var.alloc ⟨heap_alloc_last w _⟩ _⟩, ⟨below_alloc (below_alloc HB0.out _) _⟩⟩
    have := heap_alloc_last (w.alloc (.cells #[.int .i64 least] 3)) (.cells (outerA G.length 0 (fun _ => 0)) 37)
    simpa using this
  case round =>
    obtain ⟨k, R, rfl, hk, hg, HM, HV, HB⟩ := hrel
    by_cases hlt : k < G.length
    · have hltz : (k : Int) < (G.length : Int) := by omega
      obtain ⟨kk, hkk⟩ := to_tells G (k : Int) HS.out
      have HKK := Aside0.mk hkk
      clear hkk
      have c1 := HM.out.onil k (Nat.le_refl _) hlt
      have f1 := HM.out.ofree k
      have l1 := HM.out.lt
      have HM1 := Aside0.mk (Mat.push' HM.out hlt HB.out.size)
      have HV1 := Aside0.mk ((HV.out.far (p := ⟨w.heap.size + 1, k, none⟩) (by simp) (.slice (some ⟨wr.heap.size, 0, none⟩) G.length G.length)).alloc (.cells (boolRow (List.replicate G.length false)) 4))
      have HB1 := Aside0.mk (below_alloc (below_set (g := w.heap.size + 1) (j := k) (v := .slice (some ⟨wr.heap.size, 0, none⟩) G.length G.length) HB.out (by omega)) (.cells (boolRow (List.replicate G.length false)) 4))
      clear HM HV HB
      go_wp2_with (go_at_call 55; go_must (refine (flow_To.calls kk A c G (k : Int) (toL G (k : Int)) _ (Kd.C_below HR.out HB1.out) HC.out HKK.out).mono ?_; rintro e w6 ⟨v0, rfl, ho, hb⟩; (obtain ⟨A6, c6, rfl, hl6, -⟩ := Kd.R_reads ho); (have HO := Aside0.mk (Kd.R_lower ho HB1.out.size)); (have HM6 := Aside0.mk (HM1.out.below hb)); (have HV6 := Aside0.mk (HV1.out.below hb)); (have HB6 := Aside0.mk (below_then HB1.out HB1.out.size hb)); clear ho hb hl6))
      have hps := fun p hp => toL_mem (G := G) (i := (k : Int)) (p := p) hp
      have hln : (toL G (k : Int)).length ≤ 10000 := toL_length HS.out _
      have HED := Aside0.mk (show edgeM G least k = rowF (toL G (k : Int)) (fun j => staysAt G least k && staysAt G least j) from rfl)
      generalize toL G (k : Int) = ps at HO HED hps hln
      have HPS := Aside0.mk hps
      clear hps HKK
      have HM7 := Aside0.mk (Mat.congr (M' := fun i => if i = k then rowF (ps.take 0) (fun j => staysAt G least k && staysAt G least j) else edgeM G least i) HM6.out (fun i j _ _ => by
        by_cases e : i = k
        · simp [e, rowF]
        · simp [e]))
      generalize (fun i => if i = k then wr.heap.size else R i) = R1 at HM7
      clear HM6
      go_loopg [32] ps.length (fun g2 v32 wr => ∃ q : Nat, v32 = .int .i64 q ∧ q ≤ ps.length ∧ ps.length - q ≤ g2 ∧
        Aside0 (Mat wr w.heap.size (w.heap.size + 1) G.length (k + 1) R1 (fun i => if i = k then rowF (ps.take q) (fun j => staysAt G least k && staysAt G least j) else edgeM G least i)) ∧
        Aside0 (Var wr w.heap.size (.int .i64 least) 3) ∧ Aside0 (Kd.R k69 69 wr w.heap.size (fun _ => True) (.slice A6 ps.length c6) ps) ∧ Aside0 (Below w.heap.size w wr))
      case atStart => exact ⟨0, rfl, Nat.zero_le _, by omega, HM7, HV6, HO, HB6⟩
      case round =>
        clear HM7 HV6 HO HB6 HM1 HV1 HB1 c1 f1 l1
        obtain ⟨q, rfl, hq, hg2, HM, HV, HO, HB⟩ := hrel
        by_cases hq1 : q < ps.length
        · have hqz : (q : Int) < (ps.length : Int) := by omega
          obtain ⟨A7, c7, e7, -, hC7⟩ := Kd.R_reads HO.out
          obtain ⟨a6, eA6, p0, p1⟩ := at_T69 hC7 (q : Int) (by omega) hqz
          have hA7 : A6 = some a6 := by injection e7 with e7 _ _; rw [e7, eA6]
          clear e7 eA6 hC7
          subst hA7
          have hpq : ps[q]? = some (rd_T69 ps (q : Int)) := by simp [rd_T69, hq1]
          have hmem := HPS.out _ (List.mem_of_getElem? hpq)
          generalize rd_T69 ps (q : Int) = p at p0 p1 hpq hmem
          obtain ⟨j, hj⟩ : ∃ j : Nat, p.f0 = (j : Int) := ⟨p.f0.toNat, by omega⟩
          have HSTEP := Aside0.mk (rowF_succ ps (fun j => staysAt G least k && staysAt G least j) q p hpq)
          clear hpq
          rw [hj] at p0 hmem
          have HJ := Aside0.mk hj
          clear hj
          generalize p.f1 = pin at p1
          obtain ⟨hj0, hj1⟩ := hmem
          simp only [Int.toNat_natCast] at p0 p1
          have hjn : j < G.length := by omega
          obtain ⟨ad, A4, c4, eA, q0, q1, q2, q3, q4, -, -⟩ := at_T39 (Kd.C_below HR.out HB.out) (k : Int) (by omega) hltz
          obtain ⟨ad', A4', c4', eA', s0, s1, s2, s3, s4, -, -⟩ := at_T39 (Kd.C_below HR.out HB.out) (j : Int) (by omega) (by omega)
          have : ad' = ad := by rw [eA] at eA'; exact (Option.some.inj eA').symm
          subst this
          clear eA'
          subst eA
          simp only [Int.toNat_natCast] at q0 q1 q2 q3 q4 s0 s1 s2 s3 s4
          have m0 := HM.out.ocell k (by omega) hlt
          have m1 := HM.out.cell k j (by omega) hjn
          have m2 := HM.out.free k j (by omega)
          have lx := (HM.out.row k (by omega)).lt
          have lg := HM.out.lt
          have ha : ad'.block < w.heap.size := by
            obtain ⟨ad2, A42, c42, eA2, t0, -⟩ := at_T39 HR.out (k : Int) (by omega) hltz
            have hlt2 := World.block_lt_of_cell? w _ t0
            have : ad' = ad2 := Option.some.inj eA2
            subst this
            rw [add_block] at hlt2
            exact hlt2
          have hge := HM.out.ge k (by omega)
          have hgn := HM.out.ne k (by omega)
          have hb1 := HB.out.size
          have hSK : staysAt G least k = staysB (rd_T39 G (k : Int)).f0 (rd_T39 G (k : Int)).f3 least := rfl
          have hSJ : staysAt G least j = staysB (rd_T39 G (j : Int)).f0 (rd_T39 G (j : Int)).f3 least := rfl
          generalize rd_T39 G (k : Int) = nk at q0 q1 q2 q3 q4 hSK
          generalize rd_T39 G (j : Int) = nj at s0 s1 s2 s3 s4 hSJ
          obtain ⟨th0, hth0⟩ : ∃ th0, th0 = rowL G.length (rowF (ps.take q) (fun j => staysAt G least k && staysAt G least j)) := ⟨_, rfl⟩
          have hrow := HM.out.row k (by omega)
          simp only [if_true] at hrow
          rw [← hth0] at hrow
          have HTH := Aside0.mk hth0
          clear hth0
          have KS : ∀ W, Below (wr.alloc (.cells #[.int .i64 (j : Int), .int .i64 pin] 69)).heap.size (wr.alloc (.cells #[.int .i64 (j : Int), .int .i64 pin] 69)) W → W.cell? ⟨w.heap.size + 1, k, none⟩ = some (.slice (some ⟨R1 k, 0, none⟩) G.length G.length) ∧ W.cell? ⟨wr.heap.size, 0, none⟩ = some (.int .i64 (j : Int)) ∧ W.cell? (ad'.add (k * 5)) = some (.int .u8 nk.f0) ∧ W.cell? ⟨(ad'.add (k * 5)).block, (ad'.add (k * 5)).off + 1, none⟩ = some (.int .u8 nk.f1) ∧ W.cell? ⟨(ad'.add (k * 5)).block, (ad'.add (k * 5)).off + 2, none⟩ = some (.int .i64 nk.f2) ∧ W.cell? ⟨(ad'.add (k * 5)).block, (ad'.add (k * 5)).off + 3, none⟩ = some (.int .i64 nk.f3) ∧ W.cell? ⟨(ad'.add (k * 5)).block, (ad'.add (k * 5)).off + 4, none⟩ = some (.slice A4 nk.f4.length c4) ∧ W.cell? (ad'.add (j * 5)) = some (.int .u8 nj.f0) ∧ W.cell? ⟨(ad'.add (j * 5)).block, (ad'.add (j * 5)).off + 1, none⟩ = some (.int .u8 nj.f1) ∧ W.cell? ⟨(ad'.add (j * 5)).block, (ad'.add (j * 5)).off + 2, none⟩ = some (.int .i64 nj.f2) ∧ W.cell? ⟨(ad'.add (j * 5)).block, (ad'.add (j * 5)).off + 3, none⟩ = some (.int .i64 nj.f3) ∧ W.cell? ⟨(ad'.add (j * 5)).block, (ad'.add (j * 5)).off + 4, none⟩ = some (.slice A4' nj.f4.length c4') ∧ Var W w.heap.size (.int .i64 least) 3 ∧ Below (wr.alloc (.cells #[.int .i64 (j : Int), .int .i64 pin] 69)).heap.size (wr.alloc (.cells #[.int .i64 (j : Int), .int .i64 pin] 69)) W := by
            intro W h
            have al : ∀ {a : Addr} {u : Value}, wr.cell? a = some u → W.cell? a = some u := fun hc => pw_cell_below h (pw_cell_below (below_alloc (Below.refl _ _) _) hc)
            exact ⟨al m0, pw_cell_below h (by go_simp), al q0, al q1, al q2, al q3, al q4, al s0, al s1, al s2, al s3, al s4, (HV.out.alloc _).below h, h⟩
          have eg := enters_of Try.func54 (by kernel_rfl) rfl
          cases hsk : staysAt G least k with
          | false =>
            rw [hsk] at hSK
            have HSK := Aside0.mk hSK
            have HSTEP2 := Aside0.mk (step_row (n := G.length) (k := k) (j := j) (val := fun b => staysAt G least k && staysAt G least b) (E := edgeM G least) HSTEP.out (by have := HJ.out; omega) (v := false) (by simp [hsk]))
            clear hSK hSJ hsk
            go_wp2
            refine start_ (n := 23) (S := fun W => W.cell? ⟨w.heap.size + 1, k, none⟩ = some (.slice (some ⟨R1 k, 0, none⟩) G.length G.length) ∧ W.cell? ⟨wr.heap.size, 0, none⟩ = some (.int .i64 (j : Int)) ∧ W.cell? (ad'.add (k * 5)) = some (.int .u8 nk.f0) ∧ W.cell? ⟨(ad'.add (k * 5)).block, (ad'.add (k * 5)).off + 1, none⟩ = some (.int .u8 nk.f1) ∧ W.cell? ⟨(ad'.add (k * 5)).block, (ad'.add (k * 5)).off + 2, none⟩ = some (.int .i64 nk.f2) ∧ W.cell? ⟨(ad'.add (k * 5)).block, (ad'.add (k * 5)).off + 3, none⟩ = some (.int .i64 nk.f3) ∧ W.cell? ⟨(ad'.add (k * 5)).block, (ad'.add (k * 5)).off + 4, none⟩ = some (.slice A4 nk.f4.length c4) ∧ W.cell? (ad'.add (j * 5)) = some (.int .u8 nj.f0) ∧ W.cell? ⟨(ad'.add (j * 5)).block, (ad'.add (j * 5)).off + 1, none⟩ = some (.int .u8 nj.f1) ∧ W.cell? ⟨(ad'.add (j * 5)).block, (ad'.add (j * 5)).off + 2, none⟩ = some (.int .i64 nj.f2) ∧ W.cell? ⟨(ad'.add (j * 5)).block, (ad'.add (j * 5)).off + 3, none⟩ = some (.int .i64 nj.f3) ∧ W.cell? ⟨(ad'.add (j * 5)).block, (ad'.add (j * 5)).off + 4, none⟩ = some (.slice A4' nj.f4.length c4') ∧ Var W w.heap.size (.int .i64 least) 3 ∧ Below (wr.alloc (.cells #[.int .i64 (j : Int), .int .i64 pin] 69)).heap.size (wr.alloc (.cells #[.int .i64 (j : Int), .int .i64 pin] 69)) W) (ds := [22]) #[false, false, false, false, false, false, false, false, false, false, false, false, false, false, false, false, false, false, false, false, false, false, false] (by kernel_rfl) rfl rfl (KS _ (Below.refl _ _).drew) (fun hHeld => ?_)
            refine with_tabW ways.tab10 ways.bits10 (fun HT_ HW_ => ?_)
            generalize (wr.alloc (.cells #[.int .i64 (j : Int), .int .i64 pin] 69)).drew = w0 at hHeld ⊢
            refine pure_ (i := 0) (N := (some 36)) (v := ?_) (a' := ?_) #[true, false, false, false, false, false, false, false, false, false, false, false, false, false, false, false, false, false, false, false, false, false, false] rfl rfl (any_of HT_.out (by kernel_rfl)) (fun _ _ _ h => h) (Or.inl ⟨by rfl, ?_⟩) ?_ ?_
            rotate_left
            · intro w'
              go_simp
              (try with_reducible rfl)
            rotate_left
            · simp only [Act.put, List.setIfInBounds_toArray, List.set_cons_zero, List.set_cons_succ, i64_w, i32_w]
              rfl
            refine pure_ (i := 1) (N := (some 37)) (v := ?_) (a' := ?_) #[true, true, false, false, false, false, false, false, false, false, false, false, false, false, false, false, false, false, false, false, false, false, false] rfl rfl (any_of HT_.out (by kernel_rfl)) (fun _ _ _ h => h) (Or.inl ⟨by rfl, ?_⟩) ?_ ?_
            rotate_left
            · intro w'
              go_simp
              (try with_reducible rfl)
            rotate_left
            · simp only [Act.put, List.setIfInBounds_toArray, List.set_cons_zero, List.set_cons_succ, i64_w, i32_w]
              rfl
            refine pure_ (i := 2) (N := (some 38)) (v := ?_) (a' := ?_) #[true, true, true, false, false, false, false, false, false, false, false, false, false, false, false, false, false, false, false, false, false, false, false] rfl rfl (any_of HT_.out (by kernel_rfl)) (fun _ _ _ h => h) (Or.inl ⟨by rfl, ?_⟩) ?_ ?_
            rotate_left
            · intro w'
              go_simp
              (try with_reducible rfl)
            rotate_left
            · simp only [Act.put, List.setIfInBounds_toArray, List.set_cons_zero, List.set_cons_succ, i64_w, i32_w]
              rfl
            refine take_ (i := 3) (N := (some 39)) (v := ?_) (a' := ?_) #[true, true, true, true, false, false, false, false, false, false, false, false, false, false, false, false, false, false, false, false, false, false, false] rfl rfl (take_ofW HT_.out HW_.out (by kernel_rfl)) (fun _ _ _ h => h) (Or.inl ⟨by rfl, ?_⟩) hHeld ?_ ?_
            rotate_left
            · rintro w' ⟨sx0, sx1, sx2, sx3, sx4, sx5, sx6, sx7, sx8, sx9, sx10, sx11, sx12, sx13⟩
              go_simp
              (try with_reducible rfl)
            rotate_left
            · simp only [Act.put, List.setIfInBounds_toArray, List.set_cons_zero, List.set_cons_succ, i64_w, i32_w]
              rfl
            refine pure_ (i := 4) (N := (some 40)) (v := ?_) (a' := ?_) #[true, true, true, true, true, false, false, false, false, false, false, false, false, false, false, false, false, false, false, false, false, false, false] rfl rfl (any_of HT_.out (by kernel_rfl)) (fun _ _ _ h => h) (Or.inl ⟨by rfl, ?_⟩) ?_ ?_
            rotate_left
            · intro w'
              go_simp
              (try with_reducible rfl)
            rotate_left
            · simp only [Act.put, List.setIfInBounds_toArray, List.set_cons_zero, List.set_cons_succ, i64_w, i32_w]
              rfl
            refine take_ (i := 5) (N := (some 41)) (v := ?_) (a' := ?_) #[true, true, true, true, true, true, false, false, false, false, false, false, false, false, false, false, false, false, false, false, false, false, false] rfl rfl (take_ofW HT_.out HW_.out (by kernel_rfl)) (fun _ _ _ h => h) (Or.inl ⟨by rfl, ?_⟩) hHeld ?_ ?_
            rotate_left
            · rintro w' ⟨sx0, sx1, sx2, sx3, sx4, sx5, sx6, sx7, sx8, sx9, sx10, sx11, sx12, sx13⟩
              go_simp
              (try with_reducible rfl)
            rotate_left
            · simp only [Act.put, List.setIfInBounds_toArray, List.set_cons_zero, List.set_cons_succ, i64_w, i32_w]
              rfl
            refine pure_ (i := 6) (N := (some 42)) (v := ?_) (a' := ?_) #[true, true, true, true, true, true, true, false, false, false, false, false, false, false, false, false, false, false, false, false, false, false, false] rfl rfl (any_of HT_.out (by kernel_rfl)) (fun _ _ _ h => h) (Or.inl ⟨by rfl, ?_⟩) ?_ ?_
            rotate_left
            · intro w'
              go_simp
              (try with_reducible rfl)
            rotate_left
            · simp only [Act.put, List.setIfInBounds_toArray, List.set_cons_zero, List.set_cons_succ, i64_w, i32_w]
              rfl
            refine pure_ (i := 7) (N := (some 43)) (v := ?_) (a' := ?_) #[true, true, true, true, true, true, true, true, false, false, false, false, false, false, false, false, false, false, false, false, false, false, false] rfl rfl (any_of HT_.out (by kernel_rfl)) (fun _ _ _ h => h) (Or.inl ⟨by rfl, ?_⟩) ?_ ?_
            rotate_left
            · intro w'
              go_simp
              (try with_reducible rfl)
            rotate_left
            · simp only [Act.put, List.setIfInBounds_toArray, List.set_cons_zero, List.set_cons_succ, i64_w, i32_w]
              rfl
            refine pure_ (i := 8) (N := (some 44)) (v := ?_) (a' := ?_) #[true, true, true, true, true, true, true, true, true, false, false, false, false, false, false, false, false, false, false, false, false, false, false] rfl rfl (any_of HT_.out (by kernel_rfl)) (fun _ _ _ h => h) (Or.inl ⟨by rfl, ?_⟩) ?_ ?_
            rotate_left
            · intro w'
              go_simp
              (try with_reducible rfl)
            rotate_left
            · simp only [Act.put, List.setIfInBounds_toArray, List.set_cons_zero, List.set_cons_succ, i64_w, i32_w]
              rfl
            refine pure_ (i := 9) (N := (some 45)) (v := ?_) (a' := ?_) #[true, true, true, true, true, true, true, true, true, true, false, false, false, false, false, false, false, false, false, false, false, false, false] rfl rfl (any_of HT_.out (by kernel_rfl)) (fun _ _ _ h => h) (Or.inl ⟨by rfl, ?_⟩) ?_ ?_
            rotate_left
            · intro w'
              go_simp
              (try with_reducible rfl)
            rotate_left
            · simp only [Act.put, List.setIfInBounds_toArray, List.set_cons_zero, List.set_cons_succ, i64_w, i32_w]
              rfl
            refine take_ (i := 10) (N := (some 46)) (v := ?_) (a' := ?_) #[true, true, true, true, true, true, true, true, true, true, true, false, false, false, false, false, false, false, false, false, false, false, false] rfl rfl (take_ofW HT_.out HW_.out (by kernel_rfl)) (fun _ _ _ h => h) (Or.inl ⟨by rfl, ?_⟩) hHeld ?_ ?_
            rotate_left
            · rintro w' ⟨sx0, sx1, sx2, sx3, sx4, sx5, sx6, sx7, sx8, sx9, sx10, sx11, sx12, sx13⟩
              go_simp
              (try with_reducible rfl)
            rotate_left
            · simp only [Act.put, List.setIfInBounds_toArray, List.set_cons_zero, List.set_cons_succ, i64_w, i32_w]
              rfl
            refine one_ (i := 11) (N := (some 47)) #[true, true, true, true, true, true, true, true, true, true, true, true, false, false, false, false, false, false, false, false, false, false, false] rfl rfl (one_of HT_.out (by kernel_rfl)) (by decide) (fun K hK => ?_)
            have hV := hHeld.2.2.2.2.2.2.2.2.2.2.2.2.1
            have hBX := hHeld.2.2.2.2.2.2.2.2.2.2.2.2.2
            refine call_ 54 #[.agg #[.int .u8 nk.f0, .int .u8 nk.f1, .int .i64 nk.f2, .int .i64 nk.f3, .slice A4 nk.f4.length c4], .pointer (some ⟨w.heap.size, 0, none⟩)] (by rfl) rfl (by go_simp) ?_
            refine (stays_calls nk A4 c4 least w.heap.size _ hV).mono ?_
            rintro e w1 ⟨rfl, hb⟩
            rw [← HSK.out]
            refine ⟨_, rfl, ?_⟩
            refine hK.out _ _ (KS _ (below_then hBX hBX.size hb)) (fun hHeld => ?_)
            clear hK K hV hBX hb
            refine norm_ (a' := ?_) ?_ ?_
            rotate_left
            · simp only [Act.put, List.setIfInBounds_toArray, List.set_cons_zero, List.set_cons_succ]
              rfl
            refine pure_ (i := 12) (N := (some 48)) (v := ?_) (a' := ?_) #[true, true, true, true, true, true, true, true, true, true, true, true, true, false, false, false, false, false, false, false, false, false, false] rfl rfl (any_of HT_.out (by kernel_rfl)) (fun _ _ _ h => h) (Or.inl ⟨by rfl, ?_⟩) ?_ ?_
            rotate_left
            · intro w'
              go_simp
              (try with_reducible rfl)
            rotate_left
            · simp only [Act.put, List.setIfInBounds_toArray, List.set_cons_zero, List.set_cons_succ, i64_w, i32_w]
              rfl
            refine pure_ (i := 13) (N := (some 49)) (v := undef) (a' := ?_) #[true, true, true, true, true, true, true, true, true, true, true, true, true, true, false, false, false, false, false, false, false, false, false] rfl rfl (any_of HT_.out (by kernel_rfl)) (fun _ _ _ h => h) (Or.inr ⟨by rfl, rfl⟩) ?_ ?_
            rotate_left
            · simp only [Act.put, List.setIfInBounds_toArray, List.set_cons_zero, List.set_cons_succ, i64_w, i32_w]
              rfl
            refine pure_ (i := 14) (N := (some 50)) (v := undef) (a' := ?_) #[true, true, true, true, true, true, true, true, true, true, true, true, true, true, true, false, false, false, false, false, false, false, false] rfl rfl (any_of HT_.out (by kernel_rfl)) (fun _ _ _ h => h) (Or.inr ⟨by rfl, rfl⟩) ?_ ?_
            rotate_left
            · simp only [Act.put, List.setIfInBounds_toArray, List.set_cons_zero, List.set_cons_succ, i64_w, i32_w]
              rfl
            refine pure_ (i := 15) (N := (some 51)) (v := undef) (a' := ?_) #[true, true, true, true, true, true, true, true, true, true, true, true, true, true, true, true, false, false, false, false, false, false, false] rfl rfl (any_of HT_.out (by kernel_rfl)) (fun _ _ _ h => h) (Or.inr ⟨by rfl, rfl⟩) ?_ ?_
            rotate_left
            · simp only [Act.put, List.setIfInBounds_toArray, List.set_cons_zero, List.set_cons_succ, i64_w, i32_w]
              rfl
            refine pure_ (i := 16) (N := (some 52)) (v := undef) (a' := ?_) #[true, true, true, true, true, true, true, true, true, true, true, true, true, true, true, true, true, false, false, false, false, false, false] rfl rfl (any_of HT_.out (by kernel_rfl)) (fun _ _ _ h => h) (Or.inr ⟨by rfl, rfl⟩) ?_ ?_
            rotate_left
            · simp only [Act.put, List.setIfInBounds_toArray, List.set_cons_zero, List.set_cons_succ, i64_w, i32_w]
              rfl
            refine pure_ (i := 17) (N := (some 53)) (v := undef) (a' := ?_) #[true, true, true, true, true, true, true, true, true, true, true, true, true, true, true, true, true, true, false, false, false, false, false] rfl rfl (any_of HT_.out (by kernel_rfl)) (fun _ _ _ h => h) (Or.inr ⟨by rfl, rfl⟩) ?_ ?_
            rotate_left
            · simp only [Act.put, List.setIfInBounds_toArray, List.set_cons_zero, List.set_cons_succ, i64_w, i32_w]
              rfl
            refine pure_ (i := 18) (N := (some 54)) (v := undef) (a' := ?_) #[true, true, true, true, true, true, true, true, true, true, true, true, true, true, true, true, true, true, true, false, false, false, false] rfl rfl (any_of HT_.out (by kernel_rfl)) (fun _ _ _ h => h) (Or.inr ⟨by rfl, rfl⟩) ?_ ?_
            rotate_left
            · simp only [Act.put, List.setIfInBounds_toArray, List.set_cons_zero, List.set_cons_succ, i64_w, i32_w]
              rfl
            refine pure_ (i := 19) (N := (some 55)) (v := undef) (a' := ?_) #[true, true, true, true, true, true, true, true, true, true, true, true, true, true, true, true, true, true, true, true, false, false, false] rfl rfl (any_of HT_.out (by kernel_rfl)) (fun _ _ _ h => h) (Or.inr ⟨by rfl, rfl⟩) ?_ ?_
            rotate_left
            · simp only [Act.put, List.setIfInBounds_toArray, List.set_cons_zero, List.set_cons_succ, i64_w, i32_w]
              rfl
            refine pure_ (i := 20) (N := (some 56)) (v := ?_) (a' := ?_) #[true, true, true, true, true, true, true, true, true, true, true, true, true, true, true, true, true, true, true, true, true, false, false] rfl rfl (any_of HT_.out (by kernel_rfl)) (fun _ _ _ h => h) (Or.inl ⟨by rfl, ?_⟩) ?_ ?_
            rotate_left
            · intro w'
              go_simp
              (try with_reducible rfl)
            rotate_left
            · simp only [Act.put, List.setIfInBounds_toArray, List.set_cons_zero, List.set_cons_succ, i64_w, i32_w]
              rfl
            refine pure_ (i := 21) (N := (some 57)) (v := ?_) (a' := ?_) #[true, true, true, true, true, true, true, true, true, true, true, true, true, true, true, true, true, true, true, true, true, true, false] rfl rfl (any_of HT_.out (by kernel_rfl)) (fun _ _ _ h => h) (Or.inl ⟨by rfl, ?_⟩) ?_ ?_
            rotate_left
            · intro w'
              go_simp
              (try with_reducible rfl)
            rotate_left
            · simp only [Act.put, List.setIfInBounds_toArray, List.set_cons_zero, List.set_cons_succ, i64_w, i32_w]
              rfl
            refine last_ (i := 22) (N := none) #[true, true, true, true, true, true, true, true, true, true, true, true, true, true, true, true, true, true, true, true, true, true, true] rfl rfl (one_of HT_.out (by kernel_rfl)) (by decide) (fun K hK => ?_)
            have hBX := hHeld.2.2.2.2.2.2.2.2.2.2.2.2.2
            have hMX := (HM.out.alloc (.cells #[.int .i64 (j : Int), .int .i64 pin] 69)).below hBX
            have tc := hMX.cell k j (by omega) hjn
            have tf := hMX.free k j (by omega)
            refine skip_ (w1 := ?_) (by rfl) rfl ?_ ?_
            rotate_left
            · go_simp
              rfl
            refine hK.out _ _ ?_
            clear hK K
            refine done_ (done_of HT_.out (by kernel_rfl)) ?_
            go_wp2
            go_roundg (ps.length - (q + 1))
            case measure => omega
            case rel => exact ⟨q + 1, by go_num, by omega, by omega, ⟨Mat.congr (hMX.set k j (by omega) _) HSTEP2.out⟩, ⟨((HV.out.alloc _).below hBX).far ((HV.out.alloc _).below hBX |>.ne_row (hMX.row k (by omega)) (by decide)) _⟩, ⟨Kd.R_set (Kd.R_below (Kd.R_alloc HO.out _) hBX) (hMX.row k (by omega)).blk ne69 j _⟩, ⟨below_set (below_then (below_alloc HB.out _) (below_alloc HB.out _).size hBX) (hMX.ge k (by omega))⟩⟩
          | true =>
            rw [hsk] at hSK
            have HSK := Aside0.mk hSK
            have HSJ := Aside0.mk hSJ
            have HSTEP2 := Aside0.mk (step_row (n := G.length) (k := k) (j := j) (val := fun b => staysAt G least k && staysAt G least b) (E := edgeM G least) HSTEP.out (by have := HJ.out; omega) (v := staysAt G least j) (by simp [hsk]))
            clear hSK hSJ hsk
            generalize staysAt G least j = sj at HSJ HSTEP2
            go_wp2
            refine start_ (n := 23) (S := fun W => W.cell? ⟨w.heap.size + 1, k, none⟩ = some (.slice (some ⟨R1 k, 0, none⟩) G.length G.length) ∧ W.cell? ⟨wr.heap.size, 0, none⟩ = some (.int .i64 (j : Int)) ∧ W.cell? (ad'.add (k * 5)) = some (.int .u8 nk.f0) ∧ W.cell? ⟨(ad'.add (k * 5)).block, (ad'.add (k * 5)).off + 1, none⟩ = some (.int .u8 nk.f1) ∧ W.cell? ⟨(ad'.add (k * 5)).block, (ad'.add (k * 5)).off + 2, none⟩ = some (.int .i64 nk.f2) ∧ W.cell? ⟨(ad'.add (k * 5)).block, (ad'.add (k * 5)).off + 3, none⟩ = some (.int .i64 nk.f3) ∧ W.cell? ⟨(ad'.add (k * 5)).block, (ad'.add (k * 5)).off + 4, none⟩ = some (.slice A4 nk.f4.length c4) ∧ W.cell? (ad'.add (j * 5)) = some (.int .u8 nj.f0) ∧ W.cell? ⟨(ad'.add (j * 5)).block, (ad'.add (j * 5)).off + 1, none⟩ = some (.int .u8 nj.f1) ∧ W.cell? ⟨(ad'.add (j * 5)).block, (ad'.add (j * 5)).off + 2, none⟩ = some (.int .i64 nj.f2) ∧ W.cell? ⟨(ad'.add (j * 5)).block, (ad'.add (j * 5)).off + 3, none⟩ = some (.int .i64 nj.f3) ∧ W.cell? ⟨(ad'.add (j * 5)).block, (ad'.add (j * 5)).off + 4, none⟩ = some (.slice A4' nj.f4.length c4') ∧ Var W w.heap.size (.int .i64 least) 3 ∧ Below (wr.alloc (.cells #[.int .i64 (j : Int), .int .i64 pin] 69)).heap.size (wr.alloc (.cells #[.int .i64 (j : Int), .int .i64 pin] 69)) W) (ds := [22]) #[false, false, false, false, false, false, false, false, false, false, false, false, false, false, false, false, false, false, false, false, false, false, false] (by kernel_rfl) rfl rfl (KS _ (Below.refl _ _).drew) (fun hHeld => ?_)
            refine with_tabW ways.tab10 ways.bits10 (fun HT_ HW_ => ?_)
            generalize (wr.alloc (.cells #[.int .i64 (j : Int), .int .i64 pin] 69)).drew = w0 at hHeld ⊢
            refine pure_ (i := 0) (N := (some 36)) (v := ?_) (a' := ?_) #[true, false, false, false, false, false, false, false, false, false, false, false, false, false, false, false, false, false, false, false, false, false, false] rfl rfl (any_of HT_.out (by kernel_rfl)) (fun _ _ _ h => h) (Or.inl ⟨by rfl, ?_⟩) ?_ ?_
            rotate_left
            · intro w'
              go_simp
              (try with_reducible rfl)
            rotate_left
            · simp only [Act.put, List.setIfInBounds_toArray, List.set_cons_zero, List.set_cons_succ, i64_w, i32_w]
              rfl
            refine pure_ (i := 1) (N := (some 37)) (v := ?_) (a' := ?_) #[true, true, false, false, false, false, false, false, false, false, false, false, false, false, false, false, false, false, false, false, false, false, false] rfl rfl (any_of HT_.out (by kernel_rfl)) (fun _ _ _ h => h) (Or.inl ⟨by rfl, ?_⟩) ?_ ?_
            rotate_left
            · intro w'
              go_simp
              (try with_reducible rfl)
            rotate_left
            · simp only [Act.put, List.setIfInBounds_toArray, List.set_cons_zero, List.set_cons_succ, i64_w, i32_w]
              rfl
            refine pure_ (i := 2) (N := (some 38)) (v := ?_) (a' := ?_) #[true, true, true, false, false, false, false, false, false, false, false, false, false, false, false, false, false, false, false, false, false, false, false] rfl rfl (any_of HT_.out (by kernel_rfl)) (fun _ _ _ h => h) (Or.inl ⟨by rfl, ?_⟩) ?_ ?_
            rotate_left
            · intro w'
              go_simp
              (try with_reducible rfl)
            rotate_left
            · simp only [Act.put, List.setIfInBounds_toArray, List.set_cons_zero, List.set_cons_succ, i64_w, i32_w]
              rfl
            refine take_ (i := 3) (N := (some 39)) (v := ?_) (a' := ?_) #[true, true, true, true, false, false, false, false, false, false, false, false, false, false, false, false, false, false, false, false, false, false, false] rfl rfl (take_ofW HT_.out HW_.out (by kernel_rfl)) (fun _ _ _ h => h) (Or.inl ⟨by rfl, ?_⟩) hHeld ?_ ?_
            rotate_left
            · rintro w' ⟨sx0, sx1, sx2, sx3, sx4, sx5, sx6, sx7, sx8, sx9, sx10, sx11, sx12, sx13⟩
              go_simp
              (try with_reducible rfl)
            rotate_left
            · simp only [Act.put, List.setIfInBounds_toArray, List.set_cons_zero, List.set_cons_succ, i64_w, i32_w]
              rfl
            refine pure_ (i := 4) (N := (some 40)) (v := ?_) (a' := ?_) #[true, true, true, true, true, false, false, false, false, false, false, false, false, false, false, false, false, false, false, false, false, false, false] rfl rfl (any_of HT_.out (by kernel_rfl)) (fun _ _ _ h => h) (Or.inl ⟨by rfl, ?_⟩) ?_ ?_
            rotate_left
            · intro w'
              go_simp
              (try with_reducible rfl)
            rotate_left
            · simp only [Act.put, List.setIfInBounds_toArray, List.set_cons_zero, List.set_cons_succ, i64_w, i32_w]
              rfl
            refine take_ (i := 5) (N := (some 41)) (v := ?_) (a' := ?_) #[true, true, true, true, true, true, false, false, false, false, false, false, false, false, false, false, false, false, false, false, false, false, false] rfl rfl (take_ofW HT_.out HW_.out (by kernel_rfl)) (fun _ _ _ h => h) (Or.inl ⟨by rfl, ?_⟩) hHeld ?_ ?_
            rotate_left
            · rintro w' ⟨sx0, sx1, sx2, sx3, sx4, sx5, sx6, sx7, sx8, sx9, sx10, sx11, sx12, sx13⟩
              go_simp
              (try with_reducible rfl)
            rotate_left
            · simp only [Act.put, List.setIfInBounds_toArray, List.set_cons_zero, List.set_cons_succ, i64_w, i32_w]
              rfl
            refine pure_ (i := 6) (N := (some 42)) (v := ?_) (a' := ?_) #[true, true, true, true, true, true, true, false, false, false, false, false, false, false, false, false, false, false, false, false, false, false, false] rfl rfl (any_of HT_.out (by kernel_rfl)) (fun _ _ _ h => h) (Or.inl ⟨by rfl, ?_⟩) ?_ ?_
            rotate_left
            · intro w'
              go_simp
              (try with_reducible rfl)
            rotate_left
            · simp only [Act.put, List.setIfInBounds_toArray, List.set_cons_zero, List.set_cons_succ, i64_w, i32_w]
              rfl
            refine pure_ (i := 7) (N := (some 43)) (v := ?_) (a' := ?_) #[true, true, true, true, true, true, true, true, false, false, false, false, false, false, false, false, false, false, false, false, false, false, false] rfl rfl (any_of HT_.out (by kernel_rfl)) (fun _ _ _ h => h) (Or.inl ⟨by rfl, ?_⟩) ?_ ?_
            rotate_left
            · intro w'
              go_simp
              (try with_reducible rfl)
            rotate_left
            · simp only [Act.put, List.setIfInBounds_toArray, List.set_cons_zero, List.set_cons_succ, i64_w, i32_w]
              rfl
            refine pure_ (i := 8) (N := (some 44)) (v := ?_) (a' := ?_) #[true, true, true, true, true, true, true, true, true, false, false, false, false, false, false, false, false, false, false, false, false, false, false] rfl rfl (any_of HT_.out (by kernel_rfl)) (fun _ _ _ h => h) (Or.inl ⟨by rfl, ?_⟩) ?_ ?_
            rotate_left
            · intro w'
              go_simp
              (try with_reducible rfl)
            rotate_left
            · simp only [Act.put, List.setIfInBounds_toArray, List.set_cons_zero, List.set_cons_succ, i64_w, i32_w]
              rfl
            refine pure_ (i := 9) (N := (some 45)) (v := ?_) (a' := ?_) #[true, true, true, true, true, true, true, true, true, true, false, false, false, false, false, false, false, false, false, false, false, false, false] rfl rfl (any_of HT_.out (by kernel_rfl)) (fun _ _ _ h => h) (Or.inl ⟨by rfl, ?_⟩) ?_ ?_
            rotate_left
            · intro w'
              go_simp
              (try with_reducible rfl)
            rotate_left
            · simp only [Act.put, List.setIfInBounds_toArray, List.set_cons_zero, List.set_cons_succ, i64_w, i32_w]
              rfl
            refine take_ (i := 10) (N := (some 46)) (v := ?_) (a' := ?_) #[true, true, true, true, true, true, true, true, true, true, true, false, false, false, false, false, false, false, false, false, false, false, false] rfl rfl (take_ofW HT_.out HW_.out (by kernel_rfl)) (fun _ _ _ h => h) (Or.inl ⟨by rfl, ?_⟩) hHeld ?_ ?_
            rotate_left
            · rintro w' ⟨sx0, sx1, sx2, sx3, sx4, sx5, sx6, sx7, sx8, sx9, sx10, sx11, sx12, sx13⟩
              go_simp
              (try with_reducible rfl)
            rotate_left
            · simp only [Act.put, List.setIfInBounds_toArray, List.set_cons_zero, List.set_cons_succ, i64_w, i32_w]
              rfl
            refine one_ (i := 11) (N := (some 47)) #[true, true, true, true, true, true, true, true, true, true, true, true, false, false, false, false, false, false, false, false, false, false, false] rfl rfl (one_of HT_.out (by kernel_rfl)) (by decide) (fun K hK => ?_)
            have hV := hHeld.2.2.2.2.2.2.2.2.2.2.2.2.1
            have hBX := hHeld.2.2.2.2.2.2.2.2.2.2.2.2.2
            refine call_ 54 #[.agg #[.int .u8 nk.f0, .int .u8 nk.f1, .int .i64 nk.f2, .int .i64 nk.f3, .slice A4 nk.f4.length c4], .pointer (some ⟨w.heap.size, 0, none⟩)] (by rfl) rfl (by go_simp) ?_
            refine (stays_calls nk A4 c4 least w.heap.size _ hV).mono ?_
            rintro e w1 ⟨rfl, hb⟩
            rw [← HSK.out]
            refine ⟨_, rfl, ?_⟩
            refine hK.out _ _ (KS _ (below_then hBX hBX.size hb)) (fun hHeld => ?_)
            clear hK K hV hBX hb
            refine norm_ (a' := ?_) ?_ ?_
            rotate_left
            · simp only [Act.put, List.setIfInBounds_toArray, List.set_cons_zero, List.set_cons_succ]
              rfl
            refine pure_ (i := 12) (N := (some 48)) (v := ?_) (a' := ?_) #[true, true, true, true, true, true, true, true, true, true, true, true, true, false, false, false, false, false, false, false, false, false, false] rfl rfl (any_of HT_.out (by kernel_rfl)) (fun _ _ _ h => h) (Or.inl ⟨by rfl, ?_⟩) ?_ ?_
            rotate_left
            · intro w'
              go_simp
              (try with_reducible rfl)
            rotate_left
            · simp only [Act.put, List.setIfInBounds_toArray, List.set_cons_zero, List.set_cons_succ, i64_w, i32_w]
              rfl
            refine pure_ (i := 13) (N := (some 49)) (v := ?_) (a' := ?_) #[true, true, true, true, true, true, true, true, true, true, true, true, true, true, false, false, false, false, false, false, false, false, false] rfl rfl (any_of HT_.out (by kernel_rfl)) (fun _ _ _ h => h) (Or.inl ⟨by rfl, ?_⟩) ?_ ?_
            rotate_left
            · intro w'
              go_simp
              (try with_reducible rfl)
            rotate_left
            · simp only [Act.put, List.setIfInBounds_toArray, List.set_cons_zero, List.set_cons_succ, i64_w, i32_w]
              rfl
            refine pure_ (i := 14) (N := (some 50)) (v := ?_) (a' := ?_) #[true, true, true, true, true, true, true, true, true, true, true, true, true, true, true, false, false, false, false, false, false, false, false] rfl rfl (any_of HT_.out (by kernel_rfl)) (fun _ _ _ h => h) (Or.inl ⟨by rfl, ?_⟩) ?_ ?_
            rotate_left
            · intro w'
              go_simp
              (try with_reducible rfl)
            rotate_left
            · simp only [Act.put, List.setIfInBounds_toArray, List.set_cons_zero, List.set_cons_succ, i64_w, i32_w]
              rfl
            refine pure_ (i := 15) (N := (some 51)) (v := ?_) (a' := ?_) #[true, true, true, true, true, true, true, true, true, true, true, true, true, true, true, true, false, false, false, false, false, false, false] rfl rfl (any_of HT_.out (by kernel_rfl)) (fun _ _ _ h => h) (Or.inl ⟨by rfl, ?_⟩) ?_ ?_
            rotate_left
            · intro w'
              go_simp
              (try with_reducible rfl)
            rotate_left
            · simp only [Act.put, List.setIfInBounds_toArray, List.set_cons_zero, List.set_cons_succ, i64_w, i32_w]
              rfl
            refine take_ (i := 16) (N := (some 52)) (v := ?_) (a' := ?_) #[true, true, true, true, true, true, true, true, true, true, true, true, true, true, true, true, true, false, false, false, false, false, false] rfl rfl (take_ofW HT_.out HW_.out (by kernel_rfl)) (fun _ _ _ h => h) (Or.inl ⟨by rfl, ?_⟩) hHeld ?_ ?_
            rotate_left
            · rintro w' ⟨sx0, sx1, sx2, sx3, sx4, sx5, sx6, sx7, sx8, sx9, sx10, sx11, sx12, sx13⟩
              go_simp
              (try with_reducible rfl)
            rotate_left
            · simp only [Act.put, List.setIfInBounds_toArray, List.set_cons_zero, List.set_cons_succ, i64_w, i32_w]
              rfl
            refine pure_ (i := 17) (N := (some 53)) (v := ?_) (a' := ?_) #[true, true, true, true, true, true, true, true, true, true, true, true, true, true, true, true, true, true, false, false, false, false, false] rfl rfl (any_of HT_.out (by kernel_rfl)) (fun _ _ _ h => h) (Or.inl ⟨by rfl, ?_⟩) ?_ ?_
            rotate_left
            · intro w'
              go_simp
              (try with_reducible rfl)
            rotate_left
            · simp only [Act.put, List.setIfInBounds_toArray, List.set_cons_zero, List.set_cons_succ, i64_w, i32_w]
              rfl
            refine take_ (i := 18) (N := (some 54)) (v := ?_) (a' := ?_) #[true, true, true, true, true, true, true, true, true, true, true, true, true, true, true, true, true, true, true, false, false, false, false] rfl rfl (take_ofW HT_.out HW_.out (by kernel_rfl)) (fun _ _ _ h => h) (Or.inl ⟨by rfl, ?_⟩) hHeld ?_ ?_
            rotate_left
            · rintro w' ⟨sx0, sx1, sx2, sx3, sx4, sx5, sx6, sx7, sx8, sx9, sx10, sx11, sx12, sx13⟩
              go_simp
              (try with_reducible rfl)
            rotate_left
            · simp only [Act.put, List.setIfInBounds_toArray, List.set_cons_zero, List.set_cons_succ, i64_w, i32_w]
              rfl
            refine one_ (i := 19) (N := (some 55)) #[true, true, true, true, true, true, true, true, true, true, true, true, true, true, true, true, true, true, true, true, false, false, false] rfl rfl (one_of HT_.out (by kernel_rfl)) (by decide) (fun K hK => ?_)
            have hV := hHeld.2.2.2.2.2.2.2.2.2.2.2.2.1
            have hBX := hHeld.2.2.2.2.2.2.2.2.2.2.2.2.2
            refine call_ 54 #[.agg #[.int .u8 nj.f0, .int .u8 nj.f1, .int .i64 nj.f2, .int .i64 nj.f3, .slice A4' nj.f4.length c4'], .pointer (some ⟨w.heap.size, 0, none⟩)] (by rfl) rfl (by go_simp) ?_
            refine (stays_calls nj A4' c4' least w.heap.size _ hV).mono ?_
            rintro e w1 ⟨rfl, hb⟩
            rw [← HSJ.out]
            refine ⟨_, rfl, ?_⟩
            refine hK.out _ _ (KS _ (below_then hBX hBX.size hb)) (fun hHeld => ?_)
            clear hK K hV hBX hb
            refine norm_ (a' := ?_) ?_ ?_
            rotate_left
            · simp only [Act.put, List.setIfInBounds_toArray, List.set_cons_zero, List.set_cons_succ]
              rfl
            refine pure_ (i := 20) (N := (some 56)) (v := ?_) (a' := ?_) #[true, true, true, true, true, true, true, true, true, true, true, true, true, true, true, true, true, true, true, true, true, false, false] rfl rfl (any_of HT_.out (by kernel_rfl)) (fun _ _ _ h => h) (Or.inl ⟨by rfl, ?_⟩) ?_ ?_
            rotate_left
            · intro w'
              go_simp
              (try with_reducible rfl)
            rotate_left
            · simp only [Act.put, List.setIfInBounds_toArray, List.set_cons_zero, List.set_cons_succ, i64_w, i32_w]
              rfl
            refine pure_ (i := 21) (N := (some 57)) (v := ?_) (a' := ?_) #[true, true, true, true, true, true, true, true, true, true, true, true, true, true, true, true, true, true, true, true, true, true, false] rfl rfl (any_of HT_.out (by kernel_rfl)) (fun _ _ _ h => h) (Or.inl ⟨by rfl, ?_⟩) ?_ ?_
            rotate_left
            · intro w'
              go_simp
              (try with_reducible rfl)
            rotate_left
            · simp only [Act.put, List.setIfInBounds_toArray, List.set_cons_zero, List.set_cons_succ, i64_w, i32_w]
              rfl
            refine last_ (i := 22) (N := none) #[true, true, true, true, true, true, true, true, true, true, true, true, true, true, true, true, true, true, true, true, true, true, true] rfl rfl (one_of HT_.out (by kernel_rfl)) (by decide) (fun K hK => ?_)
            have hBX := hHeld.2.2.2.2.2.2.2.2.2.2.2.2.2
            have hMX := (HM.out.alloc (.cells #[.int .i64 (j : Int), .int .i64 pin] 69)).below hBX
            have tc := hMX.cell k j (by omega) hjn
            have tf := hMX.free k j (by omega)
            refine skip_ (w1 := ?_) (by rfl) rfl ?_ ?_
            rotate_left
            · go_simp
              rfl
            refine hK.out _ _ ?_
            clear hK K
            refine done_ (done_of HT_.out (by kernel_rfl)) ?_
            go_wp2
            go_roundg (ps.length - (q + 1))
            case measure => omega
            case rel => exact ⟨q + 1, by go_num, by omega, by omega, ⟨Mat.congr (hMX.set k j (by omega) _) HSTEP2.out⟩, ⟨((HV.out.alloc _).below hBX).far ((HV.out.alloc _).below hBX |>.ne_row (hMX.row k (by omega)) (by decide)) _⟩, ⟨Kd.R_set (Kd.R_below (Kd.R_alloc HO.out _) hBX) (hMX.row k (by omega)).blk ne69 j _⟩, ⟨below_set (below_then (below_alloc HB.out _) (below_alloc HB.out _).size hBX) (hMX.ge k (by omega))⟩⟩
        · have hqe : q = ps.length := by omega
          have HQE := Aside0.mk hqe
          have hqz : ¬ (q : Int) < (ps.length : Int) := by omega
          clear hqe
          have HMF := Aside0.mk (Mat.congr (M' := edgeM G least) HM.out (fun a b _ _ => by
            by_cases e : a = k
            · simp only [e, if_true]
              rw [HED.out, HQE.out, List.take_length]
            · simp only [e, if_false]))
          clear HM
          go_wp2
          go_roundg (G.length - (k + 1))
          case measure => omega
          case rel => exact ⟨k + 1, R1, by go_num, by omega, by omega, HMF, HV, HB⟩
    · have hke : k = G.length := by omega
      have hltz : ¬ (k : Int) < (G.length : Int) := by omega
      obtain rfl : G.length = k := hke.symm
      clear hmk hmo hg hke
      have HM0 := Aside0.mk (Mat.congr (M' := (List.range 0).foldl (colW G.length) (edgeM G least)) HM.out (fun _ _ _ _ => rfl))
      clear HM HV
      go_wp2
      obtain ⟨wo, rfl⟩ : ∃ wo : World, wo = wr := ⟨_, rfl⟩
      go_loopg [62] G.length (fun g3 v62 wr => ∃ k : Nat, v62 = .int .i64 k ∧ k ≤ G.length ∧ G.length - k ≤ g3 ∧ Aside0 (Mat wr w.heap.size (w.heap.size + 1) G.length G.length R ((List.range k).foldl (colW G.length) (edgeM G least))) ∧ Aside0 (Below w.heap.size w wr))
      case atStart => exact ⟨0, rfl, Nat.zero_le _, by omega, HM0, HB⟩
      case round =>
        clear HM0 HB
        obtain ⟨k, rfl, hk3, hg3, HM3, HB3⟩ := hrel
        by_cases hlt3 : k < G.length
        · have hltz3 : (k : Int) < (G.length : Int) := by omega
          have HN3 := Aside0.mk (fold_range_succ (colW G.length) (edgeM G least) k)
          generalize (List.range k).foldl (colW G.length) (edgeM G least) = M3 at HM3 HN3
          go_wp2
          obtain ⟨wo, rfl⟩ : ∃ wo : World, wo = wr := ⟨_, rfl⟩
          go_loopg [67] G.length (fun g4 v67 wr => ∃ i : Nat, v67 = .int .i64 i ∧ i ≤ G.length ∧ G.length - i ≤ g4 ∧ Aside0 (Mat wr w.heap.size (w.heap.size + 1) G.length G.length R ((List.range i).foldl (rowW G.length k) M3)) ∧ Aside0 (Below w.heap.size w wr))
          case atStart => exact ⟨0, rfl, Nat.zero_le _, by omega, HM3, HB3⟩
          case round =>
            clear HM3 HB3
            obtain ⟨i, rfl, hk4, hg4, HM4, HB4⟩ := hrel
            by_cases hlt4 : i < G.length
            · have hltz4 : (i : Int) < (G.length : Int) := by omega
              have HN4 := Aside0.mk (fold_range_succ (rowW G.length k) M3 i)
              generalize (List.range i).foldl (rowW G.length k) M3 = M4 at HM4 HN4
              go_wp2
              obtain ⟨wo, rfl⟩ : ∃ wo : World, wo = wr := ⟨_, rfl⟩
              go_loopg [72] G.length (fun g5 v72 wr => ∃ j : Nat, v72 = .int .i64 j ∧ j ≤ G.length ∧ G.length - j ≤ g5 ∧ Aside0 (Mat wr w.heap.size (w.heap.size + 1) G.length G.length R ((List.range j).foldl (stepJ k i) M4)) ∧ Aside0 (Below w.heap.size w wr))
              case atStart => exact ⟨0, rfl, Nat.zero_le _, by omega, HM4, HB4⟩
              case round =>
                clear HM4 HB4
                obtain ⟨j, rfl, hk5, hg5, HM5, HB5⟩ := hrel
                by_cases hlt5 : j < G.length
                · have hltz5 : (j : Int) < (G.length : Int) := by omega
                  have HN5 := Aside0.mk (fold_range_succ (stepJ k i) M4 j)
                  generalize (List.range j).foldl (stepJ k i) M4 = M5 at HM5 HN5
                  have o1 := HM5.out.ocell i hlt4 hlt4
                  have o2 := HM5.out.ocell k hlt3 hlt3
                  have e1 := HM5.out.cell i j hlt4 hlt5
                  have e2 := HM5.out.cell i k hlt4 hlt3
                  have e3 := HM5.out.cell k j hlt3 hlt5
                  have f1 := HM5.out.free i j hlt4
                  have l1 := (HM5.out.row i hlt4).lt
                  have HST := Aside0.mk (show stepJ k i M5 j = upd2 M5 i j (M5 i j || (M5 i k && M5 k j)) from rfl)
                  generalize M5 i j = mij at e1 HST
                  generalize M5 i k = mik at e2 HST
                  generalize M5 k j = mkj at e3 HST
                  cases mij with
                  | true =>
                    go_wp2
                    refine start_ (n := 32) (S := fun W => W.cell? ⟨w.heap.size + 1, i, none⟩ = some (.slice (some ⟨R i, 0, none⟩) G.length G.length) ∧ W.cell? ⟨w.heap.size + 1, k, none⟩ = some (.slice (some ⟨R k, 0, none⟩) G.length G.length) ∧ W.cell? ⟨R i, j, none⟩ = some (.bool true) ∧ W.cell? ⟨R i, k, none⟩ = some (.bool mik) ∧ W.cell? ⟨R k, j, none⟩ = some (.bool mkj)) (ds := [31]) #[false, false, false, false, false, false, false, false, false, false, false, false, false, false, false, false, false, false, false, false, false, false, false, false, false, false, false, false, false, false, false, false] (by kernel_rfl) rfl rfl ⟨o1, o2, e1, e2, e3⟩ (fun hHeld => ?_)
                    refine with_tabW ways.tab22 ways.bits22 (fun HT_ HW_ => ?_)
                    have hMD := HM5.out.below (Below.refl wr.heap.size wr).drew
                    have hBD := HB5.out.drew
                    generalize wr.drew = w0 at hHeld hMD hBD ⊢
                    refine pure_ (i := 0) (N := (some 75)) (v := ?_) (a' := ?_) #[true, false, false, false, false, false, false, false, false, false, false, false, false, false, false, false, false, false, false, false, false, false, false, false, false, false, false, false, false, false, false, false] rfl rfl (any_of HT_.out (by kernel_rfl)) (fun _ _ _ h => h) (Or.inl ⟨by rfl, ?_⟩) ?_ ?_
                    rotate_left
                    · intro w'
                      go_simp
                      (try with_reducible rfl)
                    rotate_left
                    · simp only [Act.put, List.setIfInBounds_toArray, List.set_cons_zero, List.set_cons_succ, i64_w, i32_w]
                      rfl
                    refine pure_ (i := 1) (N := (some 76)) (v := ?_) (a' := ?_) #[true, true, false, false, false, false, false, false, false, false, false, false, false, false, false, false, false, false, false, false, false, false, false, false, false, false, false, false, false, false, false, false] rfl rfl (any_of HT_.out (by kernel_rfl)) (fun _ _ _ h => h) (Or.inl ⟨by rfl, ?_⟩) ?_ ?_
                    rotate_left
                    · intro w'
                      go_simp
                      (try with_reducible rfl)
                    rotate_left
                    · simp only [Act.put, List.setIfInBounds_toArray, List.set_cons_zero, List.set_cons_succ, i64_w, i32_w]
                      rfl
                    refine pure_ (i := 2) (N := (some 77)) (v := ?_) (a' := ?_) #[true, true, true, false, false, false, false, false, false, false, false, false, false, false, false, false, false, false, false, false, false, false, false, false, false, false, false, false, false, false, false, false] rfl rfl (any_of HT_.out (by kernel_rfl)) (fun _ _ _ h => h) (Or.inl ⟨by rfl, ?_⟩) ?_ ?_
                    rotate_left
                    · intro w'
                      go_simp
                      (try with_reducible rfl)
                    rotate_left
                    · simp only [Act.put, List.setIfInBounds_toArray, List.set_cons_zero, List.set_cons_succ, i64_w, i32_w]
                      rfl
                    refine take_ (i := 3) (N := (some 78)) (v := ?_) (a' := ?_) #[true, true, true, true, false, false, false, false, false, false, false, false, false, false, false, false, false, false, false, false, false, false, false, false, false, false, false, false, false, false, false, false] rfl rfl (take_ofW HT_.out HW_.out (by kernel_rfl)) (fun _ _ _ h => h) (Or.inl ⟨by rfl, ?_⟩) hHeld ?_ ?_
                    rotate_left
                    · rintro w' ⟨sx0, sx1, sx2, sx3, sx4⟩
                      go_simp
                      (try with_reducible rfl)
                    rotate_left
                    · simp only [Act.put, List.setIfInBounds_toArray, List.set_cons_zero, List.set_cons_succ, i64_w, i32_w]
                      rfl
                    refine pure_ (i := 4) (N := (some 79)) (v := ?_) (a' := ?_) #[true, true, true, true, true, false, false, false, false, false, false, false, false, false, false, false, false, false, false, false, false, false, false, false, false, false, false, false, false, false, false, false] rfl rfl (any_of HT_.out (by kernel_rfl)) (fun _ _ _ h => h) (Or.inl ⟨by rfl, ?_⟩) ?_ ?_
                    rotate_left
                    · intro w'
                      go_simp
                      (try with_reducible rfl)
                    rotate_left
                    · simp only [Act.put, List.setIfInBounds_toArray, List.set_cons_zero, List.set_cons_succ, i64_w, i32_w]
                      rfl
                    refine pure_ (i := 5) (N := (some 80)) (v := ?_) (a' := ?_) #[true, true, true, true, true, true, false, false, false, false, false, false, false, false, false, false, false, false, false, false, false, false, false, false, false, false, false, false, false, false, false, false] rfl rfl (any_of HT_.out (by kernel_rfl)) (fun _ _ _ h => h) (Or.inl ⟨by rfl, ?_⟩) ?_ ?_
                    rotate_left
                    · intro w'
                      go_simp
                      (try with_reducible rfl)
                    rotate_left
                    · simp only [Act.put, List.setIfInBounds_toArray, List.set_cons_zero, List.set_cons_succ, i64_w, i32_w]
                      rfl
                    refine pure_ (i := 6) (N := (some 81)) (v := ?_) (a' := ?_) #[true, true, true, true, true, true, true, false, false, false, false, false, false, false, false, false, false, false, false, false, false, false, false, false, false, false, false, false, false, false, false, false] rfl rfl (any_of HT_.out (by kernel_rfl)) (fun _ _ _ h => h) (Or.inl ⟨by rfl, ?_⟩) ?_ ?_
                    rotate_left
                    · intro w'
                      go_simp
                      (try with_reducible rfl)
                    rotate_left
                    · simp only [Act.put, List.setIfInBounds_toArray, List.set_cons_zero, List.set_cons_succ, i64_w, i32_w]
                      rfl
                    refine pure_ (i := 7) (N := (some 82)) (v := ?_) (a' := ?_) #[true, true, true, true, true, true, true, true, false, false, false, false, false, false, false, false, false, false, false, false, false, false, false, false, false, false, false, false, false, false, false, false] rfl rfl (any_of HT_.out (by kernel_rfl)) (fun _ _ _ h => h) (Or.inl ⟨by rfl, ?_⟩) ?_ ?_
                    rotate_left
                    · intro w'
                      go_simp
                      (try with_reducible rfl)
                    rotate_left
                    · simp only [Act.put, List.setIfInBounds_toArray, List.set_cons_zero, List.set_cons_succ, i64_w, i32_w]
                      rfl
                    refine take_ (i := 8) (N := (some 83)) (v := ?_) (a' := ?_) #[true, true, true, true, true, true, true, true, true, false, false, false, false, false, false, false, false, false, false, false, false, false, false, false, false, false, false, false, false, false, false, false] rfl rfl (take_ofW HT_.out HW_.out (by kernel_rfl)) (fun _ _ _ h => h) (Or.inl ⟨by rfl, ?_⟩) hHeld ?_ ?_
                    rotate_left
                    · rintro w' ⟨sx0, sx1, sx2, sx3, sx4⟩
                      go_simp
                      (try with_reducible rfl)
                    rotate_left
                    · simp only [Act.put, List.setIfInBounds_toArray, List.set_cons_zero, List.set_cons_succ, i64_w, i32_w]
                      rfl
                    refine pure_ (i := 9) (N := (some 84)) (v := ?_) (a' := ?_) #[true, true, true, true, true, true, true, true, true, true, false, false, false, false, false, false, false, false, false, false, false, false, false, false, false, false, false, false, false, false, false, false] rfl rfl (any_of HT_.out (by kernel_rfl)) (fun _ _ _ h => h) (Or.inl ⟨by rfl, ?_⟩) ?_ ?_
                    rotate_left
                    · intro w'
                      go_simp
                      (try with_reducible rfl)
                    rotate_left
                    · simp only [Act.put, List.setIfInBounds_toArray, List.set_cons_zero, List.set_cons_succ, i64_w, i32_w]
                      rfl
                    refine pure_ (i := 10) (N := (some 85)) (v := ?_) (a' := ?_) #[true, true, true, true, true, true, true, true, true, true, true, false, false, false, false, false, false, false, false, false, false, false, false, false, false, false, false, false, false, false, false, false] rfl rfl (any_of HT_.out (by kernel_rfl)) (fun _ _ _ h => h) (Or.inl ⟨by rfl, ?_⟩) ?_ ?_
                    rotate_left
                    · intro w'
                      go_simp
                      (try with_reducible rfl)
                    rotate_left
                    · simp only [Act.put, List.setIfInBounds_toArray, List.set_cons_zero, List.set_cons_succ, i64_w, i32_w]
                      rfl
                    refine take_ (i := 11) (N := (some 86)) (v := ?_) (a' := ?_) #[true, true, true, true, true, true, true, true, true, true, true, true, false, false, false, false, false, false, false, false, false, false, false, false, false, false, false, false, false, false, false, false] rfl rfl (take_ofW HT_.out HW_.out (by kernel_rfl)) (fun _ _ _ h => h) (Or.inl ⟨by rfl, ?_⟩) hHeld ?_ ?_
                    rotate_left
                    · rintro w' ⟨sx0, sx1, sx2, sx3, sx4⟩
                      go_simp
                      (try with_reducible rfl)
                    rotate_left
                    · simp only [Act.put, List.setIfInBounds_toArray, List.set_cons_zero, List.set_cons_succ, i64_w, i32_w]
                      rfl
                    refine pure_ (i := 12) (N := (some 87)) (v := ?_) (a' := ?_) #[true, true, true, true, true, true, true, true, true, true, true, true, true, false, false, false, false, false, false, false, false, false, false, false, false, false, false, false, false, false, false, false] rfl rfl (any_of HT_.out (by kernel_rfl)) (fun _ _ _ h => h) (Or.inl ⟨by rfl, ?_⟩) ?_ ?_
                    rotate_left
                    · intro w'
                      go_simp
                      (try with_reducible rfl)
                    rotate_left
                    · simp only [Act.put, List.setIfInBounds_toArray, List.set_cons_zero, List.set_cons_succ, i64_w, i32_w]
                      rfl
                    refine pure_ (i := 13) (N := (some 88)) (v := undef) (a' := ?_) #[true, true, true, true, true, true, true, true, true, true, true, true, true, true, false, false, false, false, false, false, false, false, false, false, false, false, false, false, false, false, false, false] rfl rfl (any_of HT_.out (by kernel_rfl)) (fun _ _ _ h => h) (Or.inr ⟨by rfl, rfl⟩) ?_ ?_
                    rotate_left
                    · simp only [Act.put, List.setIfInBounds_toArray, List.set_cons_zero, List.set_cons_succ, i64_w, i32_w]
                      rfl
                    refine pure_ (i := 14) (N := (some 89)) (v := undef) (a' := ?_) #[true, true, true, true, true, true, true, true, true, true, true, true, true, true, true, false, false, false, false, false, false, false, false, false, false, false, false, false, false, false, false, false] rfl rfl (any_of HT_.out (by kernel_rfl)) (fun _ _ _ h => h) (Or.inr ⟨by rfl, rfl⟩) ?_ ?_
                    rotate_left
                    · simp only [Act.put, List.setIfInBounds_toArray, List.set_cons_zero, List.set_cons_succ, i64_w, i32_w]
                      rfl
                    refine pure_ (i := 15) (N := (some 90)) (v := undef) (a' := ?_) #[true, true, true, true, true, true, true, true, true, true, true, true, true, true, true, true, false, false, false, false, false, false, false, false, false, false, false, false, false, false, false, false] rfl rfl (any_of HT_.out (by kernel_rfl)) (fun _ _ _ h => h) (Or.inr ⟨by rfl, rfl⟩) ?_ ?_
                    rotate_left
                    · simp only [Act.put, List.setIfInBounds_toArray, List.set_cons_zero, List.set_cons_succ, i64_w, i32_w]
                      rfl
                    refine pure_ (i := 16) (N := (some 91)) (v := undef) (a' := ?_) #[true, true, true, true, true, true, true, true, true, true, true, true, true, true, true, true, true, false, false, false, false, false, false, false, false, false, false, false, false, false, false, false] rfl rfl (any_of HT_.out (by kernel_rfl)) (fun _ _ _ h => h) (Or.inr ⟨by rfl, rfl⟩) ?_ ?_
                    rotate_left
                    · simp only [Act.put, List.setIfInBounds_toArray, List.set_cons_zero, List.set_cons_succ, i64_w, i32_w]
                      rfl
                    refine pure_ (i := 17) (N := (some 92)) (v := undef) (a' := ?_) #[true, true, true, true, true, true, true, true, true, true, true, true, true, true, true, true, true, true, false, false, false, false, false, false, false, false, false, false, false, false, false, false] rfl rfl (any_of HT_.out (by kernel_rfl)) (fun _ _ _ h => h) (Or.inr ⟨by rfl, rfl⟩) ?_ ?_
                    rotate_left
                    · simp only [Act.put, List.setIfInBounds_toArray, List.set_cons_zero, List.set_cons_succ, i64_w, i32_w]
                      rfl
                    refine pure_ (i := 18) (N := (some 93)) (v := undef) (a' := ?_) #[true, true, true, true, true, true, true, true, true, true, true, true, true, true, true, true, true, true, true, false, false, false, false, false, false, false, false, false, false, false, false, false] rfl rfl (any_of HT_.out (by kernel_rfl)) (fun _ _ _ h => h) (Or.inr ⟨by rfl, rfl⟩) ?_ ?_
                    rotate_left
                    · simp only [Act.put, List.setIfInBounds_toArray, List.set_cons_zero, List.set_cons_succ, i64_w, i32_w]
                      rfl
                    refine pure_ (i := 19) (N := (some 94)) (v := undef) (a' := ?_) #[true, true, true, true, true, true, true, true, true, true, true, true, true, true, true, true, true, true, true, true, false, false, false, false, false, false, false, false, false, false, false, false] rfl rfl (any_of HT_.out (by kernel_rfl)) (fun _ _ _ h => h) (Or.inr ⟨by rfl, rfl⟩) ?_ ?_
                    rotate_left
                    · simp only [Act.put, List.setIfInBounds_toArray, List.set_cons_zero, List.set_cons_succ, i64_w, i32_w]
                      rfl
                    refine pure_ (i := 20) (N := (some 95)) (v := undef) (a' := ?_) #[true, true, true, true, true, true, true, true, true, true, true, true, true, true, true, true, true, true, true, true, true, false, false, false, false, false, false, false, false, false, false, false] rfl rfl (any_of HT_.out (by kernel_rfl)) (fun _ _ _ h => h) (Or.inr ⟨by rfl, rfl⟩) ?_ ?_
                    rotate_left
                    · simp only [Act.put, List.setIfInBounds_toArray, List.set_cons_zero, List.set_cons_succ, i64_w, i32_w]
                      rfl
                    refine pure_ (i := 21) (N := (some 96)) (v := undef) (a' := ?_) #[true, true, true, true, true, true, true, true, true, true, true, true, true, true, true, true, true, true, true, true, true, true, false, false, false, false, false, false, false, false, false, false] rfl rfl (any_of HT_.out (by kernel_rfl)) (fun _ _ _ h => h) (Or.inr ⟨by rfl, rfl⟩) ?_ ?_
                    rotate_left
                    · simp only [Act.put, List.setIfInBounds_toArray, List.set_cons_zero, List.set_cons_succ, i64_w, i32_w]
                      rfl
                    refine pure_ (i := 22) (N := (some 97)) (v := undef) (a' := ?_) #[true, true, true, true, true, true, true, true, true, true, true, true, true, true, true, true, true, true, true, true, true, true, true, false, false, false, false, false, false, false, false, false] rfl rfl (any_of HT_.out (by kernel_rfl)) (fun _ _ _ h => h) (Or.inr ⟨by rfl, rfl⟩) ?_ ?_
                    rotate_left
                    · simp only [Act.put, List.setIfInBounds_toArray, List.set_cons_zero, List.set_cons_succ, i64_w, i32_w]
                      rfl
                    refine pure_ (i := 23) (N := (some 98)) (v := undef) (a' := ?_) #[true, true, true, true, true, true, true, true, true, true, true, true, true, true, true, true, true, true, true, true, true, true, true, true, false, false, false, false, false, false, false, false] rfl rfl (any_of HT_.out (by kernel_rfl)) (fun _ _ _ h => h) (Or.inr ⟨by rfl, rfl⟩) ?_ ?_
                    rotate_left
                    · simp only [Act.put, List.setIfInBounds_toArray, List.set_cons_zero, List.set_cons_succ, i64_w, i32_w]
                      rfl
                    refine pure_ (i := 24) (N := (some 99)) (v := undef) (a' := ?_) #[true, true, true, true, true, true, true, true, true, true, true, true, true, true, true, true, true, true, true, true, true, true, true, true, true, false, false, false, false, false, false, false] rfl rfl (any_of HT_.out (by kernel_rfl)) (fun _ _ _ h => h) (Or.inr ⟨by rfl, rfl⟩) ?_ ?_
                    rotate_left
                    · simp only [Act.put, List.setIfInBounds_toArray, List.set_cons_zero, List.set_cons_succ, i64_w, i32_w]
                      rfl
                    refine pure_ (i := 25) (N := (some 100)) (v := undef) (a' := ?_) #[true, true, true, true, true, true, true, true, true, true, true, true, true, true, true, true, true, true, true, true, true, true, true, true, true, true, false, false, false, false, false, false] rfl rfl (any_of HT_.out (by kernel_rfl)) (fun _ _ _ h => h) (Or.inr ⟨by rfl, rfl⟩) ?_ ?_
                    rotate_left
                    · simp only [Act.put, List.setIfInBounds_toArray, List.set_cons_zero, List.set_cons_succ, i64_w, i32_w]
                      rfl
                    refine pure_ (i := 26) (N := (some 101)) (v := undef) (a' := ?_) #[true, true, true, true, true, true, true, true, true, true, true, true, true, true, true, true, true, true, true, true, true, true, true, true, true, true, true, false, false, false, false, false] rfl rfl (any_of HT_.out (by kernel_rfl)) (fun _ _ _ h => h) (Or.inr ⟨by rfl, rfl⟩) ?_ ?_
                    rotate_left
                    · simp only [Act.put, List.setIfInBounds_toArray, List.set_cons_zero, List.set_cons_succ, i64_w, i32_w]
                      rfl
                    refine pure_ (i := 27) (N := (some 102)) (v := undef) (a' := ?_) #[true, true, true, true, true, true, true, true, true, true, true, true, true, true, true, true, true, true, true, true, true, true, true, true, true, true, true, true, false, false, false, false] rfl rfl (any_of HT_.out (by kernel_rfl)) (fun _ _ _ h => h) (Or.inr ⟨by rfl, rfl⟩) ?_ ?_
                    rotate_left
                    · simp only [Act.put, List.setIfInBounds_toArray, List.set_cons_zero, List.set_cons_succ, i64_w, i32_w]
                      rfl
                    refine pure_ (i := 28) (N := (some 103)) (v := undef) (a' := ?_) #[true, true, true, true, true, true, true, true, true, true, true, true, true, true, true, true, true, true, true, true, true, true, true, true, true, true, true, true, true, false, false, false] rfl rfl (any_of HT_.out (by kernel_rfl)) (fun _ _ _ h => h) (Or.inr ⟨by rfl, rfl⟩) ?_ ?_
                    rotate_left
                    · simp only [Act.put, List.setIfInBounds_toArray, List.set_cons_zero, List.set_cons_succ, i64_w, i32_w]
                      rfl
                    refine pure_ (i := 29) (N := (some 104)) (v := ?_) (a' := ?_) #[true, true, true, true, true, true, true, true, true, true, true, true, true, true, true, true, true, true, true, true, true, true, true, true, true, true, true, true, true, true, false, false] rfl rfl (any_of HT_.out (by kernel_rfl)) (fun _ _ _ h => h) (Or.inl ⟨by rfl, ?_⟩) ?_ ?_
                    rotate_left
                    · intro w'
                      go_simp
                      (try with_reducible rfl)
                    rotate_left
                    · simp only [Act.put, List.setIfInBounds_toArray, List.set_cons_zero, List.set_cons_succ, i64_w, i32_w]
                      rfl
                    refine pure_ (i := 30) (N := (some 105)) (v := ?_) (a' := ?_) #[true, true, true, true, true, true, true, true, true, true, true, true, true, true, true, true, true, true, true, true, true, true, true, true, true, true, true, true, true, true, true, false] rfl rfl (any_of HT_.out (by kernel_rfl)) (fun _ _ _ h => h) (Or.inl ⟨by rfl, ?_⟩) ?_ ?_
                    rotate_left
                    · intro w'
                      go_simp
                      (try with_reducible rfl)
                    rotate_left
                    · simp only [Act.put, List.setIfInBounds_toArray, List.set_cons_zero, List.set_cons_succ, i64_w, i32_w]
                      rfl
                    refine last_ (i := 31) (N := none) #[true, true, true, true, true, true, true, true, true, true, true, true, true, true, true, true, true, true, true, true, true, true, true, true, true, true, true, true, true, true, true, true] rfl rfl (one_of HT_.out (by kernel_rfl)) (by decide) (fun K hK => ?_)
                    have tc := hMD.cell i j hlt4 hlt5
                    have tf := hMD.free i j hlt4
                    refine skip_ (w1 := ?_) (by rfl) rfl ?_ ?_
                    rotate_left
                    · go_simp
                      rfl
                    refine hK.out _ _ ?_
                    clear hK K
                    refine done_ (done_of HT_.out (by kernel_rfl)) ?_
                    go_wp2
                    go_roundg (G.length - (j + 1))
                    case measure => omega
                    case rel => exact ⟨j + 1, by go_num, by omega, by omega, ⟨by rw [HN5.out, HST.out]; exact hMD.set i j hlt4 _⟩, ⟨below_set hBD (hMD.ge i hlt4)⟩⟩
                  | false =>
                    cases mik with
                    | false =>
                      go_wp2
                      refine start_ (n := 32) (S := fun W => W.cell? ⟨w.heap.size + 1, i, none⟩ = some (.slice (some ⟨R i, 0, none⟩) G.length G.length) ∧ W.cell? ⟨w.heap.size + 1, k, none⟩ = some (.slice (some ⟨R k, 0, none⟩) G.length G.length) ∧ W.cell? ⟨R i, j, none⟩ = some (.bool false) ∧ W.cell? ⟨R i, k, none⟩ = some (.bool false) ∧ W.cell? ⟨R k, j, none⟩ = some (.bool mkj)) (ds := [31]) #[false, false, false, false, false, false, false, false, false, false, false, false, false, false, false, false, false, false, false, false, false, false, false, false, false, false, false, false, false, false, false, false] (by kernel_rfl) rfl rfl ⟨o1, o2, e1, e2, e3⟩ (fun hHeld => ?_)
                      refine with_tabW ways.tab22 ways.bits22 (fun HT_ HW_ => ?_)
                      have hMD := HM5.out.below (Below.refl wr.heap.size wr).drew
                      have hBD := HB5.out.drew
                      generalize wr.drew = w0 at hHeld hMD hBD ⊢
                      refine pure_ (i := 0) (N := (some 75)) (v := ?_) (a' := ?_) #[true, false, false, false, false, false, false, false, false, false, false, false, false, false, false, false, false, false, false, false, false, false, false, false, false, false, false, false, false, false, false, false] rfl rfl (any_of HT_.out (by kernel_rfl)) (fun _ _ _ h => h) (Or.inl ⟨by rfl, ?_⟩) ?_ ?_
                      rotate_left
                      · intro w'
                        go_simp
                        (try with_reducible rfl)
                      rotate_left
                      · simp only [Act.put, List.setIfInBounds_toArray, List.set_cons_zero, List.set_cons_succ, i64_w, i32_w]
                        rfl
                      refine pure_ (i := 1) (N := (some 76)) (v := ?_) (a' := ?_) #[true, true, false, false, false, false, false, false, false, false, false, false, false, false, false, false, false, false, false, false, false, false, false, false, false, false, false, false, false, false, false, false] rfl rfl (any_of HT_.out (by kernel_rfl)) (fun _ _ _ h => h) (Or.inl ⟨by rfl, ?_⟩) ?_ ?_
                      rotate_left
                      · intro w'
                        go_simp
                        (try with_reducible rfl)
                      rotate_left
                      · simp only [Act.put, List.setIfInBounds_toArray, List.set_cons_zero, List.set_cons_succ, i64_w, i32_w]
                        rfl
                      refine pure_ (i := 2) (N := (some 77)) (v := ?_) (a' := ?_) #[true, true, true, false, false, false, false, false, false, false, false, false, false, false, false, false, false, false, false, false, false, false, false, false, false, false, false, false, false, false, false, false] rfl rfl (any_of HT_.out (by kernel_rfl)) (fun _ _ _ h => h) (Or.inl ⟨by rfl, ?_⟩) ?_ ?_
                      rotate_left
                      · intro w'
                        go_simp
                        (try with_reducible rfl)
                      rotate_left
                      · simp only [Act.put, List.setIfInBounds_toArray, List.set_cons_zero, List.set_cons_succ, i64_w, i32_w]
                        rfl
                      refine take_ (i := 3) (N := (some 78)) (v := ?_) (a' := ?_) #[true, true, true, true, false, false, false, false, false, false, false, false, false, false, false, false, false, false, false, false, false, false, false, false, false, false, false, false, false, false, false, false] rfl rfl (take_ofW HT_.out HW_.out (by kernel_rfl)) (fun _ _ _ h => h) (Or.inl ⟨by rfl, ?_⟩) hHeld ?_ ?_
                      rotate_left
                      · rintro w' ⟨sx0, sx1, sx2, sx3, sx4⟩
                        go_simp
                        (try with_reducible rfl)
                      rotate_left
                      · simp only [Act.put, List.setIfInBounds_toArray, List.set_cons_zero, List.set_cons_succ, i64_w, i32_w]
                        rfl
                      refine pure_ (i := 4) (N := (some 79)) (v := ?_) (a' := ?_) #[true, true, true, true, true, false, false, false, false, false, false, false, false, false, false, false, false, false, false, false, false, false, false, false, false, false, false, false, false, false, false, false] rfl rfl (any_of HT_.out (by kernel_rfl)) (fun _ _ _ h => h) (Or.inl ⟨by rfl, ?_⟩) ?_ ?_
                      rotate_left
                      · intro w'
                        go_simp
                        (try with_reducible rfl)
                      rotate_left
                      · simp only [Act.put, List.setIfInBounds_toArray, List.set_cons_zero, List.set_cons_succ, i64_w, i32_w]
                        rfl
                      refine pure_ (i := 5) (N := (some 80)) (v := ?_) (a' := ?_) #[true, true, true, true, true, true, false, false, false, false, false, false, false, false, false, false, false, false, false, false, false, false, false, false, false, false, false, false, false, false, false, false] rfl rfl (any_of HT_.out (by kernel_rfl)) (fun _ _ _ h => h) (Or.inl ⟨by rfl, ?_⟩) ?_ ?_
                      rotate_left
                      · intro w'
                        go_simp
                        (try with_reducible rfl)
                      rotate_left
                      · simp only [Act.put, List.setIfInBounds_toArray, List.set_cons_zero, List.set_cons_succ, i64_w, i32_w]
                        rfl
                      refine pure_ (i := 6) (N := (some 81)) (v := ?_) (a' := ?_) #[true, true, true, true, true, true, true, false, false, false, false, false, false, false, false, false, false, false, false, false, false, false, false, false, false, false, false, false, false, false, false, false] rfl rfl (any_of HT_.out (by kernel_rfl)) (fun _ _ _ h => h) (Or.inl ⟨by rfl, ?_⟩) ?_ ?_
                      rotate_left
                      · intro w'
                        go_simp
                        (try with_reducible rfl)
                      rotate_left
                      · simp only [Act.put, List.setIfInBounds_toArray, List.set_cons_zero, List.set_cons_succ, i64_w, i32_w]
                        rfl
                      refine pure_ (i := 7) (N := (some 82)) (v := ?_) (a' := ?_) #[true, true, true, true, true, true, true, true, false, false, false, false, false, false, false, false, false, false, false, false, false, false, false, false, false, false, false, false, false, false, false, false] rfl rfl (any_of HT_.out (by kernel_rfl)) (fun _ _ _ h => h) (Or.inl ⟨by rfl, ?_⟩) ?_ ?_
                      rotate_left
                      · intro w'
                        go_simp
                        (try with_reducible rfl)
                      rotate_left
                      · simp only [Act.put, List.setIfInBounds_toArray, List.set_cons_zero, List.set_cons_succ, i64_w, i32_w]
                        rfl
                      refine take_ (i := 8) (N := (some 83)) (v := ?_) (a' := ?_) #[true, true, true, true, true, true, true, true, true, false, false, false, false, false, false, false, false, false, false, false, false, false, false, false, false, false, false, false, false, false, false, false] rfl rfl (take_ofW HT_.out HW_.out (by kernel_rfl)) (fun _ _ _ h => h) (Or.inl ⟨by rfl, ?_⟩) hHeld ?_ ?_
                      rotate_left
                      · rintro w' ⟨sx0, sx1, sx2, sx3, sx4⟩
                        go_simp
                        (try with_reducible rfl)
                      rotate_left
                      · simp only [Act.put, List.setIfInBounds_toArray, List.set_cons_zero, List.set_cons_succ, i64_w, i32_w]
                        rfl
                      refine pure_ (i := 9) (N := (some 84)) (v := ?_) (a' := ?_) #[true, true, true, true, true, true, true, true, true, true, false, false, false, false, false, false, false, false, false, false, false, false, false, false, false, false, false, false, false, false, false, false] rfl rfl (any_of HT_.out (by kernel_rfl)) (fun _ _ _ h => h) (Or.inl ⟨by rfl, ?_⟩) ?_ ?_
                      rotate_left
                      · intro w'
                        go_simp
                        (try with_reducible rfl)
                      rotate_left
                      · simp only [Act.put, List.setIfInBounds_toArray, List.set_cons_zero, List.set_cons_succ, i64_w, i32_w]
                        rfl
                      refine pure_ (i := 10) (N := (some 85)) (v := ?_) (a' := ?_) #[true, true, true, true, true, true, true, true, true, true, true, false, false, false, false, false, false, false, false, false, false, false, false, false, false, false, false, false, false, false, false, false] rfl rfl (any_of HT_.out (by kernel_rfl)) (fun _ _ _ h => h) (Or.inl ⟨by rfl, ?_⟩) ?_ ?_
                      rotate_left
                      · intro w'
                        go_simp
                        (try with_reducible rfl)
                      rotate_left
                      · simp only [Act.put, List.setIfInBounds_toArray, List.set_cons_zero, List.set_cons_succ, i64_w, i32_w]
                        rfl
                      refine take_ (i := 11) (N := (some 86)) (v := ?_) (a' := ?_) #[true, true, true, true, true, true, true, true, true, true, true, true, false, false, false, false, false, false, false, false, false, false, false, false, false, false, false, false, false, false, false, false] rfl rfl (take_ofW HT_.out HW_.out (by kernel_rfl)) (fun _ _ _ h => h) (Or.inl ⟨by rfl, ?_⟩) hHeld ?_ ?_
                      rotate_left
                      · rintro w' ⟨sx0, sx1, sx2, sx3, sx4⟩
                        go_simp
                        (try with_reducible rfl)
                      rotate_left
                      · simp only [Act.put, List.setIfInBounds_toArray, List.set_cons_zero, List.set_cons_succ, i64_w, i32_w]
                        rfl
                      refine pure_ (i := 12) (N := (some 87)) (v := ?_) (a' := ?_) #[true, true, true, true, true, true, true, true, true, true, true, true, true, false, false, false, false, false, false, false, false, false, false, false, false, false, false, false, false, false, false, false] rfl rfl (any_of HT_.out (by kernel_rfl)) (fun _ _ _ h => h) (Or.inl ⟨by rfl, ?_⟩) ?_ ?_
                      rotate_left
                      · intro w'
                        go_simp
                        (try with_reducible rfl)
                      rotate_left
                      · simp only [Act.put, List.setIfInBounds_toArray, List.set_cons_zero, List.set_cons_succ, i64_w, i32_w]
                        rfl
                      refine pure_ (i := 13) (N := (some 88)) (v := ?_) (a' := ?_) #[true, true, true, true, true, true, true, true, true, true, true, true, true, true, false, false, false, false, false, false, false, false, false, false, false, false, false, false, false, false, false, false] rfl rfl (any_of HT_.out (by kernel_rfl)) (fun _ _ _ h => h) (Or.inl ⟨by rfl, ?_⟩) ?_ ?_
                      rotate_left
                      · intro w'
                        go_simp
                        (try with_reducible rfl)
                      rotate_left
                      · simp only [Act.put, List.setIfInBounds_toArray, List.set_cons_zero, List.set_cons_succ, i64_w, i32_w]
                        rfl
                      refine pure_ (i := 14) (N := (some 89)) (v := ?_) (a' := ?_) #[true, true, true, true, true, true, true, true, true, true, true, true, true, true, true, false, false, false, false, false, false, false, false, false, false, false, false, false, false, false, false, false] rfl rfl (any_of HT_.out (by kernel_rfl)) (fun _ _ _ h => h) (Or.inl ⟨by rfl, ?_⟩) ?_ ?_
                      rotate_left
                      · intro w'
                        go_simp
                        (try with_reducible rfl)
                      rotate_left
                      · simp only [Act.put, List.setIfInBounds_toArray, List.set_cons_zero, List.set_cons_succ, i64_w, i32_w]
                        rfl
                      refine pure_ (i := 15) (N := (some 90)) (v := ?_) (a' := ?_) #[true, true, true, true, true, true, true, true, true, true, true, true, true, true, true, true, false, false, false, false, false, false, false, false, false, false, false, false, false, false, false, false] rfl rfl (any_of HT_.out (by kernel_rfl)) (fun _ _ _ h => h) (Or.inl ⟨by rfl, ?_⟩) ?_ ?_
                      rotate_left
                      · intro w'
                        go_simp
                        (try with_reducible rfl)
                      rotate_left
                      · simp only [Act.put, List.setIfInBounds_toArray, List.set_cons_zero, List.set_cons_succ, i64_w, i32_w]
                        rfl
                      refine take_ (i := 16) (N := (some 91)) (v := ?_) (a' := ?_) #[true, true, true, true, true, true, true, true, true, true, true, true, true, true, true, true, true, false, false, false, false, false, false, false, false, false, false, false, false, false, false, false] rfl rfl (take_ofW HT_.out HW_.out (by kernel_rfl)) (fun _ _ _ h => h) (Or.inl ⟨by rfl, ?_⟩) hHeld ?_ ?_
                      rotate_left
                      · rintro w' ⟨sx0, sx1, sx2, sx3, sx4⟩
                        go_simp
                        (try with_reducible rfl)
                      rotate_left
                      · simp only [Act.put, List.setIfInBounds_toArray, List.set_cons_zero, List.set_cons_succ, i64_w, i32_w]
                        rfl
                      refine pure_ (i := 17) (N := (some 92)) (v := ?_) (a' := ?_) #[true, true, true, true, true, true, true, true, true, true, true, true, true, true, true, true, true, true, false, false, false, false, false, false, false, false, false, false, false, false, false, false] rfl rfl (any_of HT_.out (by kernel_rfl)) (fun _ _ _ h => h) (Or.inl ⟨by rfl, ?_⟩) ?_ ?_
                      rotate_left
                      · intro w'
                        go_simp
                        (try with_reducible rfl)
                      rotate_left
                      · simp only [Act.put, List.setIfInBounds_toArray, List.set_cons_zero, List.set_cons_succ, i64_w, i32_w]
                        rfl
                      refine pure_ (i := 18) (N := (some 93)) (v := ?_) (a' := ?_) #[true, true, true, true, true, true, true, true, true, true, true, true, true, true, true, true, true, true, true, false, false, false, false, false, false, false, false, false, false, false, false, false] rfl rfl (any_of HT_.out (by kernel_rfl)) (fun _ _ _ h => h) (Or.inl ⟨by rfl, ?_⟩) ?_ ?_
                      rotate_left
                      · intro w'
                        go_simp
                        (try with_reducible rfl)
                      rotate_left
                      · simp only [Act.put, List.setIfInBounds_toArray, List.set_cons_zero, List.set_cons_succ, i64_w, i32_w]
                        rfl
                      refine take_ (i := 19) (N := (some 94)) (v := ?_) (a' := ?_) #[true, true, true, true, true, true, true, true, true, true, true, true, true, true, true, true, true, true, true, true, false, false, false, false, false, false, false, false, false, false, false, false] rfl rfl (take_ofW HT_.out HW_.out (by kernel_rfl)) (fun _ _ _ h => h) (Or.inl ⟨by rfl, ?_⟩) hHeld ?_ ?_
                      rotate_left
                      · rintro w' ⟨sx0, sx1, sx2, sx3, sx4⟩
                        go_simp
                        (try with_reducible rfl)
                      rotate_left
                      · simp only [Act.put, List.setIfInBounds_toArray, List.set_cons_zero, List.set_cons_succ, i64_w, i32_w]
                        rfl
                      refine pure_ (i := 20) (N := (some 95)) (v := ?_) (a' := ?_) #[true, true, true, true, true, true, true, true, true, true, true, true, true, true, true, true, true, true, true, true, true, false, false, false, false, false, false, false, false, false, false, false] rfl rfl (any_of HT_.out (by kernel_rfl)) (fun _ _ _ h => h) (Or.inl ⟨by rfl, ?_⟩) ?_ ?_
                      rotate_left
                      · intro w'
                        go_simp
                        (try with_reducible rfl)
                      rotate_left
                      · simp only [Act.put, List.setIfInBounds_toArray, List.set_cons_zero, List.set_cons_succ, i64_w, i32_w]
                        rfl
                      refine pure_ (i := 21) (N := (some 96)) (v := undef) (a' := ?_) #[true, true, true, true, true, true, true, true, true, true, true, true, true, true, true, true, true, true, true, true, true, true, false, false, false, false, false, false, false, false, false, false] rfl rfl (any_of HT_.out (by kernel_rfl)) (fun _ _ _ h => h) (Or.inr ⟨by rfl, rfl⟩) ?_ ?_
                      rotate_left
                      · simp only [Act.put, List.setIfInBounds_toArray, List.set_cons_zero, List.set_cons_succ, i64_w, i32_w]
                        rfl
                      refine pure_ (i := 22) (N := (some 97)) (v := undef) (a' := ?_) #[true, true, true, true, true, true, true, true, true, true, true, true, true, true, true, true, true, true, true, true, true, true, true, false, false, false, false, false, false, false, false, false] rfl rfl (any_of HT_.out (by kernel_rfl)) (fun _ _ _ h => h) (Or.inr ⟨by rfl, rfl⟩) ?_ ?_
                      rotate_left
                      · simp only [Act.put, List.setIfInBounds_toArray, List.set_cons_zero, List.set_cons_succ, i64_w, i32_w]
                        rfl
                      refine pure_ (i := 23) (N := (some 98)) (v := undef) (a' := ?_) #[true, true, true, true, true, true, true, true, true, true, true, true, true, true, true, true, true, true, true, true, true, true, true, true, false, false, false, false, false, false, false, false] rfl rfl (any_of HT_.out (by kernel_rfl)) (fun _ _ _ h => h) (Or.inr ⟨by rfl, rfl⟩) ?_ ?_
                      rotate_left
                      · simp only [Act.put, List.setIfInBounds_toArray, List.set_cons_zero, List.set_cons_succ, i64_w, i32_w]
                        rfl
                      refine pure_ (i := 24) (N := (some 99)) (v := undef) (a' := ?_) #[true, true, true, true, true, true, true, true, true, true, true, true, true, true, true, true, true, true, true, true, true, true, true, true, true, false, false, false, false, false, false, false] rfl rfl (any_of HT_.out (by kernel_rfl)) (fun _ _ _ h => h) (Or.inr ⟨by rfl, rfl⟩) ?_ ?_
                      rotate_left
                      · simp only [Act.put, List.setIfInBounds_toArray, List.set_cons_zero, List.set_cons_succ, i64_w, i32_w]
                        rfl
                      refine pure_ (i := 25) (N := (some 100)) (v := undef) (a' := ?_) #[true, true, true, true, true, true, true, true, true, true, true, true, true, true, true, true, true, true, true, true, true, true, true, true, true, true, false, false, false, false, false, false] rfl rfl (any_of HT_.out (by kernel_rfl)) (fun _ _ _ h => h) (Or.inr ⟨by rfl, rfl⟩) ?_ ?_
                      rotate_left
                      · simp only [Act.put, List.setIfInBounds_toArray, List.set_cons_zero, List.set_cons_succ, i64_w, i32_w]
                        rfl
                      refine pure_ (i := 26) (N := (some 101)) (v := undef) (a' := ?_) #[true, true, true, true, true, true, true, true, true, true, true, true, true, true, true, true, true, true, true, true, true, true, true, true, true, true, true, false, false, false, false, false] rfl rfl (any_of HT_.out (by kernel_rfl)) (fun _ _ _ h => h) (Or.inr ⟨by rfl, rfl⟩) ?_ ?_
                      rotate_left
                      · simp only [Act.put, List.setIfInBounds_toArray, List.set_cons_zero, List.set_cons_succ, i64_w, i32_w]
                        rfl
                      refine pure_ (i := 27) (N := (some 102)) (v := undef) (a' := ?_) #[true, true, true, true, true, true, true, true, true, true, true, true, true, true, true, true, true, true, true, true, true, true, true, true, true, true, true, true, false, false, false, false] rfl rfl (any_of HT_.out (by kernel_rfl)) (fun _ _ _ h => h) (Or.inr ⟨by rfl, rfl⟩) ?_ ?_
                      rotate_left
                      · simp only [Act.put, List.setIfInBounds_toArray, List.set_cons_zero, List.set_cons_succ, i64_w, i32_w]
                        rfl
                      refine pure_ (i := 28) (N := (some 103)) (v := ?_) (a' := ?_) #[true, true, true, true, true, true, true, true, true, true, true, true, true, true, true, true, true, true, true, true, true, true, true, true, true, true, true, true, true, false, false, false] rfl rfl (any_of HT_.out (by kernel_rfl)) (fun _ _ _ h => h) (Or.inl ⟨by rfl, ?_⟩) ?_ ?_
                      rotate_left
                      · intro w'
                        go_simp
                        (try with_reducible rfl)
                      rotate_left
                      · simp only [Act.put, List.setIfInBounds_toArray, List.set_cons_zero, List.set_cons_succ, i64_w, i32_w]
                        rfl
                      refine pure_ (i := 29) (N := (some 104)) (v := ?_) (a' := ?_) #[true, true, true, true, true, true, true, true, true, true, true, true, true, true, true, true, true, true, true, true, true, true, true, true, true, true, true, true, true, true, false, false] rfl rfl (any_of HT_.out (by kernel_rfl)) (fun _ _ _ h => h) (Or.inl ⟨by rfl, ?_⟩) ?_ ?_
                      rotate_left
                      · intro w'
                        go_simp
                        (try with_reducible rfl)
                      rotate_left
                      · simp only [Act.put, List.setIfInBounds_toArray, List.set_cons_zero, List.set_cons_succ, i64_w, i32_w]
                        rfl
                      refine pure_ (i := 30) (N := (some 105)) (v := ?_) (a' := ?_) #[true, true, true, true, true, true, true, true, true, true, true, true, true, true, true, true, true, true, true, true, true, true, true, true, true, true, true, true, true, true, true, false] rfl rfl (any_of HT_.out (by kernel_rfl)) (fun _ _ _ h => h) (Or.inl ⟨by rfl, ?_⟩) ?_ ?_
                      rotate_left
                      · intro w'
                        go_simp
                        (try with_reducible rfl)
                      rotate_left
                      · simp only [Act.put, List.setIfInBounds_toArray, List.set_cons_zero, List.set_cons_succ, i64_w, i32_w]
                        rfl
                      refine last_ (i := 31) (N := none) #[true, true, true, true, true, true, true, true, true, true, true, true, true, true, true, true, true, true, true, true, true, true, true, true, true, true, true, true, true, true, true, true] rfl rfl (one_of HT_.out (by kernel_rfl)) (by decide) (fun K hK => ?_)
                      have tc := hMD.cell i j hlt4 hlt5
                      have tf := hMD.free i j hlt4
                      refine skip_ (w1 := ?_) (by rfl) rfl ?_ ?_
                      rotate_left
                      · go_simp
                        rfl
                      refine hK.out _ _ ?_
                      clear hK K
                      refine done_ (done_of HT_.out (by kernel_rfl)) ?_
                      go_wp2
                      go_roundg (G.length - (j + 1))
                      case measure => omega
                      case rel => exact ⟨j + 1, by go_num, by omega, by omega, ⟨by rw [HN5.out, HST.out]; exact hMD.set i j hlt4 _⟩, ⟨below_set hBD (hMD.ge i hlt4)⟩⟩
                    | true =>
                      go_wp2
                      refine start_ (n := 32) (S := fun W => W.cell? ⟨w.heap.size + 1, i, none⟩ = some (.slice (some ⟨R i, 0, none⟩) G.length G.length) ∧ W.cell? ⟨w.heap.size + 1, k, none⟩ = some (.slice (some ⟨R k, 0, none⟩) G.length G.length) ∧ W.cell? ⟨R i, j, none⟩ = some (.bool false) ∧ W.cell? ⟨R i, k, none⟩ = some (.bool true) ∧ W.cell? ⟨R k, j, none⟩ = some (.bool mkj)) (ds := [31]) #[false, false, false, false, false, false, false, false, false, false, false, false, false, false, false, false, false, false, false, false, false, false, false, false, false, false, false, false, false, false, false, false] (by kernel_rfl) rfl rfl ⟨o1, o2, e1, e2, e3⟩ (fun hHeld => ?_)
                      refine with_tabW ways.tab22 ways.bits22 (fun HT_ HW_ => ?_)
                      have hMD := HM5.out.below (Below.refl wr.heap.size wr).drew
                      have hBD := HB5.out.drew
                      generalize wr.drew = w0 at hHeld hMD hBD ⊢
                      refine pure_ (i := 0) (N := (some 75)) (v := ?_) (a' := ?_) #[true, false, false, false, false, false, false, false, false, false, false, false, false, false, false, false, false, false, false, false, false, false, false, false, false, false, false, false, false, false, false, false] rfl rfl (any_of HT_.out (by kernel_rfl)) (fun _ _ _ h => h) (Or.inl ⟨by rfl, ?_⟩) ?_ ?_
                      rotate_left
                      · intro w'
                        go_simp
                        (try with_reducible rfl)
                      rotate_left
                      · simp only [Act.put, List.setIfInBounds_toArray, List.set_cons_zero, List.set_cons_succ, i64_w, i32_w]
                        rfl
                      refine pure_ (i := 1) (N := (some 76)) (v := ?_) (a' := ?_) #[true, true, false, false, false, false, false, false, false, false, false, false, false, false, false, false, false, false, false, false, false, false, false, false, false, false, false, false, false, false, false, false] rfl rfl (any_of HT_.out (by kernel_rfl)) (fun _ _ _ h => h) (Or.inl ⟨by rfl, ?_⟩) ?_ ?_
                      rotate_left
                      · intro w'
                        go_simp
                        (try with_reducible rfl)
                      rotate_left
                      · simp only [Act.put, List.setIfInBounds_toArray, List.set_cons_zero, List.set_cons_succ, i64_w, i32_w]
                        rfl
                      refine pure_ (i := 2) (N := (some 77)) (v := ?_) (a' := ?_) #[true, true, true, false, false, false, false, false, false, false, false, false, false, false, false, false, false, false, false, false, false, false, false, false, false, false, false, false, false, false, false, false] rfl rfl (any_of HT_.out (by kernel_rfl)) (fun _ _ _ h => h) (Or.inl ⟨by rfl, ?_⟩) ?_ ?_
                      rotate_left
                      · intro w'
                        go_simp
                        (try with_reducible rfl)
                      rotate_left
                      · simp only [Act.put, List.setIfInBounds_toArray, List.set_cons_zero, List.set_cons_succ, i64_w, i32_w]
                        rfl
                      refine take_ (i := 3) (N := (some 78)) (v := ?_) (a' := ?_) #[true, true, true, true, false, false, false, false, false, false, false, false, false, false, false, false, false, false, false, false, false, false, false, false, false, false, false, false, false, false, false, false] rfl rfl (take_ofW HT_.out HW_.out (by kernel_rfl)) (fun _ _ _ h => h) (Or.inl ⟨by rfl, ?_⟩) hHeld ?_ ?_
                      rotate_left
                      · rintro w' ⟨sx0, sx1, sx2, sx3, sx4⟩
                        go_simp
                        (try with_reducible rfl)
                      rotate_left
                      · simp only [Act.put, List.setIfInBounds_toArray, List.set_cons_zero, List.set_cons_succ, i64_w, i32_w]
                        rfl
                      refine pure_ (i := 4) (N := (some 79)) (v := ?_) (a' := ?_) #[true, true, true, true, true, false, false, false, false, false, false, false, false, false, false, false, false, false, false, false, false, false, false, false, false, false, false, false, false, false, false, false] rfl rfl (any_of HT_.out (by kernel_rfl)) (fun _ _ _ h => h) (Or.inl ⟨by rfl, ?_⟩) ?_ ?_
                      rotate_left
                      · intro w'
                        go_simp
                        (try with_reducible rfl)
                      rotate_left
                      · simp only [Act.put, List.setIfInBounds_toArray, List.set_cons_zero, List.set_cons_succ, i64_w, i32_w]
                        rfl
                      refine pure_ (i := 5) (N := (some 80)) (v := ?_) (a' := ?_) #[true, true, true, true, true, true, false, false, false, false, false, false, false, false, false, false, false, false, false, false, false, false, false, false, false, false, false, false, false, false, false, false] rfl rfl (any_of HT_.out (by kernel_rfl)) (fun _ _ _ h => h) (Or.inl ⟨by rfl, ?_⟩) ?_ ?_
                      rotate_left
                      · intro w'
                        go_simp
                        (try with_reducible rfl)
                      rotate_left
                      · simp only [Act.put, List.setIfInBounds_toArray, List.set_cons_zero, List.set_cons_succ, i64_w, i32_w]
                        rfl
                      refine pure_ (i := 6) (N := (some 81)) (v := ?_) (a' := ?_) #[true, true, true, true, true, true, true, false, false, false, false, false, false, false, false, false, false, false, false, false, false, false, false, false, false, false, false, false, false, false, false, false] rfl rfl (any_of HT_.out (by kernel_rfl)) (fun _ _ _ h => h) (Or.inl ⟨by rfl, ?_⟩) ?_ ?_
                      rotate_left
                      · intro w'
                        go_simp
                        (try with_reducible rfl)
                      rotate_left
                      · simp only [Act.put, List.setIfInBounds_toArray, List.set_cons_zero, List.set_cons_succ, i64_w, i32_w]
                        rfl
                      refine pure_ (i := 7) (N := (some 82)) (v := ?_) (a' := ?_) #[true, true, true, true, true, true, true, true, false, false, false, false, false, false, false, false, false, false, false, false, false, false, false, false, false, false, false, false, false, false, false, false] rfl rfl (any_of HT_.out (by kernel_rfl)) (fun _ _ _ h => h) (Or.inl ⟨by rfl, ?_⟩) ?_ ?_
                      rotate_left
                      · intro w'
                        go_simp
                        (try with_reducible rfl)
                      rotate_left
                      · simp only [Act.put, List.setIfInBounds_toArray, List.set_cons_zero, List.set_cons_succ, i64_w, i32_w]
                        rfl
                      refine take_ (i := 8) (N := (some 83)) (v := ?_) (a' := ?_) #[true, true, true, true, true, true, true, true, true, false, false, false, false, false, false, false, false, false, false, false, false, false, false, false, false, false, false, false, false, false, false, false] rfl rfl (take_ofW HT_.out HW_.out (by kernel_rfl)) (fun _ _ _ h => h) (Or.inl ⟨by rfl, ?_⟩) hHeld ?_ ?_
                      rotate_left
                      · rintro w' ⟨sx0, sx1, sx2, sx3, sx4⟩
                        go_simp
                        (try with_reducible rfl)
                      rotate_left
                      · simp only [Act.put, List.setIfInBounds_toArray, List.set_cons_zero, List.set_cons_succ, i64_w, i32_w]
                        rfl
                      refine pure_ (i := 9) (N := (some 84)) (v := ?_) (a' := ?_) #[true, true, true, true, true, true, true, true, true, true, false, false, false, false, false, false, false, false, false, false, false, false, false, false, false, false, false, false, false, false, false, false] rfl rfl (any_of HT_.out (by kernel_rfl)) (fun _ _ _ h => h) (Or.inl ⟨by rfl, ?_⟩) ?_ ?_
                      rotate_left
                      · intro w'
                        go_simp
                        (try with_reducible rfl)
                      rotate_left
                      · simp only [Act.put, List.setIfInBounds_toArray, List.set_cons_zero, List.set_cons_succ, i64_w, i32_w]
                        rfl
                      refine pure_ (i := 10) (N := (some 85)) (v := ?_) (a' := ?_) #[true, true, true, true, true, true, true, true, true, true, true, false, false, false, false, false, false, false, false, false, false, false, false, false, false, false, false, false, false, false, false, false] rfl rfl (any_of HT_.out (by kernel_rfl)) (fun _ _ _ h => h) (Or.inl ⟨by rfl, ?_⟩) ?_ ?_
                      rotate_left
                      · intro w'
                        go_simp
                        (try with_reducible rfl)
                      rotate_left
                      · simp only [Act.put, List.setIfInBounds_toArray, List.set_cons_zero, List.set_cons_succ, i64_w, i32_w]
                        rfl
                      refine take_ (i := 11) (N := (some 86)) (v := ?_) (a' := ?_) #[true, true, true, true, true, true, true, true, true, true, true, true, false, false, false, false, false, false, false, false, false, false, false, false, false, false, false, false, false, false, false, false] rfl rfl (take_ofW HT_.out HW_.out (by kernel_rfl)) (fun _ _ _ h => h) (Or.inl ⟨by rfl, ?_⟩) hHeld ?_ ?_
                      rotate_left
                      · rintro w' ⟨sx0, sx1, sx2, sx3, sx4⟩
                        go_simp
                        (try with_reducible rfl)
                      rotate_left
                      · simp only [Act.put, List.setIfInBounds_toArray, List.set_cons_zero, List.set_cons_succ, i64_w, i32_w]
                        rfl
                      refine pure_ (i := 12) (N := (some 87)) (v := ?_) (a' := ?_) #[true, true, true, true, true, true, true, true, true, true, true, true, true, false, false, false, false, false, false, false, false, false, false, false, false, false, false, false, false, false, false, false] rfl rfl (any_of HT_.out (by kernel_rfl)) (fun _ _ _ h => h) (Or.inl ⟨by rfl, ?_⟩) ?_ ?_
                      rotate_left
                      · intro w'
                        go_simp
                        (try with_reducible rfl)
                      rotate_left
                      · simp only [Act.put, List.setIfInBounds_toArray, List.set_cons_zero, List.set_cons_succ, i64_w, i32_w]
                        rfl
                      refine pure_ (i := 13) (N := (some 88)) (v := ?_) (a' := ?_) #[true, true, true, true, true, true, true, true, true, true, true, true, true, true, false, false, false, false, false, false, false, false, false, false, false, false, false, false, false, false, false, false] rfl rfl (any_of HT_.out (by kernel_rfl)) (fun _ _ _ h => h) (Or.inl ⟨by rfl, ?_⟩) ?_ ?_
                      rotate_left
                      · intro w'
                        go_simp
                        (try with_reducible rfl)
                      rotate_left
                      · simp only [Act.put, List.setIfInBounds_toArray, List.set_cons_zero, List.set_cons_succ, i64_w, i32_w]
                        rfl
                      refine pure_ (i := 14) (N := (some 89)) (v := ?_) (a' := ?_) #[true, true, true, true, true, true, true, true, true, true, true, true, true, true, true, false, false, false, false, false, false, false, false, false, false, false, false, false, false, false, false, false] rfl rfl (any_of HT_.out (by kernel_rfl)) (fun _ _ _ h => h) (Or.inl ⟨by rfl, ?_⟩) ?_ ?_
                      rotate_left
                      · intro w'
                        go_simp
                        (try with_reducible rfl)
                      rotate_left
                      · simp only [Act.put, List.setIfInBounds_toArray, List.set_cons_zero, List.set_cons_succ, i64_w, i32_w]
                        rfl
                      refine pure_ (i := 15) (N := (some 90)) (v := ?_) (a' := ?_) #[true, true, true, true, true, true, true, true, true, true, true, true, true, true, true, true, false, false, false, false, false, false, false, false, false, false, false, false, false, false, false, false] rfl rfl (any_of HT_.out (by kernel_rfl)) (fun _ _ _ h => h) (Or.inl ⟨by rfl, ?_⟩) ?_ ?_
                      rotate_left
                      · intro w'
                        go_simp
                        (try with_reducible rfl)
                      rotate_left
                      · simp only [Act.put, List.setIfInBounds_toArray, List.set_cons_zero, List.set_cons_succ, i64_w, i32_w]
                        rfl
                      refine take_ (i := 16) (N := (some 91)) (v := ?_) (a' := ?_) #[true, true, true, true, true, true, true, true, true, true, true, true, true, true, true, true, true, false, false, false, false, false, false, false, false, false, false, false, false, false, false, false] rfl rfl (take_ofW HT_.out HW_.out (by kernel_rfl)) (fun _ _ _ h => h) (Or.inl ⟨by rfl, ?_⟩) hHeld ?_ ?_
                      rotate_left
                      · rintro w' ⟨sx0, sx1, sx2, sx3, sx4⟩
                        go_simp
                        (try with_reducible rfl)
                      rotate_left
                      · simp only [Act.put, List.setIfInBounds_toArray, List.set_cons_zero, List.set_cons_succ, i64_w, i32_w]
                        rfl
                      refine pure_ (i := 17) (N := (some 92)) (v := ?_) (a' := ?_) #[true, true, true, true, true, true, true, true, true, true, true, true, true, true, true, true, true, true, false, false, false, false, false, false, false, false, false, false, false, false, false, false] rfl rfl (any_of HT_.out (by kernel_rfl)) (fun _ _ _ h => h) (Or.inl ⟨by rfl, ?_⟩) ?_ ?_
                      rotate_left
                      · intro w'
                        go_simp
                        (try with_reducible rfl)
                      rotate_left
                      · simp only [Act.put, List.setIfInBounds_toArray, List.set_cons_zero, List.set_cons_succ, i64_w, i32_w]
                        rfl
                      refine pure_ (i := 18) (N := (some 93)) (v := ?_) (a' := ?_) #[true, true, true, true, true, true, true, true, true, true, true, true, true, true, true, true, true, true, true, false, false, false, false, false, false, false, false, false, false, false, false, false] rfl rfl (any_of HT_.out (by kernel_rfl)) (fun _ _ _ h => h) (Or.inl ⟨by rfl, ?_⟩) ?_ ?_
                      rotate_left
                      · intro w'
                        go_simp
                        (try with_reducible rfl)
                      rotate_left
                      · simp only [Act.put, List.setIfInBounds_toArray, List.set_cons_zero, List.set_cons_succ, i64_w, i32_w]
                        rfl
                      refine take_ (i := 19) (N := (some 94)) (v := ?_) (a' := ?_) #[true, true, true, true, true, true, true, true, true, true, true, true, true, true, true, true, true, true, true, true, false, false, false, false, false, false, false, false, false, false, false, false] rfl rfl (take_ofW HT_.out HW_.out (by kernel_rfl)) (fun _ _ _ h => h) (Or.inl ⟨by rfl, ?_⟩) hHeld ?_ ?_
                      rotate_left
                      · rintro w' ⟨sx0, sx1, sx2, sx3, sx4⟩
                        go_simp
                        (try with_reducible rfl)
                      rotate_left
                      · simp only [Act.put, List.setIfInBounds_toArray, List.set_cons_zero, List.set_cons_succ, i64_w, i32_w]
                        rfl
                      refine pure_ (i := 20) (N := (some 95)) (v := ?_) (a' := ?_) #[true, true, true, true, true, true, true, true, true, true, true, true, true, true, true, true, true, true, true, true, true, false, false, false, false, false, false, false, false, false, false, false] rfl rfl (any_of HT_.out (by kernel_rfl)) (fun _ _ _ h => h) (Or.inl ⟨by rfl, ?_⟩) ?_ ?_
                      rotate_left
                      · intro w'
                        go_simp
                        (try with_reducible rfl)
                      rotate_left
                      · simp only [Act.put, List.setIfInBounds_toArray, List.set_cons_zero, List.set_cons_succ, i64_w, i32_w]
                        rfl
                      refine pure_ (i := 21) (N := (some 96)) (v := ?_) (a' := ?_) #[true, true, true, true, true, true, true, true, true, true, true, true, true, true, true, true, true, true, true, true, true, true, false, false, false, false, false, false, false, false, false, false] rfl rfl (any_of HT_.out (by kernel_rfl)) (fun _ _ _ h => h) (Or.inl ⟨by rfl, ?_⟩) ?_ ?_
                      rotate_left
                      · intro w'
                        go_simp
                        (try with_reducible rfl)
                      rotate_left
                      · simp only [Act.put, List.setIfInBounds_toArray, List.set_cons_zero, List.set_cons_succ, i64_w, i32_w]
                        rfl
                      refine pure_ (i := 22) (N := (some 97)) (v := ?_) (a' := ?_) #[true, true, true, true, true, true, true, true, true, true, true, true, true, true, true, true, true, true, true, true, true, true, true, false, false, false, false, false, false, false, false, false] rfl rfl (any_of HT_.out (by kernel_rfl)) (fun _ _ _ h => h) (Or.inl ⟨by rfl, ?_⟩) ?_ ?_
                      rotate_left
                      · intro w'
                        go_simp
                        (try with_reducible rfl)
                      rotate_left
                      · simp only [Act.put, List.setIfInBounds_toArray, List.set_cons_zero, List.set_cons_succ, i64_w, i32_w]
                        rfl
                      refine pure_ (i := 23) (N := (some 98)) (v := ?_) (a' := ?_) #[true, true, true, true, true, true, true, true, true, true, true, true, true, true, true, true, true, true, true, true, true, true, true, true, false, false, false, false, false, false, false, false] rfl rfl (any_of HT_.out (by kernel_rfl)) (fun _ _ _ h => h) (Or.inl ⟨by rfl, ?_⟩) ?_ ?_
                      rotate_left
                      · intro w'
                        go_simp
                        (try with_reducible rfl)
                      rotate_left
                      · simp only [Act.put, List.setIfInBounds_toArray, List.set_cons_zero, List.set_cons_succ, i64_w, i32_w]
                        rfl
                      refine take_ (i := 24) (N := (some 99)) (v := ?_) (a' := ?_) #[true, true, true, true, true, true, true, true, true, true, true, true, true, true, true, true, true, true, true, true, true, true, true, true, true, false, false, false, false, false, false, false] rfl rfl (take_ofW HT_.out HW_.out (by kernel_rfl)) (fun _ _ _ h => h) (Or.inl ⟨by rfl, ?_⟩) hHeld ?_ ?_
                      rotate_left
                      · rintro w' ⟨sx0, sx1, sx2, sx3, sx4⟩
                        go_simp
                        (try with_reducible rfl)
                      rotate_left
                      · simp only [Act.put, List.setIfInBounds_toArray, List.set_cons_zero, List.set_cons_succ, i64_w, i32_w]
                        rfl
                      refine pure_ (i := 25) (N := (some 100)) (v := ?_) (a' := ?_) #[true, true, true, true, true, true, true, true, true, true, true, true, true, true, true, true, true, true, true, true, true, true, true, true, true, true, false, false, false, false, false, false] rfl rfl (any_of HT_.out (by kernel_rfl)) (fun _ _ _ h => h) (Or.inl ⟨by rfl, ?_⟩) ?_ ?_
                      rotate_left
                      · intro w'
                        go_simp
                        (try with_reducible rfl)
                      rotate_left
                      · simp only [Act.put, List.setIfInBounds_toArray, List.set_cons_zero, List.set_cons_succ, i64_w, i32_w]
                        rfl
                      refine pure_ (i := 26) (N := (some 101)) (v := ?_) (a' := ?_) #[true, true, true, true, true, true, true, true, true, true, true, true, true, true, true, true, true, true, true, true, true, true, true, true, true, true, true, false, false, false, false, false] rfl rfl (any_of HT_.out (by kernel_rfl)) (fun _ _ _ h => h) (Or.inl ⟨by rfl, ?_⟩) ?_ ?_
                      rotate_left
                      · intro w'
                        go_simp
                        (try with_reducible rfl)
                      rotate_left
                      · simp only [Act.put, List.setIfInBounds_toArray, List.set_cons_zero, List.set_cons_succ, i64_w, i32_w]
                        rfl
                      refine take_ (i := 27) (N := (some 102)) (v := ?_) (a' := ?_) #[true, true, true, true, true, true, true, true, true, true, true, true, true, true, true, true, true, true, true, true, true, true, true, true, true, true, true, true, false, false, false, false] rfl rfl (take_ofW HT_.out HW_.out (by kernel_rfl)) (fun _ _ _ h => h) (Or.inl ⟨by rfl, ?_⟩) hHeld ?_ ?_
                      rotate_left
                      · rintro w' ⟨sx0, sx1, sx2, sx3, sx4⟩
                        go_simp
                        (try with_reducible rfl)
                      rotate_left
                      · simp only [Act.put, List.setIfInBounds_toArray, List.set_cons_zero, List.set_cons_succ, i64_w, i32_w]
                        rfl
                      refine pure_ (i := 28) (N := (some 103)) (v := ?_) (a' := ?_) #[true, true, true, true, true, true, true, true, true, true, true, true, true, true, true, true, true, true, true, true, true, true, true, true, true, true, true, true, true, false, false, false] rfl rfl (any_of HT_.out (by kernel_rfl)) (fun _ _ _ h => h) (Or.inl ⟨by rfl, ?_⟩) ?_ ?_
                      rotate_left
                      · intro w'
                        go_simp
                        (try with_reducible rfl)
                      rotate_left
                      · simp only [Act.put, List.setIfInBounds_toArray, List.set_cons_zero, List.set_cons_succ, i64_w, i32_w]
                        rfl
                      refine pure_ (i := 29) (N := (some 104)) (v := ?_) (a' := ?_) #[true, true, true, true, true, true, true, true, true, true, true, true, true, true, true, true, true, true, true, true, true, true, true, true, true, true, true, true, true, true, false, false] rfl rfl (any_of HT_.out (by kernel_rfl)) (fun _ _ _ h => h) (Or.inl ⟨by rfl, ?_⟩) ?_ ?_
                      rotate_left
                      · intro w'
                        go_simp
                        (try with_reducible rfl)
                      rotate_left
                      · simp only [Act.put, List.setIfInBounds_toArray, List.set_cons_zero, List.set_cons_succ, i64_w, i32_w]
                        rfl
                      refine pure_ (i := 30) (N := (some 105)) (v := ?_) (a' := ?_) #[true, true, true, true, true, true, true, true, true, true, true, true, true, true, true, true, true, true, true, true, true, true, true, true, true, true, true, true, true, true, true, false] rfl rfl (any_of HT_.out (by kernel_rfl)) (fun _ _ _ h => h) (Or.inl ⟨by rfl, ?_⟩) ?_ ?_
                      rotate_left
                      · intro w'
                        go_simp
                        (try with_reducible rfl)
                      rotate_left
                      · simp only [Act.put, List.setIfInBounds_toArray, List.set_cons_zero, List.set_cons_succ, i64_w, i32_w]
                        rfl
                      refine last_ (i := 31) (N := none) #[true, true, true, true, true, true, true, true, true, true, true, true, true, true, true, true, true, true, true, true, true, true, true, true, true, true, true, true, true, true, true, true] rfl rfl (one_of HT_.out (by kernel_rfl)) (by decide) (fun K hK => ?_)
                      have tc := hMD.cell i j hlt4 hlt5
                      have tf := hMD.free i j hlt4
                      refine skip_ (w1 := ?_) (by rfl) rfl ?_ ?_
                      rotate_left
                      · go_simp
                        rfl
                      refine hK.out _ _ ?_
                      clear hK K
                      refine done_ (done_of HT_.out (by kernel_rfl)) ?_
                      go_wp2
                      go_roundg (G.length - (j + 1))
                      case measure => omega
                      case rel => exact ⟨j + 1, by go_num, by omega, by omega, ⟨by rw [HN5.out, HST.out]; exact hMD.set i j hlt4 _⟩, ⟨below_set hBD (hMD.ge i hlt4)⟩⟩
                · have hje : ¬ (j : Int) < (G.length : Int) := by omega
                  obtain rfl : G.length = j := by omega
                  have HM6 := Aside0.mk (show Mat wr w.heap.size (w.heap.size + 1) G.length G.length R ((List.range (i + 1)).foldl (rowW G.length k) M3) by rw [HN4.out]; exact HM5.out)
                  clear HM5
                  go_wp2
                  go_roundg (G.length - (i + 1))
                  case measure => omega
                  case rel => exact ⟨i + 1, by go_num, by omega, by omega, HM6, HB5⟩
            · have hje : ¬ (i : Int) < (G.length : Int) := by omega
              obtain rfl : G.length = i := by omega
              have HM6 := Aside0.mk (show Mat wr w.heap.size (w.heap.size + 1) G.length G.length R ((List.range (k + 1)).foldl (colW G.length) (edgeM G least)) by rw [HN3.out]; exact HM4.out)
              clear HM4
              go_wp2
              go_roundg (G.length - (k + 1))
              case measure => omega
              case rel => exact ⟨k + 1, by go_num, by omega, by omega, HM6, HB4⟩
        · have hje : ¬ (k : Int) < (G.length : Int) := by omega
          obtain rfl : G.length = k := by omega
          go_wp2
          go_ret
          exact ⟨w.heap.size + 1, R, rfl, HM3.out, HB3.out⟩
end Go.Proofs.Ytnjlonenckifpaa.X
namespace Go.Proofs.Ytnjlonenckifpaa.X
set_option linter.unusedVariables false
set_option linter.unusedSimpArgs false
open Go.RowKit Go.Proofs.YtnjlonenckifpaaW.PrintWords Go.Proofs.YtnjlonenckifpaaW.PrintLast Go.Proofs.YtnjlonenckifpaaW.PrintMore
def placesL (n : Nat) : List Int := (List.range n).map fun j : Nat => (j : Int)
def backB (G : List S39) (least : Int) (M : Nat → Nat → Bool) (i : Nat) (x : Int) : Bool := (rd_T39 G x).f3 == least && (M i x.toNat && M x.toNat i)
def stuckAt (G : List S39) (least : Nat) (i : Nat) : Bool := (placesL G.length).any (backB G (least : Int) (waysM G (least : Int)) i)
def stepS (G : List S39) (a : Nat) (least : Nat) : Nat := ((List.range a).find? (stuckAt G least)).getD a
def stuckN (G : List S39) : Nat := (List.range 4).foldl (stepS G) G.length
def check_stuck.f (G : List S39) : Option Int := if small G = true then some (stuckN G : Int) else none
theorem places_l0 (n : Nat) (hn : n ≤ 64) : ∀ (d k q : Nat), q + d = n → d < k → check_places.l0 k (placesL q) (n : Int) (q : Int) = some (placesL n)
  | 0, k, q, hq, hk => by
    obtain ⟨k, rfl⟩ : ∃ m, k = m + 1 := ⟨k - 1, by omega⟩
    obtain rfl : q = n := by omega
    rw [check_places.l0, if_neg (by omega)]
  | d + 1, k, q, hq, hk => by
    obtain ⟨k, rfl⟩ : ∃ m, k = m + 1 := ⟨k - 1, by omega⟩
    rw [check_places.l0, if_pos (by omega), if_pos (by simp [placesL]; omega), wrap_small (by omega) (by omega)]
    have := places_l0 n hn d k (q + 1) (by omega) (by omega)
    rw [show placesL q ++ [(q : Int)] = placesL (q + 1) by simp [placesL, List.range_succ], show ((q : Int) + 1) = ((q + 1 : Nat) : Int) by omega]
    exact this
theorem places_tells (G : List S39) (hn : G.length ≤ 64) : ∃ k, check_places.f k G = some (placesL G.length) :=
  ⟨G.length + 1, by have := places_l0 G.length hn G.length (G.length + 1) 0 (by omega) (by omega); simpa [check_places.f, placesL] using this⟩
theorem placesL_mem {n : Nat} {x : Int} (h : x ∈ placesL n) : ∃ j : Nat, j < n ∧ x = (j : Int) := by
  simp only [placesL, List.mem_map, List.mem_range] at h
  obtain ⟨j, h1, rfl⟩ := h
  exact ⟨j, h1, rfl⟩
set_option maxHeartbeats 4000000 in
set_option maxRecDepth 100000 in
theorem back_calls (A : Option Addr) (c : Nat) (G : List S39) (least : Int) (base mb gb lb tb ib : Nat) (R : Nat → Nat) (M : Nat → Nat → Bool) (i j : Nat) (hn : G.length ≤ 64) (hi : i < G.length) (hj : j < G.length) (w : World)
    (hr : Kd.C k39 w A G.length G) (hg : Var w gb (.slice A G.length c) 23) (hl : Var w lb (.int .i64 least) 3) (ht : Var w tb (.slice (some ⟨mb, 0, none⟩) G.length G.length) 58) (hib : Var w ib (.int .i64 (i : Int)) 3)
    (hm : Mat w base mb G.length G.length R M) :
    Calls Try.prog 46 #[.int .i64 (j : Int), .pointer (some ⟨gb, 0, none⟩), .pointer (some ⟨lb, 0, none⟩), .pointer (some ⟨tb, 0, none⟩), .pointer (some ⟨ib, 0, none⟩)] w fun e w' => e = .returned (.bool (backB G least M i (j : Int))) ∧ ∃ q', w' = w.drewN q' := by
  have hj0 : (0 : Int) ≤ (j : Int) := by omega
  have hj1 : (j : Int) < (G.length : Int) := by omega
  have hi0 : (0 : Int) ≤ (i : Int) := by omega
  have hi1 : (i : Int) < (G.length : Int) := by omega
  have hlen : G.length ≤ 9223372036854775807 := by omega
  obtain ⟨ad, A4, c4, eA, -, -, -, q3, -⟩ := at_T39 hr (j : Int) (by omega) hj1
  subst eA
  simp only [Int.toNat_natCast] at q3
  have v1 := hg.cell
  have v2 := hl.cell
  have v3 := ht.cell
  have v4 := hib.cell
  have o1 := hm.ocell i hi hi
  have o2 := hm.ocell j hj hj
  have e1 := hm.cell i j hi hj
  have e2 := hm.cell j i hj hi
  have HP := Aside0.mk (show backB G least M i (j : Int) = ((rd_T39 G (j : Int)).f3 == least && (M i j && M j i)) by simp [backB])
  generalize (rd_T39 G (j : Int)).f3 = d at q3 HP
  generalize M i j = mij at e1 HP
  generalize M j i = mji at e2 HP
  clear hr hg hl ht hib hm
  by_cases hd : d = least
  · have hdb : (d == least) = true := beq_iff_eq.2 hd
    rw [hdb] at HP
    clear hd
    cases mij with
    | true =>
      go_enter Try.func46, Try.ntmps46
      go_wp2
      go_quiet (fail)
      go_wp2
      go_ret
      exact ⟨by rw [HP.out]; rfl, _, rfl⟩
    | false =>
      go_enter Try.func46, Try.ntmps46
      go_wp2
      go_quiet (fail)
      go_wp2
      go_ret
      exact ⟨by rw [HP.out]; rfl, _, rfl⟩
  · have hdb : (d == least) = false := beq_eq_false_iff_ne.2 hd
    rw [hdb] at HP
    clear hd
    go_enter Try.func46, Try.ntmps46
    go_wp2
    go_quiet (fail)
    go_wp2
    go_ret
    exact ⟨by rw [HP.out]; rfl, _, rfl⟩
theorem scan_step {p : Nat → Bool} {k : Nat} (h : ∀ j, j < k → p j = false) (hk : p k = false) : ∀ j, j < k + 1 → p j = false := fun j hj => by
  by_cases e : j = k
  · rw [e]; exact hk
  · exact h j (by omega)
theorem stepS_found {G : List S39} {a least i : Nat} (hi : i < a) (h : stuckAt G least i = true) (hb : ∀ j, j < i → stuckAt G least j = false) : stepS G a least = i := by
  rw [stepS, find_range_some hi h hb]; rfl
theorem stepS_none {G : List S39} {a least : Nat} (hb : ∀ j, j < a → stuckAt G least j = false) : stepS G a least = a := by
  rw [stepS, find_range_none hb]; rfl
theorem below_at2 {w W W' : World} {q : Nat} (h : W' = W.drewN q) (k : Below w.heap.size w W) : Below w.heap.size w W' := by rw [h]; exact pw_below_drewN k q
theorem Asks.back {A : Option Addr} {c : Nat} {G : List S39} {least : Int} {base mb gb lb tb ib : Nat} {R : Nat → Nat} {M : Nat → Nat → Bool} {i : Nat} {w W : World} (hr : Kd.C k39 w A G.length G) (hb : Below w.heap.size w W)
    (hg : Var W gb (.slice A G.length c) 23) (hl : Var W lb (.int .i64 least) 3) (ht : Var W tb (.slice (some ⟨mb, 0, none⟩) G.length G.length) 58) (hib : Var W ib (.int .i64 (i : Int)) 3) (hm : Mat W base mb G.length G.length R M) (hn : G.length ≤ 64) (hi : i < G.length) :
    Asks 46 #[.pointer (some ⟨gb, 0, none⟩), .pointer (some ⟨lb, 0, none⟩), .pointer (some ⟨tb, 0, none⟩), .pointer (some ⟨ib, 0, none⟩)] (backB G least M i) (placesL G.length) W := fun q x hx n => by
  obtain ⟨j, hj, rfl⟩ := placesL_mem (List.mem_of_getElem? hx)
  exact back_calls A c G least base mb gb lb tb ib R M i j hn hi hj _ (Kd.C_drewN (Kd.C_below hr hb) n) (hg.drewN n) (hl.drewN n) (ht.drewN n) (hib.drewN n) (hm.drewN n)
set_option maxHeartbeats 8000000 in
set_option maxRecDepth 100000 in
theorem check_stuck.calls (A : Option Addr) (c : Nat) (G : List S39) (r : Int) (w : World) (hr : Kd.C k39 w A G.length G) (hc : G.length ≤ c) (h : check_stuck.f G = some r) :
    Calls Try.prog 31 #[.slice A G.length c] w fun e w' => e = .returned (.int .i64 r) ∧ Below w.heap.size w w' := by
  have hm : small G = true ∧ (stuckN G : Int) = r := by simpa [check_stuck.f] using h
  obtain ⟨hs, rfl⟩ := hm
  clear h
  have hn : G.length ≤ 64 := by simp [small] at hs; exact hs.1
  obtain ⟨kp, hkp⟩ := places_tells G hn
  have HKP := Aside0.mk hkp
  have HS := Aside0.mk hs
  have HR := Aside0.mk hr
  have HC := Aside0.mk hc
  clear hr hs hc hkp
  have HB0 := Aside0.mk (Below.refl w.heap.size w)
  have eg := enters_of Try.func46 (by kernel_rfl) rfl
  go_enter Try.func31, Try.ntmps31
  go_wp2
  go_loopg [3, 10] 4 (fun gg v3 v10 wr => ∃ a L : Nat, v3 = .int .i64 a ∧ v10 = .int .i64 L ∧ L ≤ 4 ∧ 4 - L ≤ gg ∧ a ≤ G.length ∧ Aside0 ((List.range L).foldl (stepS G) G.length = a) ∧ Aside0 (Var wr w.heap.size (.slice A G.length c) 23) ∧ Aside0 (Below w.heap.size w wr))
  case atStart => exact ⟨G.length, 0, rfl, rfl, by omega, by omega, Nat.le_refl _, ⟨rfl⟩, ⟨⟨heap_alloc_last w _⟩⟩, ⟨below_alloc HB0.out _⟩⟩
  case round =>
    obtain ⟨a, L, rfl, rfl, hL, hgL, ha, HA, HV, HB⟩ := hrel
    by_cases hlt : L < 4
    · have hltz : (L : Int) < 4 := by omega
      have HN := Aside0.mk (fold_range_succ (stepS G) G.length L)
      have v1 := HV.out.cell
      have l1 := HV.out.lt
      have HV1 := Aside0.mk (HV.out.alloc (.cells #[.int .i64 (L : Int)] 3))
      have HB1 := Aside0.mk (below_alloc HB.out (.cells #[.int .i64 (L : Int)] 3))
      have HL1 := Aside0.mk (show Var (wr.alloc (.cells #[.int .i64 (L : Int)] 3)) wr.heap.size (.int .i64 (L : Int)) 3 from ⟨heap_alloc_last wr _⟩)
      clear HV HB
      go_wp2_with (go_at_call 45; go_must (refine (ways_calls A c G (L : Int) _ (Kd.C_below HR.out HB1.out) HC.out HS.out).mono ?_; rintro e w6 ⟨mb, R, rfl, hm, hb⟩; (have HM6 := Aside0.mk hm); (have HV6 := Aside0.mk (HV1.out.below hb)); (have HL6 := Aside0.mk (HL1.out.below hb)); (have HB6 := Aside0.mk (below_then HB1.out HB1.out.size hb)); clear hm hb))
      have HMX := Aside0.mk (HM6.out.alloc (.cells #[.slice (some ⟨mb, 0, none⟩) G.length G.length] 58))
      have HVX := Aside0.mk (HV6.out.alloc (.cells #[.slice (some ⟨mb, 0, none⟩) G.length G.length] 58))
      have HLX := Aside0.mk (HL6.out.alloc (.cells #[.slice (some ⟨mb, 0, none⟩) G.length G.length] 58))
      have HTX := Aside0.mk (show Var (w6.alloc (.cells #[.slice (some ⟨mb, 0, none⟩) G.length G.length] 58)) w6.heap.size (.slice (some ⟨mb, 0, none⟩) G.length G.length) 58 from ⟨heap_alloc_last w6 _⟩)
      have HBX := Aside0.mk (below_alloc HB6.out (.cells #[.slice (some ⟨mb, 0, none⟩) G.length G.length] 58))
      clear HM6 HV6 HL6 HB6 HV1 HB1 HL1
      generalize w6.alloc (.cells #[.slice (some ⟨mb, 0, none⟩) G.length G.length] 58) = wl at HMX HVX HLX HTX HBX ⊢
      generalize w6.heap.size = tb at HTX ⊢
      have HBL := Aside0.mk (Below.refl wl.heap.size wl)
      obtain ⟨wo, rfl⟩ : ∃ wo : World, wo = wr := ⟨_, rfl⟩
      go_loopg [3, 17] a (fun g2 v3 v17 wr => v3 = .int .i64 a ∧ ∃ i : Nat, v17 = .int .i64 i ∧ i ≤ a ∧ a - i ≤ g2 ∧ Aside0 (∀ j, j < i → stuckAt G L j = false) ∧ Aside0 (Below wl.heap.size wl wr))
      case atStart => exact ⟨rfl, 0, rfl, Nat.zero_le _, by omega, ⟨fun j hj => absurd hj (Nat.not_lt_zero _)⟩, HBL⟩
      case round =>
        clear HBL
        obtain ⟨rfl, i, rfl, hi, hg2, HNO, HB⟩ := hrel
        by_cases hlt2 : i < a
        · have hltz2 : (i : Int) < (a : Int) := by omega
          have HVY := Aside0.mk ((HVX.out.below HB.out).alloc (.cells #[.int .i64 (i : Int)] 3))
          have HLY := Aside0.mk ((HLX.out.below HB.out).alloc (.cells #[.int .i64 (i : Int)] 3))
          have HTY := Aside0.mk ((HTX.out.below HB.out).alloc (.cells #[.int .i64 (i : Int)] 3))
          have HMY := Aside0.mk ((HMX.out.below HB.out).alloc (.cells #[.int .i64 (i : Int)] 3))
          have HIY := Aside0.mk (show Var (wr.alloc (.cells #[.int .i64 (i : Int)] 3)) wr.heap.size (.int .i64 (i : Int)) 3 from ⟨heap_alloc_last wr _⟩)
          have HBY := Aside0.mk (below_alloc HB.out (.cells #[.int .i64 (i : Int)] 3))
          have HBW := Aside0.mk (below_then HBX.out HBX.out.size HBY.out)
          have v1 := (HVX.out.below HB.out).cell
          have l1 := (HVX.out.below HB.out).lt
          clear HB
          cases hst : stuckAt G L i with
          | true =>
            have HF := Aside0.mk (show (List.range (L + 1)).foldl (stepS G) G.length = i by rw [HN.out, HA.out, stepS_found hlt2 hst HNO.out])
            have HST2 := Aside0.mk (show (placesL G.length).any (backB G (L : Int) (waysM G (L : Int)) i) = true from hst)
            clear hst
            go_wp2_with (first | (go_at_call 47; go_must (refine (check_places.calls kp A c G (placesL G.length) _ (Kd.C_below HR.out HBW.out) HC.out HKP.out).mono ?_; rintro e w8 ⟨v0, rfl, ho, hb⟩; (obtain ⟨A7, c7, rfl, hl7, hC7⟩ := Kd.R_reads ho); (have HC7 := Aside0.mk hC7); (have HV8 := Aside0.mk (HVY.out.below hb)); (have HL8 := Aside0.mk (HLY.out.below hb)); (have HT8 := Aside0.mk (HTY.out.below hb)); (have HM8 := Aside0.mk (HMY.out.below hb)); (have HI8 := Aside0.mk (HIY.out.below hb)); (have HB8 := Aside0.mk (below_then HBY.out HBY.out.size hb)); (have HW8 := Aside0.mk (below_then HBX.out HBX.out.size HB8.out)); (have HA8 := Aside0.mk (Asks.back HR.out HW8.out HV8.out HL8.out HT8.out HI8.out HM8.out hn (show i < G.length by omega))); clear ho hb hl7 hC7)) | (go_at_call 42; go_must (refine (contains_calls A7 c7 (placesL G.length) 46 _ (backB G (L : Int) (waysM G (L : Int)) i) eg _ HC7.out HA8.out).mono ?_; rintro e w9 ⟨rfl, q, hw⟩; (have HB9 := Aside0.mk (below_at2 hw HB8.out)); (have vi9 := (var_at hw (HI8.out.drewN q)).cell); (rw [HST2.out]); clear hw)))
            go_roundg (4 - (L + 1))
            case measure => omega
            case rel => exact ⟨i, L + 1, rfl, by go_num, by omega, by omega, by omega, HF, ⟨HVX.out.below HB9.out⟩, ⟨below_then HBX.out HBX.out.size HB9.out⟩⟩
          | false =>
            have HST2 := Aside0.mk (show (placesL G.length).any (backB G (L : Int) (waysM G (L : Int)) i) = false from hst)
            have HF := Aside0.mk (scan_step HNO.out hst)
            clear hst
            go_wp2_with (first | (go_at_call 47; go_must (refine (check_places.calls kp A c G (placesL G.length) _ (Kd.C_below HR.out HBW.out) HC.out HKP.out).mono ?_; rintro e w8 ⟨v0, rfl, ho, hb⟩; (obtain ⟨A7, c7, rfl, hl7, hC7⟩ := Kd.R_reads ho); (have HC7 := Aside0.mk hC7); (have HV8 := Aside0.mk (HVY.out.below hb)); (have HL8 := Aside0.mk (HLY.out.below hb)); (have HT8 := Aside0.mk (HTY.out.below hb)); (have HM8 := Aside0.mk (HMY.out.below hb)); (have HI8 := Aside0.mk (HIY.out.below hb)); (have HB8 := Aside0.mk (below_then HBY.out HBY.out.size hb)); (have HW8 := Aside0.mk (below_then HBX.out HBX.out.size HB8.out)); (have HA8 := Aside0.mk (Asks.back HR.out HW8.out HV8.out HL8.out HT8.out HI8.out HM8.out hn (show i < G.length by omega))); clear ho hb hl7 hC7)) | (go_at_call 42; go_must (refine (contains_calls A7 c7 (placesL G.length) 46 _ (backB G (L : Int) (waysM G (L : Int)) i) eg _ HC7.out HA8.out).mono ?_; rintro e w9 ⟨rfl, q, hw⟩; (have HB9 := Aside0.mk (below_at2 hw HB8.out)); (have vi9 := (var_at hw (HI8.out.drewN q)).cell); (rw [HST2.out]); clear hw)))
            go_roundg (a - (i + 1))
            case measure => omega
            case rel => exact ⟨rfl, i + 1, by go_num, by omega, by omega, HF, HB9⟩
        · have hltz2 : ¬ (i : Int) < (a : Int) := by omega
          have hia : i = a := by omega
          have HIA := Aside0.mk hia
          have HF := Aside0.mk (show (List.range (L + 1)).foldl (stepS G) G.length = a by rw [HN.out, HA.out, stepS_none (fun j hj => HNO.out j (by omega))])
          clear hia
          go_wp2
          go_roundg (4 - (L + 1))
          case measure => omega
          case rel => exact ⟨a, L + 1, rfl, by go_num, by omega, by omega, ha, HF, ⟨HVX.out.below HB.out⟩, ⟨below_then HBX.out HBX.out.size HB.out⟩⟩
    · have hltz : ¬ (L : Int) < 4 := by omega
      obtain rfl : L = 4 := by omega
      have HF := Aside0.mk (show stuckN G = a from HA.out)
      clear HA
      go_wp2
      go_ret
      exact ⟨by rw [HF.out]; rfl, HB.out⟩
end Go.Proofs.Ytnjlonenckifpaa.X
