/- A part of the proof. -/
import Derived.Test.YtnjlonenckifpaaCN4
namespace Go.Proofs.Ytnjlonenckifpaa.X
set_option linter.unusedVariables false
set_option linter.unusedSimpArgs false
open Go.RowKit Go.Proofs.YtnjlonenckifpaaW.PrintWords Go.Proofs.YtnjlonenckifpaaW.PrintLast Go.Proofs.YtnjlonenckifpaaW.PrintMore
structure Least (G : List S39) (m a : Nat) : Prop where
  le : a ≤ G.length
  none : ∀ j, j < a → ∀ least, least < m → stuckAt G least j = false
  some : a < G.length → ∃ least, least < m ∧ stuckAt G least a = true
theorem stuckN_spec (G : List S39) : ∀ m, Least G m ((List.range m).foldl (stepS G) G.length)
  | 0 => ⟨Nat.le_refl _, fun j _ l hl => absurd hl (Nat.not_lt_zero _), fun h => absurd h (Nat.lt_irrefl _)⟩
  | m + 1 => by
    have ih := stuckN_spec G m
    rw [fold_range_succ]
    generalize (List.range m).foldl (stepS G) G.length = a at ih ⊢
    by_cases h : ∃ i, i < a ∧ stuckAt G m i = true ∧ ∀ j, j < i → stuckAt G m j = false
    · obtain ⟨i, h1, h2, h3⟩ := h
      rw [stepS_found h1 h2 h3]
      have := ih.le
      refine ⟨by omega, fun j hj l hl => ?_, fun _ => ⟨m, by omega, h2⟩⟩
      by_cases e : l = m
      · subst e; exact h3 j hj
      · exact ih.none j (by omega) l (by omega)
    · have hn : ∀ j, j < a → stuckAt G m j = false := by
        intro j
        induction j using Nat.strongRecOn with
        | ind j ihj =>
          intro hj
          cases e : stuckAt G m j with
          | false => rfl
          | true => exact absurd ⟨j, hj, e, fun q hq => ihj q hq (by omega)⟩ h
      rw [stepS_none hn]
      refine ⟨ih.le, fun j hj l hl => ?_, fun h => ?_⟩
      · by_cases e : l = m
        · subst e; exact hn j hj
        · exact ih.none j hj l (by omega)
      · obtain ⟨l, h1, h2⟩ := ih.some h
        exact ⟨l, by omega, h2⟩
theorem stuck_least (G : List S39) : Least G 4 (stuckN G) := stuckN_spec G 4
def endI (G : List S39) : Int × Int := if stuckN G < G.length then ((stuckN G : Int), 102) else ((G.length : Int), 0)
def fromI (G : List S39) : Nat → Nat → Int × Int
  | 0, _ => endI G
  | d + 1, i => if nodeI G (i : Int) = 0 then fromI G d (i + 1) else ((i : Int), nodeI G (i : Int))
def checkI (G : List S39) : Int × Int := if putE G = 0 then fromI G G.length 0 else (0, putE G)
theorem put_depths {G : List S39} (h : putE G = 0) (i : Nat) (hi : i < G.length) : 0 ≤ depthAt G i ∧ depthAt G i ≤ 3 := by
  unfold putE at h
  split at h
  · exact absurd h (by decide)
  · split at h
    · rename_i h'
      rw [List.all_eq_true] at h'
      have := h' G[i] (List.getElem_mem hi)
      rw [mayAt_eq] at this
      simp only [Bool.and_eq_true, decide_eq_true_eq] at this
      unfold depthAt rd_T39
      simp [hi]
      exact ⟨this.1.1.1, this.1.1.2⟩
    · exact absurd h (by decide)
theorem check_l0 (G : List S39) (hs : small G = true) : ∀ (d i : Nat), i + d = G.length → Ev (fun k => check_Check.l0 k G (G.length : Int) (i : Int)) (fromI G d i)
  | 0, i, hi => by
    refine Ev.step (f := fun _ => some (endI G)) (fun k => ?_) (Ev.now _)
    rw [check_Check.l0, if_neg (by omega), check_stuck.f, if_pos hs]
    simp only [Option.bind_some]
    unfold endI
    by_cases h : stuckN G < G.length
    · rw [if_pos (by omega), if_pos h]
    · rw [if_neg (by omega), if_neg h]
  | d + 1, i, hi => by
    have hGl := small_len hs
    rw [fromI]
    by_cases h : nodeI G (i : Int) = 0
    · rw [if_pos h]
      refine Ev.step (fun k => ?_) (Ev.bind (f := fun k t => if t = 0 then check_Check.l0 k G (G.length : Int) ((i + 1 : Nat) : Int) else some ((i : Int), t)) (node_ev G (i : Int)) ?_)
      · rw [check_Check.l0, if_pos (by omega), wrap_small (by omega) (by omega)]
        rfl
      · simp only [if_pos h]
        exact check_l0 G hs d (i + 1) (by omega)
    · rw [if_neg h]
      refine Ev.step (fun k => ?_) (Ev.bind (f := fun k t => if t = 0 then check_Check.l0 k G (G.length : Int) ((i + 1 : Nat) : Int) else some ((i : Int), t)) (node_ev G (i : Int)) ?_)
      · rw [check_Check.l0, if_pos (by omega), wrap_small (by omega) (by omega)]
        rfl
      · simp only [if_neg h]
        exact Ev.now _
theorem EvE.bind {β : Type} {g : Nat → Option (List Int × Int)} {e : Int} {f : Nat → List Int × Int → Option β} {r : β} (h : EvE g e) (k : ∀ b, Ev (fun n => f n (b, e)) r) : Ev (fun n => (g n).bind (f n)) r := let ⟨b, hb⟩ := h; Ev.bind hb (k b)
theorem check_ev (G : List S39) (hs : small G = true) : Ev (fun k => check_Check.f k G) (checkI G) := by
  refine EvE.bind (f := fun k bt => if bt.2 = 0 then check_Check.l0 k G (G.length : Int) 0 else some (0, bt.2)) (put_ev G hs) fun b => ?_
  unfold checkI
  by_cases h : putE G = 0
  · simp only [if_pos h]
    exact check_l0 G hs _ 0 (Nat.zero_add _)
  · simp only [if_neg h]
    exact Ev.now _
theorem rcheck_l2 (G : List S39) (hs : small G = true) (hp : putE G = 0) (i : Nat) (hi : i < G.length) (hle : i ≤ stuckN G) (next : i < stuckN G → Ev (fun k => tailraceref10_Check.l1 k G ((i + 1 : Nat) : Int)) (endI G)) :
    ∀ (d least : Nat), (least + d : Int) = depthAt G i + 1 → (∀ l : Nat, l < least → ¬ Bad G (l : Int) i) → Ev (fun k => tailraceref10_Check.l2 k G (i : Int) (least : Int)) (endI G)
  | 0, least, hd, hb => by
    have hGl := small_len hs
    have hL := stuck_least G
    have hd' : depthAt G i = (rd_T39 G (i : Int)).f3 := rfl
    refine Ev.step (fun k => ?_) (next ?_)
    · rw [tailraceref10_Check.l2, if_pos (by omega), if_pos (by omega), if_neg (by omega), wrap_small (by omega) (by omega)]
      rfl
    · rcases Nat.lt_or_ge i (stuckN G) with h | h
      · exact h
      · have e : stuckN G = i := by omega
        obtain ⟨l, h1, h2⟩ := hL.some (by omega)
        rw [e] at h2
        have h3 := (stuckAt_iff G l i hi).1 h2
        have := stays_depth (bad_stays h3)
        exact absurd h3 (hb l (by omega))
  | d + 1, least, hd, hb => by
    have hGl := small_len hs
    have hL := stuck_least G
    have hdp := put_depths hp i hi
    have hd' : depthAt G i = (rd_T39 G (i : Int)).f3 := rfl
    obtain ⟨r, h1, h2⟩ := ref_stuck G (least : Int) i hi hs
    refine Ev.step (fun k => ?_) (Ev.bind (f := fun k t => if t = true then some ((i : Int), (102 : Int)) else tailraceref10_Check.l2 k G (i : Int) ((least + 1 : Nat) : Int)) h1 ?_)
    · rw [tailraceref10_Check.l2, if_pos (by omega), if_pos (by omega), if_pos (by omega), wrap_small (by omega) (by omega)]
      rfl
    · by_cases hr : r = true
      · simp only [if_pos hr]
        have e : stuckN G = i := by
          rcases Nat.lt_or_ge i (stuckN G) with h | h
          · have := hL.none i h least (by omega)
            rw [(stuckAt_iff G least i hi).2 (h2.1 hr)] at this
            exact absurd this (by simp)
          · omega
        unfold endI
        rw [e, if_pos hi]
        exact Ev.now _
      · simp only [if_neg hr]
        refine rcheck_l2 G hs hp i hi hle next d (least + 1) (by omega) fun l hl => ?_
        by_cases e : l = least
        · subst e; exact fun h => hr (h2.2 h)
        · exact hb l (by omega)
theorem rcheck_l1 (G : List S39) (hs : small G = true) (hp : putE G = 0) : ∀ (d i : Nat), i + d = G.length → i ≤ stuckN G → Ev (fun k => tailraceref10_Check.l1 k G (i : Int)) (endI G)
  | 0, i, hi, hle => by
    have := (stuck_least G).le
    refine Ev.step (f := fun _ => some (endI G)) (fun k => ?_) (Ev.now _)
    rw [tailraceref10_Check.l1, if_neg (by omega)]
    unfold endI
    rw [if_neg (by omega)]
  | d + 1, i, hi, hle => by
    have hdp := put_depths hp i (by omega)
    refine Ev.step (f := fun k => tailraceref10_Check.l2 k G (i : Int) ((0 : Nat) : Int)) (fun k => ?_) (rcheck_l2 G hs hp i (by omega) hle (fun h => rcheck_l1 G hs hp d (i + 1) (by omega) (by omega)) (depthAt G i + 1).toNat 0 (by omega) fun l hl => absurd hl (Nat.not_lt_zero _))
    rw [tailraceref10_Check.l1, if_pos (by omega)]
    rfl
theorem rcheck_l0 (G : List S39) (hs : small G = true) (hp : putE G = 0) : ∀ (d i : Nat), i + d = G.length → Ev (fun k => tailraceref10_Check.l0 k G (i : Int)) (fromI G d i)
  | 0, i, hi => by
    refine Ev.step (f := fun k => tailraceref10_Check.l1 k G ((0 : Nat) : Int)) (fun k => ?_) (rcheck_l1 G hs hp G.length 0 (Nat.zero_add _) (Nat.zero_le _))
    rw [tailraceref10_Check.l0, if_neg (by omega)]
    rfl
  | d + 1, i, hi => by
    have hGl := small_len hs
    rw [fromI]
    by_cases h : nodeI G (i : Int) = 0
    · rw [if_pos h]
      refine Ev.step (fun k => ?_) (Ev.bind (f := fun k t => if t = 0 then tailraceref10_Check.l0 k G ((i + 1 : Nat) : Int) else some ((i : Int), t)) (ref_node_ev G hs (i : Int)) ?_)
      · rw [tailraceref10_Check.l0, if_pos (by omega), wrap_small (by omega) (by omega)]
        rfl
      · simp only [if_pos h]
        exact rcheck_l0 G hs hp d (i + 1) (by omega)
    · rw [if_neg h]
      refine Ev.step (fun k => ?_) (Ev.bind (f := fun k t => if t = 0 then tailraceref10_Check.l0 k G ((i + 1 : Nat) : Int) else some ((i : Int), t)) (ref_node_ev G hs (i : Int)) ?_)
      · rw [tailraceref10_Check.l0, if_pos (by omega), wrap_small (by omega) (by omega)]
        rfl
      · simp only [if_neg h]
        exact Ev.now _
theorem rcheck_ev (G : List S39) (hs : small G = true) : Ev (fun k => tailraceref10_Check.f k G) (checkI G) := by
  refine EvE.bind (f := fun k bt => if bt.2 = 0 then tailraceref10_Check.l0 k G 0 else some (0, bt.2)) (rput_ev G hs) fun b => ?_
  unfold checkI
  by_cases h : putE G = 0
  · simp only [if_pos h]
    exact rcheck_l0 G hs h _ 0 (Nat.zero_add _)
  · simp only [if_neg h]
    exact Ev.now _
end Go.Proofs.Ytnjlonenckifpaa.X
namespace Go.Proofs.Ytnjlonenckifpaa.X
set_option linter.unusedVariables false
set_option linter.unusedSimpArgs false
open Go.RowKit Go.Proofs.YtnjlonenckifpaaW.PrintWords Go.Proofs.YtnjlonenckifpaaW.PrintLast Go.Proofs.YtnjlonenckifpaaW.PrintMore
structure Sane (G : List S39) : Prop where
  put : putE G = 0
  node : ∀ i, i < G.length → nodeI G (i : Int) = 0
  stuck : stuckN G = G.length
theorem fromI_sane {G : List S39} : ∀ (d i : Nat), i + d = G.length → (fromI G d i).2 = 0 → (∀ j, i ≤ j → j < G.length → nodeI G (j : Int) = 0) ∧ stuckN G = G.length
  | 0, i, hi, h => by
    refine ⟨fun j h1 h2 => by omega, ?_⟩
    unfold fromI endI at h
    split at h
    · exact absurd h (by simp)
    · have := (stuck_least G).le; omega
  | d + 1, i, hi, h => by
    rw [fromI] at h
    split at h
    · rename_i hz
      obtain ⟨h1, h2⟩ := fromI_sane d (i + 1) (by omega) h
      refine ⟨fun j a b => ?_, h2⟩
      by_cases e : j = i
      · subst e; exact hz
      · exact h1 j (by omega) b
    · rename_i hz; exact absurd h hz
theorem check_sane {G : List S39} (h : (checkI G).2 = 0) : Sane G := by
  unfold checkI at h
  split at h
  · rename_i hp
    obtain ⟨h1, h2⟩ := fromI_sane _ 0 (Nat.zero_add _) h
    exact ⟨hp, fun i hi => h1 i (Nat.zero_le _) hi, h2⟩
  · rename_i hp; exact absurd h hp
theorem Sane.ports {G : List S39} (h : Sane G) (i : Nat) (hi : i < G.length) : portsB G (rd_T39 G (i : Int)).f0 (rd_T39 G (i : Int)).f4 = true := by
  have := h.node i hi
  unfold nodeI at this
  repeat' split at this
  all_goals first | exact absurd this (by decide) | skip
  rename_i h1 h2 h3 h4
  simpa using h3
theorem Sane.ins {G : List S39} (h : Sane G) (hs : small G = true) : insOk G = true := by
  unfold insOk
  have hGl := small_len hs
  rw [Bool.and_eq_true, List.all_eq_true]
  refine ⟨by simpa using hGl, fun n hn => ?_⟩
  obtain ⟨i, hi, e⟩ := List.getElem_of_mem hn
  have := ports_in (h.ports i hi)
  have e2 : rd_T39 G (i : Int) = n := by simp [rd_T39, hi, e]
  rwa [e2] at this
theorem pigeon : ∀ (n : Nat) (g : Nat → Nat), (∀ k, k ≤ n → g k < n) → ∃ a b, a < b ∧ b ≤ n ∧ g a = g b
  | 0, g, h => absurd (h 0 (Nat.le_refl _)) (Nat.not_lt_zero _)
  | n + 1, g, h => by
    by_cases hx : ∃ k, k ≤ n ∧ g k = g (n + 1)
    · obtain ⟨k, h1, h2⟩ := hx
      exact ⟨k, n + 1, by omega, Nat.le_refl _, h2⟩
    · have hx' : ∀ k, k ≤ n → g k ≠ g (n + 1) := fun k hk e => hx ⟨k, hk, e⟩
      obtain ⟨a, b, h1, h2, h3⟩ := pigeon n (fun k => if g (n + 1) < g k then g k - 1 else g k) fun k hk => by
        have := h k (by omega)
        have := h (n + 1) (Nat.le_refl _)
        have := hx' k hk
        show (if g (n + 1) < g k then g k - 1 else g k) < n
        split <;> omega
      have ha := hx' a (by omega)
      have hb := hx' b h2
      refine ⟨a, b, h1, by omega, ?_⟩
      split at h3 <;> split at h3 <;> omega
def iter (f : Nat → Nat) : Nat → Nat → Nat
  | 0, x => x
  | k + 1, x => f (iter f k x)
theorem iter_add (f : Nat → Nat) (x : Nat) (p : Nat) : ∀ m, iter f (m + p) x = iter f m (iter f p x)
  | 0 => by rw [Nat.zero_add]; rfl
  | m + 1 => by rw [show m + 1 + p = (m + p) + 1 by omega]; exact congrArg f (iter_add f x p m)
theorem least_of (g : Nat → Nat) : ∀ (b m : Nat), g m ≤ b → ∃ m, ∀ k, g m ≤ g k
  | 0, m, h => ⟨m, fun k => by omega⟩
  | b + 1, m, h => by
    by_cases hx : ∃ k, g k < g m
    · obtain ⟨k, hk⟩ := hx
      exact least_of g b k (by omega)
    · exact ⟨m, fun k => by
        rcases Nat.lt_or_ge (g k) (g m) with h | h
        · exact absurd ⟨k, h⟩ hx
        · exact h⟩
theorem waits {G : List S39} (hp : putE G = 0) (S : Nat → Prop) (i0 : Nat) (h0 : S i0) (hS : ∀ i, S i → i < G.length ∧ (rd_T39 G (i : Int)).f0 ≠ 9 ∧ ∃ x, S x ∧ feeds G x i) :
    ∃ (j : Nat) (least : Nat), j < G.length ∧ least < 4 ∧ Bad G (least : Int) j := by
  classical
  let f : Nat → Nat := fun i => if h : ∃ x, S x ∧ feeds G x i then Classical.choose h else 0
  have hf : ∀ i, S i → S (f i) ∧ feeds G (f i) i := fun i hi => by
    have h := (hS i hi).2.2
    simp only [f, dif_pos h]
    exact Classical.choose_spec h
  have hit : ∀ k x, S x → S (iter f k x) := fun k => by
    induction k with
    | zero => exact fun x hx => hx
    | succ k ih => exact fun x hx => (hf _ (ih x hx)).1
  obtain ⟨a, b, hab, _, hg⟩ := pigeon G.length (fun k => iter f k i0) fun k _ => (hS _ (hit k i0 h0)).1
  have hc : iter f (b - a) (iter f a i0) = iter f a i0 := by
    rw [← iter_add, show b - a + a = b by omega]
    exact hg.symm
  have hx := hit a i0 h0
  generalize iter f a i0 = x at hc hx
  obtain ⟨m, hm⟩ := least_of (fun k => (depthAt G (iter f k x)).toNat) _ 0 (Nat.le_refl _)
  have hd : ∀ k, 0 ≤ depthAt G (iter f k x) ∧ depthAt G (iter f k x) ≤ 3 := fun k => put_depths hp _ (hS _ (hit k x hx)).1
  have hst : ∀ k, staysAt G (depthAt G (iter f m x)) (iter f k x) = true := fun k => by
    have h1 := hm k
    have h2 := hd k
    have h3 := hd m
    have h4 := (hS _ (hit k x hx)).2.1
    have e : depthAt G (iter f k x) = (rd_T39 G ((iter f k x : Nat) : Int)).f3 := rfl
    unfold staysAt staysB
    simp only [Bool.or_eq_true, decide_eq_true_eq, Bool.and_eq_true, beq_iff_eq, bne_iff_ne]
    rw [← e]
    by_cases e' : depthAt G (iter f m x) < depthAt G (iter f k x)
    · exact .inl e'
    · exact .inr ⟨by omega, h4⟩
  have hstep : ∀ k, StepG G (depthAt G (iter f m x)) (iter f (k + 1) x) (iter f k x) := fun k =>
    (stepG_iff G _ _ _).2 ⟨(hS _ (hit (k + 1) x hx)).1, (hS _ (hit k x hx)).1, (hf _ (hit k x hx)).2, hst (k + 1), hst k⟩
  have hway : ∀ d, Way (StepG G (depthAt G (iter f m x))) (iter f (m + d + 1) x) (iter f m x) := fun d => by
    induction d with
    | zero => exact .one (hstep m)
    | succ d ih => exact .cons (hstep (m + d + 1)) ih
  have hcyc : iter f (m + (b - a - 1) + 1) x = iter f m x := by
    rw [show m + (b - a - 1) + 1 = m + (b - a) by omega, iter_add, hc]
  have hw := hway (b - a - 1)
  rw [hcyc] at hw
  have h3 := hd m
  refine ⟨iter f m x, (depthAt G (iter f m x)).toNat, (hS _ (hit m x hx)).1, by omega, ?_⟩
  rw [Int.toNat_of_nonneg h3.1]
  exact ⟨iter f m x, (hS _ (hit m x hx)).1, rfl, hw, hw⟩
theorem Sane.more {G : List S39} (h : Sane G) (th : List Bool) (i0 : Nat) (hi : i0 < G.length) (h0 : th.getD i0 false = false) : ∃ i, i < G.length ∧ okAt G th i = true := by
  by_cases hx : ∃ i, i < G.length ∧ okAt G th i = true
  · exact hx
  · have hx' : ∀ i, i < G.length → okAt G th i = false := fun i hi => by
      cases e : okAt G th i with
      | false => rfl
      | true => exact absurd ⟨i, hi, e⟩ hx
    obtain ⟨j, least, h1, h2, h3⟩ := waits h.put (fun i => i < G.length ∧ th.getD i false = false) i0 ⟨hi, h0⟩ fun i hi => by
      have h1 := hx' i hi.1
      have hin := ports_in (h.ports i hi.1)
      unfold okAt at h1
      rw [hi.2] at h1
      simp only [Bool.not_false, Bool.true_and, Bool.or_eq_false_iff, beq_eq_false_iff_ne, Bool.not_eq_false', List.any_eq_true] at h1
      obtain ⟨h2, x, h3, h4⟩ := h1
      rw [List.all_eq_true] at hin
      have h5 := hin x h3
      simp only [inRange, Bool.and_eq_true, decide_eq_true_eq] at h5
      refine ⟨hi.1, h2, x.toNat, ⟨by omega, by simpa [gone] using h4⟩, ?_⟩
      unfold feeds
      rw [Int.toNat_of_nonneg h5.1]
      exact h3
    have := (stuck_least G).none j (by rw [h.stuck]; exact h1) least h2
    rw [(stuckAt_iff G least j h1).2 h3] at this
    exact absurd this (by simp)
def allTh (th : List Bool) (l : List Int) : Bool := l.all fun x => th.getD x.toNat false
theorem any_gone (th : List Bool) : ∀ l : List Int, (!l.any (gone th)) = allTh th l
  | [] => rfl
  | x :: l => by
    have := any_gone th l
    unfold allTh at this ⊢
    rw [List.any_cons, List.all_cons, Bool.not_or, this]
    simp [gone]
theorem ord_l2 (G : List S39) (hs : small G = true) (out : List Int) (th : List Bool) (next : Int) (i : Nat) (hi : i < G.length) (hth : th.length = G.length) (hin : ((rd_T39 G (i : Int)).f4).all (inRange G) = true) (R : List Int × Int) (may : Bool) : ∀ (d q : Nat), q + d = (rd_T39 G (i : Int)).f4.length →
    Ev (fun k => if (may && ((rd_T39 G (i : Int)).f0 == 9 || allTh th ((rd_T39 G (i : Int)).f4.drop q))) = true then tailraceref10_Order.l1 k G out th (i : Int) (wrap64 ((i : Int) + 1)) else tailraceref10_Order.l1 k G out th next (wrap64 ((i : Int) + 1))) R →
      Ev (fun k => tailraceref10_Order.l2 k G out th next (i : Int) may (q : Int)) R
  | d, q, hq, h => by
    induction d generalizing q may with
    | zero =>
      rw [List.drop_eq_nil_of_le (by omega)] at h
      have e : (may && ((rd_T39 G (i : Int)).f0 == 9 || allTh th [])) = may := by simp [allTh]
      rw [e] at h
      exact Ev.step (fun k => by rw [tailraceref10_Order.l2, if_pos (by omega), if_pos (by omega), if_neg (by omega)]) h
    | succ d ih =>
      have hl := small_in hs (i : Int)
      have hlt : q < (rd_T39 G (i : Int)).f4.length := by omega
      have hx := all_drop hin hlt
      simp only [inRange, Bool.and_eq_true, decide_eq_true_eq] at hx
      rw [drop_cons _ q hlt] at h
      cases may with
      | false =>
        refine Ev.step (fun k => ?_) (ih false (q + 1) (by omega) h)
        rw [tailraceref10_Order.l2, if_pos (by omega), if_pos (by omega), if_pos (by omega), if_neg (by simp), wrap_small (by omega) (by omega)]
        rfl
      | true =>
        by_cases h9 : (rd_T39 G (i : Int)).f0 = 9
        · refine Ev.step (fun k => ?_) (ih true (q + 1) (by omega) (by simpa [h9] using h))
          rw [tailraceref10_Order.l2, if_pos (by omega), if_pos (by omega), if_pos (by omega), if_pos rfl, if_pos h9, wrap_small (by omega) (by omega)]
          rfl
        · refine Ev.step (fun k => ?_) (ih (th.getD ((rd_T39 G (i : Int)).f4.getD q 0).toNat false) (q + 1) (by omega) ?_)
          · rw [tailraceref10_Order.l2, if_pos (by omega), if_pos (by omega), if_pos (by omega), if_pos rfl, if_neg h9, rd_nat, if_pos (by omega), if_pos (by omega), if_pos (by omega), wrap_small (by omega) (by omega)]
            rfl
          · have e : (th.getD ((rd_T39 G (i : Int)).f4.getD q 0).toNat false && ((rd_T39 G (i : Int)).f0 == 9 || allTh th ((rd_T39 G (i : Int)).f4.drop (q + 1)))) = (true && ((rd_T39 G (i : Int)).f0 == 9 || allTh th ((rd_T39 G (i : Int)).f4.getD q 0 :: (rd_T39 G (i : Int)).f4.drop (q + 1)))) := by
              rw [beq_eq_false_iff_ne.2 h9]
              simp [allTh]
            rw [e]
            exact h
theorem ord_l1_none (G : List S39) (hs : small G = true) (h : Sane G) (out : List Int) (th : List Bool) (hth : th.length = G.length) (hout : out.length ≤ 1000) (K : Nat) (hK : K < G.length) (hF : okAt G th K = true) (R : List Int × Int)
    (hR : Ev (fun k => tailraceref10_Order.l0 k G (out ++ [(K : Int)]) (th.set K true)) R) : ∀ (d i : Nat), i + d = K → (∀ j, i ≤ j → j < K → okAt G th j = false) → Ev (fun k => tailraceref10_Order.l1 k G out th (-1) (i : Int)) R
  | d, i, hi, hb => by
    have hGl := small_len hs
    have hin := ports_in (h.ports i (by omega))
    refine Ev.step (f := fun k => tailraceref10_Order.j2 k G out th (-1) (i : Int) true) (fun k => by rw [tailraceref10_Order.l1, if_pos (by omega)]; rfl) ?_
    refine Ev.step (f := fun k => tailraceref10_Order.l2 k G out th (-1) (i : Int) (!th.getD i false) ((0 : Nat) : Int)) (fun k => by
      rw [tailraceref10_Order.j2, if_pos rfl, if_pos (by omega), if_pos (by omega), rdOf_nat]; rfl) ?_
    refine ord_l2 G hs out th (-1) i (by omega) hth hin R _ _ 0 (Nat.zero_add _) ?_
    rw [List.drop_zero, ← any_gone]
    have e : (!th.getD i false && ((rd_T39 G (i : Int)).f0 == 9 || !(rd_T39 G (i : Int)).f4.any (gone th))) = okAt G th i := rfl
    rw [e, wrap_small (by omega) (by omega)]
    by_cases ei : i = K
    · subst ei
      simp only [hF, if_true]
      refine Ev.step (f := fun k => tailraceref10_Order.j2 k G out th (i : Int) ((i : Int) + 1) false) (fun k => ?_) (Ev.step (fun k => ?_) hR)
      · rw [tailraceref10_Order.l1]
        split
        · rw [decide_eq_false (by omega)]
        · rfl
      · rw [tailraceref10_Order.j2, if_neg (by simp), if_neg (by omega), if_pos (by omega), if_pos (by omega), if_pos (by omega)]
        rfl
    · have := hb i (Nat.le_refl _) (by omega)
      simp only [this, Bool.false_eq_true, if_false]
      obtain _ | d := d
      · omega
      exact ord_l1_none G hs h out th hth hout K hK hF R hR d (i + 1) (by omega) fun j h1 h2 => hb j (by omega) h2
theorem least_ok {p : Nat → Bool} : ∀ i, p i = true → ∃ k, k ≤ i ∧ p k = true ∧ ∀ j, j < k → p j = false := fun i => by
  induction i using Nat.strongRecOn with
  | ind i ih =>
    intro hi
    by_cases hx : ∃ j, j < i ∧ p j = true
    · obtain ⟨j, h1, h2⟩ := hx
      obtain ⟨k, a, b, c⟩ := ih j h1 h2
      exact ⟨k, by omega, b, c⟩
    · exact ⟨i, Nat.le_refl _, hi, fun j hj => by
        cases e : p j with
        | false => rfl
        | true => exact absurd ⟨j, hj, e⟩ hx⟩
theorem ord_l0 (G : List S39) (hs : small G = true) (h : Sane G) : ∀ (d f : Nat) (th : List Bool) (out : List Int), th.length = G.length → th.count false = d → out.length + d = G.length → d < f →
    Ev (fun k => tailraceref10_Order.l0 k G out th) (orderGo G f th out, 0) ∧ (orderGo G f th out).length = G.length
  | 0, f + 1, th, out, hth, hd, hout, _ => by
    have hn : ∀ j, j < G.length → okAt G th j = false := fun j hj => by
      have : th.getD j false = true := by
        cases e : th.getD j false with
        | true => rfl
        | false => have := count_set (by omega) e; omega
      unfold okAt
      rw [this]; rfl
    rw [orderGo_none f hn]
    exact ⟨Ev.step (f := fun _ => some (out, 0)) (fun k => by rw [tailraceref10_Order.l0, if_neg (by omega)]) (Ev.now _), by omega⟩
  | d + 1, f + 1, th, out, hth, hd, hout, hf => by
    have hGl := small_len hs
    have hm : ∃ i, i < G.length ∧ th.getD i false = false := by
      have : false ∈ th := List.count_pos_iff.1 (by omega)
      obtain ⟨i, h1, h2⟩ := List.getElem_of_mem this
      exact ⟨i, by omega, by rw [List.getD_eq_getElem?_getD, List.getElem?_eq_getElem h1, h2]; rfl⟩
    obtain ⟨i, hi, h0⟩ := hm
    obtain ⟨i', hi', ho⟩ := h.more th i hi h0
    obtain ⟨K, hK, hF, hb⟩ := least_ok i' ho
    have hk0 : th.getD K false = false := by
      unfold okAt at hF
      rw [Bool.and_eq_true] at hF
      simpa using hF.1
    have hc := count_set (by omega) hk0
    rw [orderGo_found f (by omega) hF hb]
    have ih := ord_l0 G hs h d f (th.set K true) (out ++ [(K : Int)]) (by rw [List.length_set]; exact hth) (by omega) (by rw [List.length_append, List.length_singleton]; omega) (by omega)
    refine ⟨Ev.step (f := fun k => tailraceref10_Order.l1 k G out th (-1) ((0 : Nat) : Int)) (fun k => by rw [tailraceref10_Order.l0, if_pos (by omega)]; rfl) ?_, ih.2⟩
    exact ord_l1_none G hs h out th hth (by omega) K (by omega) hF _ ih.1 K 0 (Nat.zero_add _) fun j _ h2 => hb j h2
def orderI (G : List S39) : List Int × Int := if (checkI G).2 = 0 then (orderL G, 0) else ([], (checkI G).2)
theorem order_ev (G : List S39) (hs : small G = true) : Ev (fun k => check_Order.f k G) (orderI G) := by
  refine Ev.bind (f := fun k bt => if bt.2 = 0 then (check_order.f G).bind fun t => some (t, 0) else some (([] : List Int), bt.2)) (check_ev G hs) ?_
  unfold orderI
  by_cases h : (checkI G).2 = 0
  · simp only [if_pos h, check_order.f, (check_sane h).ins hs, if_true, Option.bind_some]
    exact Ev.now _
  · simp only [if_neg h]
    exact Ev.now _
theorem Sane.order {G : List S39} (h : Sane G) (hs : small G = true) : Ev (fun k => tailraceref10_Order.l0 k G [] (List.replicate G.length false)) (orderL G, 0) ∧ (orderL G).length = G.length :=
  ord_l0 G hs h G.length (G.length + 1) _ [] List.length_replicate (by simp) (by simp) (Nat.lt_succ_self _)
end Go.Proofs.Ytnjlonenckifpaa.X
namespace Go.Proofs.Ytnjlonenckifpaa.X
open Go.RowKit Go.Proofs.YtnjlonenckifpaaW.PrintWords Go.Proofs.YtnjlonenckifpaaW.PrintLast Go.Proofs.YtnjlonenckifpaaW.PrintMore
set_option linter.unusedVariables false
set_option linter.unusedSimpArgs false
def works0.f (k : Nat)  : Option (Bool) := (tailracekit_Straight.f).bind fun t204 => ((check_Check.f k t204).bind fun bt207 => ((check_Check.f k (([(⟨10, 0, 0, 0, (([0] : List Int))⟩ : S39)] : List (S39)))).bind fun bt215 => ((check_Check.f k (([(⟨1, 0, 0, 0, ([] : List Int)⟩ : S39), (⟨7, 0, 0, 0, (([0] : List Int))⟩ : S39)] : List (S39)))).bind fun bt223 => ((check_Check.f k (([(⟨1, 0, 0, 0, ([] : List Int)⟩ : S39), (⟨4, 0, 0, 0, (([0, 2] : List Int))⟩ : S39), (⟨2, 0, 0, 0, (([1] : List Int))⟩ : S39)] : List (S39)))).bind fun bt234 => ((check_Check.f k (([(⟨2, 4, 0, 0, ([] : List Int)⟩ : S39)] : List (S39)))).bind fun bt239 => ((tailracekit_Race.f).bind fun t241 => ((check_Order.f k t241).bind fun bt244 => ((tailracelaw10_deeper.f).bind fun t248 => ((check_Check.f k t248).bind fun bt251 => (if bt251.1 = 1 then (if bt251.2 = 102 then (if bt207.1 = 2 then (if bt207.2 = 0 then (if bt215.1 = 0 then (if bt215.2 = 100 then (if bt223.1 = 1 then (if bt223.2 = 101 then (if bt234.1 = 1 then (if bt234.2 = 102 then (if bt239.1 = 0 then (if bt239.2 = 130 then (if bt244.2 = 0 then (some ((bt244.1.length : Int) == 10)) else (some false)) else (some false)) else (some false)) else (some false)) else (some false)) else (some false)) else (some false)) else (some false)) else (some false)) else (some false)) else (some false)) else (some false)) else (some false)))))))))))
set_option maxHeartbeats 8000000 in
set_option maxRecDepth 100000 in
theorem works0.calls (k : Nat)  (r : Bool) (w : World) (h : works0.f k  = some r) (hr : r = true) :
    Calls Try.prog 10 #[] w fun e w' => e = .returned (.bool r) ∧ Below w.heap.size w w' := by
  have hu39 := Try.underlying39
  have HB := Aside0.mk (Below.refl w.heap.size w)
  have H : ((tailracekit_Straight.f).bind fun t204 => ((check_Check.f k t204).bind fun bt207 => ((check_Check.f k (([(⟨10, 0, 0, 0, (([0] : List Int))⟩ : S39)] : List (S39)))).bind fun bt215 => ((check_Check.f k (([(⟨1, 0, 0, 0, ([] : List Int)⟩ : S39), (⟨7, 0, 0, 0, (([0] : List Int))⟩ : S39)] : List (S39)))).bind fun bt223 => ((check_Check.f k (([(⟨1, 0, 0, 0, ([] : List Int)⟩ : S39), (⟨4, 0, 0, 0, (([0, 2] : List Int))⟩ : S39), (⟨2, 0, 0, 0, (([1] : List Int))⟩ : S39)] : List (S39)))).bind fun bt234 => ((check_Check.f k (([(⟨2, 4, 0, 0, ([] : List Int)⟩ : S39)] : List (S39)))).bind fun bt239 => ((tailracekit_Race.f).bind fun t241 => ((check_Order.f k t241).bind fun bt244 => ((tailracelaw10_deeper.f).bind fun t248 => ((check_Check.f k t248).bind fun bt251 => (if bt251.1 = 1 then (if bt251.2 = 102 then (if bt207.1 = 2 then (if bt207.2 = 0 then (if bt215.1 = 0 then (if bt215.2 = 100 then (if bt223.1 = 1 then (if bt223.2 = 101 then (if bt234.1 = 1 then (if bt234.2 = 102 then (if bt239.1 = 0 then (if bt239.2 = 130 then (if bt244.2 = 0 then (some ((bt244.1.length : Int) == 10)) else (some false)) else (some false)) else (some false)) else (some false)) else (some false)) else (some false)) else (some false)) else (some false)) else (some false)) else (some false)) else (some false)) else (some false)) else (some false)))))))))))) = some r := h
  clear h
  replace H := Option.bind_eq_some_iff.mp H
  obtain ⟨t204, A10, H⟩ := H
  replace H : ((check_Check.f k t204).bind fun bt207 => ((check_Check.f k (([(⟨10, 0, 0, 0, (([0] : List Int))⟩ : S39)] : List (S39)))).bind fun bt215 => ((check_Check.f k (([(⟨1, 0, 0, 0, ([] : List Int)⟩ : S39), (⟨7, 0, 0, 0, (([0] : List Int))⟩ : S39)] : List (S39)))).bind fun bt223 => ((check_Check.f k (([(⟨1, 0, 0, 0, ([] : List Int)⟩ : S39), (⟨4, 0, 0, 0, (([0, 2] : List Int))⟩ : S39), (⟨2, 0, 0, 0, (([1] : List Int))⟩ : S39)] : List (S39)))).bind fun bt234 => ((check_Check.f k (([(⟨2, 4, 0, 0, ([] : List Int)⟩ : S39)] : List (S39)))).bind fun bt239 => ((tailracekit_Race.f).bind fun t241 => ((check_Order.f k t241).bind fun bt244 => ((tailracelaw10_deeper.f).bind fun t248 => ((check_Check.f k t248).bind fun bt251 => (if bt251.1 = 1 then (if bt251.2 = 102 then (if bt207.1 = 2 then (if bt207.2 = 0 then (if bt215.1 = 0 then (if bt215.2 = 100 then (if bt223.1 = 1 then (if bt223.2 = 101 then (if bt234.1 = 1 then (if bt234.2 = 102 then (if bt239.1 = 0 then (if bt239.2 = 130 then (if bt244.2 = 0 then (some ((bt244.1.length : Int) == 10)) else (some false)) else (some false)) else (some false)) else (some false)) else (some false)) else (some false)) else (some false)) else (some false)) else (some false)) else (some false)) else (some false)) else (some false)) else (some false))))))))))) = some r := H
  have A1 := Aside0.mk A10
  clear A10
  replace H := Option.bind_eq_some_iff.mp H
  obtain ⟨⟨t207, t208⟩, A20, H⟩ := H
  replace H : ((check_Check.f k (([(⟨10, 0, 0, 0, (([0] : List Int))⟩ : S39)] : List (S39)))).bind fun bt215 => ((check_Check.f k (([(⟨1, 0, 0, 0, ([] : List Int)⟩ : S39), (⟨7, 0, 0, 0, (([0] : List Int))⟩ : S39)] : List (S39)))).bind fun bt223 => ((check_Check.f k (([(⟨1, 0, 0, 0, ([] : List Int)⟩ : S39), (⟨4, 0, 0, 0, (([0, 2] : List Int))⟩ : S39), (⟨2, 0, 0, 0, (([1] : List Int))⟩ : S39)] : List (S39)))).bind fun bt234 => ((check_Check.f k (([(⟨2, 4, 0, 0, ([] : List Int)⟩ : S39)] : List (S39)))).bind fun bt239 => ((tailracekit_Race.f).bind fun t241 => ((check_Order.f k t241).bind fun bt244 => ((tailracelaw10_deeper.f).bind fun t248 => ((check_Check.f k t248).bind fun bt251 => (if bt251.1 = 1 then (if bt251.2 = 102 then (if t207 = 2 then (if t208 = 0 then (if bt215.1 = 0 then (if bt215.2 = 100 then (if bt223.1 = 1 then (if bt223.2 = 101 then (if bt234.1 = 1 then (if bt234.2 = 102 then (if bt239.1 = 0 then (if bt239.2 = 130 then (if bt244.2 = 0 then (some ((bt244.1.length : Int) == 10)) else (some false)) else (some false)) else (some false)) else (some false)) else (some false)) else (some false)) else (some false)) else (some false)) else (some false)) else (some false)) else (some false)) else (some false)) else (some false)))))))))) = some r := H
  have A2 := Aside0.mk A20
  clear A20
  obtain ⟨y209, hy209⟩ : ∃ y_ : List Int, y_ = (([0] : List Int)) := ⟨_, rfl⟩
  replace H : ((check_Check.f k (([(⟨10, 0, 0, 0, y209⟩ : S39)] : List (S39)))).bind fun bt215 => ((check_Check.f k (([(⟨1, 0, 0, 0, ([] : List Int)⟩ : S39), (⟨7, 0, 0, 0, (([0] : List Int))⟩ : S39)] : List (S39)))).bind fun bt223 => ((check_Check.f k (([(⟨1, 0, 0, 0, ([] : List Int)⟩ : S39), (⟨4, 0, 0, 0, (([0, 2] : List Int))⟩ : S39), (⟨2, 0, 0, 0, (([1] : List Int))⟩ : S39)] : List (S39)))).bind fun bt234 => ((check_Check.f k (([(⟨2, 4, 0, 0, ([] : List Int)⟩ : S39)] : List (S39)))).bind fun bt239 => ((tailracekit_Race.f).bind fun t241 => ((check_Order.f k t241).bind fun bt244 => ((tailracelaw10_deeper.f).bind fun t248 => ((check_Check.f k t248).bind fun bt251 => (if bt251.1 = 1 then (if bt251.2 = 102 then (if t207 = 2 then (if t208 = 0 then (if bt215.1 = 0 then (if bt215.2 = 100 then (if bt223.1 = 1 then (if bt223.2 = 101 then (if bt234.1 = 1 then (if bt234.2 = 102 then (if bt239.1 = 0 then (if bt239.2 = 130 then (if bt244.2 = 0 then (some ((bt244.1.length : Int) == 10)) else (some false)) else (some false)) else (some false)) else (some false)) else (some false)) else (some false)) else (some false)) else (some false)) else (some false)) else (some false)) else (some false)) else (some false)) else (some false)))))))))) = some r := by first | (rw [hy209]; with_reducible exact H) | (have H2_ := (Option.bind_some _ _).symm.trans H; rw [hy209]; with_reducible exact H2_) | (have H2_ := (Option.bind_some _ _).symm.trans H; with_reducible exact H2_) | with_reducible exact H | (rw [hy209]; exact H) | exact H
  have Ny209 := Aside0.mk hy209
  clear hy209
  obtain ⟨y212, hy212⟩ : ∃ y_ : List (S39), y_ = (([(⟨10, 0, 0, 0, y209⟩ : S39)] : List (S39))) := ⟨_, rfl⟩
  replace H : ((check_Check.f k y212).bind fun bt215 => ((check_Check.f k (([(⟨1, 0, 0, 0, ([] : List Int)⟩ : S39), (⟨7, 0, 0, 0, (([0] : List Int))⟩ : S39)] : List (S39)))).bind fun bt223 => ((check_Check.f k (([(⟨1, 0, 0, 0, ([] : List Int)⟩ : S39), (⟨4, 0, 0, 0, (([0, 2] : List Int))⟩ : S39), (⟨2, 0, 0, 0, (([1] : List Int))⟩ : S39)] : List (S39)))).bind fun bt234 => ((check_Check.f k (([(⟨2, 4, 0, 0, ([] : List Int)⟩ : S39)] : List (S39)))).bind fun bt239 => ((tailracekit_Race.f).bind fun t241 => ((check_Order.f k t241).bind fun bt244 => ((tailracelaw10_deeper.f).bind fun t248 => ((check_Check.f k t248).bind fun bt251 => (if bt251.1 = 1 then (if bt251.2 = 102 then (if t207 = 2 then (if t208 = 0 then (if bt215.1 = 0 then (if bt215.2 = 100 then (if bt223.1 = 1 then (if bt223.2 = 101 then (if bt234.1 = 1 then (if bt234.2 = 102 then (if bt239.1 = 0 then (if bt239.2 = 130 then (if bt244.2 = 0 then (some ((bt244.1.length : Int) == 10)) else (some false)) else (some false)) else (some false)) else (some false)) else (some false)) else (some false)) else (some false)) else (some false)) else (some false)) else (some false)) else (some false)) else (some false)) else (some false)))))))))) = some r := by first | (rw [hy212]; with_reducible exact H) | (have H2_ := (Option.bind_some _ _).symm.trans H; rw [hy212]; with_reducible exact H2_) | (have H2_ := (Option.bind_some _ _).symm.trans H; with_reducible exact H2_) | with_reducible exact H | (rw [hy212]; exact H) | exact H
  have Ny212 := Aside0.mk hy212
  clear hy212
  replace H := Option.bind_eq_some_iff.mp H
  obtain ⟨⟨t215, t216⟩, A30, H⟩ := H
  replace H : ((check_Check.f k (([(⟨1, 0, 0, 0, ([] : List Int)⟩ : S39), (⟨7, 0, 0, 0, (([0] : List Int))⟩ : S39)] : List (S39)))).bind fun bt223 => ((check_Check.f k (([(⟨1, 0, 0, 0, ([] : List Int)⟩ : S39), (⟨4, 0, 0, 0, (([0, 2] : List Int))⟩ : S39), (⟨2, 0, 0, 0, (([1] : List Int))⟩ : S39)] : List (S39)))).bind fun bt234 => ((check_Check.f k (([(⟨2, 4, 0, 0, ([] : List Int)⟩ : S39)] : List (S39)))).bind fun bt239 => ((tailracekit_Race.f).bind fun t241 => ((check_Order.f k t241).bind fun bt244 => ((tailracelaw10_deeper.f).bind fun t248 => ((check_Check.f k t248).bind fun bt251 => (if bt251.1 = 1 then (if bt251.2 = 102 then (if t207 = 2 then (if t208 = 0 then (if t215 = 0 then (if t216 = 100 then (if bt223.1 = 1 then (if bt223.2 = 101 then (if bt234.1 = 1 then (if bt234.2 = 102 then (if bt239.1 = 0 then (if bt239.2 = 130 then (if bt244.2 = 0 then (some ((bt244.1.length : Int) == 10)) else (some false)) else (some false)) else (some false)) else (some false)) else (some false)) else (some false)) else (some false)) else (some false)) else (some false)) else (some false)) else (some false)) else (some false)) else (some false))))))))) = some r := H
  have A3 := Aside0.mk A30
  clear A30
  obtain ⟨y217, hy217⟩ : ∃ y_ : List Int, y_ = (([0] : List Int)) := ⟨_, rfl⟩
  replace H : ((check_Check.f k (([(⟨1, 0, 0, 0, ([] : List Int)⟩ : S39), (⟨7, 0, 0, 0, y217⟩ : S39)] : List (S39)))).bind fun bt223 => ((check_Check.f k (([(⟨1, 0, 0, 0, ([] : List Int)⟩ : S39), (⟨4, 0, 0, 0, (([0, 2] : List Int))⟩ : S39), (⟨2, 0, 0, 0, (([1] : List Int))⟩ : S39)] : List (S39)))).bind fun bt234 => ((check_Check.f k (([(⟨2, 4, 0, 0, ([] : List Int)⟩ : S39)] : List (S39)))).bind fun bt239 => ((tailracekit_Race.f).bind fun t241 => ((check_Order.f k t241).bind fun bt244 => ((tailracelaw10_deeper.f).bind fun t248 => ((check_Check.f k t248).bind fun bt251 => (if bt251.1 = 1 then (if bt251.2 = 102 then (if t207 = 2 then (if t208 = 0 then (if t215 = 0 then (if t216 = 100 then (if bt223.1 = 1 then (if bt223.2 = 101 then (if bt234.1 = 1 then (if bt234.2 = 102 then (if bt239.1 = 0 then (if bt239.2 = 130 then (if bt244.2 = 0 then (some ((bt244.1.length : Int) == 10)) else (some false)) else (some false)) else (some false)) else (some false)) else (some false)) else (some false)) else (some false)) else (some false)) else (some false)) else (some false)) else (some false)) else (some false)) else (some false))))))))) = some r := by first | (rw [hy217]; with_reducible exact H) | (have H2_ := (Option.bind_some _ _).symm.trans H; rw [hy217]; with_reducible exact H2_) | (have H2_ := (Option.bind_some _ _).symm.trans H; with_reducible exact H2_) | with_reducible exact H | (rw [hy217]; exact H) | exact H
  have Ny217 := Aside0.mk hy217
  clear hy217
  obtain ⟨y220, hy220⟩ : ∃ y_ : List (S39), y_ = (([(⟨1, 0, 0, 0, ([] : List Int)⟩ : S39), (⟨7, 0, 0, 0, y217⟩ : S39)] : List (S39))) := ⟨_, rfl⟩
  replace H : ((check_Check.f k y220).bind fun bt223 => ((check_Check.f k (([(⟨1, 0, 0, 0, ([] : List Int)⟩ : S39), (⟨4, 0, 0, 0, (([0, 2] : List Int))⟩ : S39), (⟨2, 0, 0, 0, (([1] : List Int))⟩ : S39)] : List (S39)))).bind fun bt234 => ((check_Check.f k (([(⟨2, 4, 0, 0, ([] : List Int)⟩ : S39)] : List (S39)))).bind fun bt239 => ((tailracekit_Race.f).bind fun t241 => ((check_Order.f k t241).bind fun bt244 => ((tailracelaw10_deeper.f).bind fun t248 => ((check_Check.f k t248).bind fun bt251 => (if bt251.1 = 1 then (if bt251.2 = 102 then (if t207 = 2 then (if t208 = 0 then (if t215 = 0 then (if t216 = 100 then (if bt223.1 = 1 then (if bt223.2 = 101 then (if bt234.1 = 1 then (if bt234.2 = 102 then (if bt239.1 = 0 then (if bt239.2 = 130 then (if bt244.2 = 0 then (some ((bt244.1.length : Int) == 10)) else (some false)) else (some false)) else (some false)) else (some false)) else (some false)) else (some false)) else (some false)) else (some false)) else (some false)) else (some false)) else (some false)) else (some false)) else (some false))))))))) = some r := by first | (rw [hy220]; with_reducible exact H) | (have H2_ := (Option.bind_some _ _).symm.trans H; rw [hy220]; with_reducible exact H2_) | (have H2_ := (Option.bind_some _ _).symm.trans H; with_reducible exact H2_) | with_reducible exact H | (rw [hy220]; exact H) | exact H
  have Ny220 := Aside0.mk hy220
  clear hy220
  replace H := Option.bind_eq_some_iff.mp H
  obtain ⟨⟨t223, t224⟩, A40, H⟩ := H
  replace H : ((check_Check.f k (([(⟨1, 0, 0, 0, ([] : List Int)⟩ : S39), (⟨4, 0, 0, 0, (([0, 2] : List Int))⟩ : S39), (⟨2, 0, 0, 0, (([1] : List Int))⟩ : S39)] : List (S39)))).bind fun bt234 => ((check_Check.f k (([(⟨2, 4, 0, 0, ([] : List Int)⟩ : S39)] : List (S39)))).bind fun bt239 => ((tailracekit_Race.f).bind fun t241 => ((check_Order.f k t241).bind fun bt244 => ((tailracelaw10_deeper.f).bind fun t248 => ((check_Check.f k t248).bind fun bt251 => (if bt251.1 = 1 then (if bt251.2 = 102 then (if t207 = 2 then (if t208 = 0 then (if t215 = 0 then (if t216 = 100 then (if t223 = 1 then (if t224 = 101 then (if bt234.1 = 1 then (if bt234.2 = 102 then (if bt239.1 = 0 then (if bt239.2 = 130 then (if bt244.2 = 0 then (some ((bt244.1.length : Int) == 10)) else (some false)) else (some false)) else (some false)) else (some false)) else (some false)) else (some false)) else (some false)) else (some false)) else (some false)) else (some false)) else (some false)) else (some false)) else (some false)))))))) = some r := H
  have A4 := Aside0.mk A40
  clear A40
  obtain ⟨y225, hy225⟩ : ∃ y_ : List Int, y_ = (([0, 2] : List Int)) := ⟨_, rfl⟩
  replace H : ((check_Check.f k (([(⟨1, 0, 0, 0, ([] : List Int)⟩ : S39), (⟨4, 0, 0, 0, y225⟩ : S39), (⟨2, 0, 0, 0, (([1] : List Int))⟩ : S39)] : List (S39)))).bind fun bt234 => ((check_Check.f k (([(⟨2, 4, 0, 0, ([] : List Int)⟩ : S39)] : List (S39)))).bind fun bt239 => ((tailracekit_Race.f).bind fun t241 => ((check_Order.f k t241).bind fun bt244 => ((tailracelaw10_deeper.f).bind fun t248 => ((check_Check.f k t248).bind fun bt251 => (if bt251.1 = 1 then (if bt251.2 = 102 then (if t207 = 2 then (if t208 = 0 then (if t215 = 0 then (if t216 = 100 then (if t223 = 1 then (if t224 = 101 then (if bt234.1 = 1 then (if bt234.2 = 102 then (if bt239.1 = 0 then (if bt239.2 = 130 then (if bt244.2 = 0 then (some ((bt244.1.length : Int) == 10)) else (some false)) else (some false)) else (some false)) else (some false)) else (some false)) else (some false)) else (some false)) else (some false)) else (some false)) else (some false)) else (some false)) else (some false)) else (some false)))))))) = some r := by first | (rw [hy225]; with_reducible exact H) | (have H2_ := (Option.bind_some _ _).symm.trans H; rw [hy225]; with_reducible exact H2_) | (have H2_ := (Option.bind_some _ _).symm.trans H; with_reducible exact H2_) | with_reducible exact H | (rw [hy225]; exact H) | exact H
  have Ny225 := Aside0.mk hy225
  clear hy225
  obtain ⟨y228, hy228⟩ : ∃ y_ : List Int, y_ = (([1] : List Int)) := ⟨_, rfl⟩
  replace H : ((check_Check.f k (([(⟨1, 0, 0, 0, ([] : List Int)⟩ : S39), (⟨4, 0, 0, 0, y225⟩ : S39), (⟨2, 0, 0, 0, y228⟩ : S39)] : List (S39)))).bind fun bt234 => ((check_Check.f k (([(⟨2, 4, 0, 0, ([] : List Int)⟩ : S39)] : List (S39)))).bind fun bt239 => ((tailracekit_Race.f).bind fun t241 => ((check_Order.f k t241).bind fun bt244 => ((tailracelaw10_deeper.f).bind fun t248 => ((check_Check.f k t248).bind fun bt251 => (if bt251.1 = 1 then (if bt251.2 = 102 then (if t207 = 2 then (if t208 = 0 then (if t215 = 0 then (if t216 = 100 then (if t223 = 1 then (if t224 = 101 then (if bt234.1 = 1 then (if bt234.2 = 102 then (if bt239.1 = 0 then (if bt239.2 = 130 then (if bt244.2 = 0 then (some ((bt244.1.length : Int) == 10)) else (some false)) else (some false)) else (some false)) else (some false)) else (some false)) else (some false)) else (some false)) else (some false)) else (some false)) else (some false)) else (some false)) else (some false)) else (some false)))))))) = some r := by first | (rw [hy228]; with_reducible exact H) | (have H2_ := (Option.bind_some _ _).symm.trans H; rw [hy228]; with_reducible exact H2_) | (have H2_ := (Option.bind_some _ _).symm.trans H; with_reducible exact H2_) | with_reducible exact H | (rw [hy228]; exact H) | exact H
  have Ny228 := Aside0.mk hy228
  clear hy228
  obtain ⟨y231, hy231⟩ : ∃ y_ : List (S39), y_ = (([(⟨1, 0, 0, 0, ([] : List Int)⟩ : S39), (⟨4, 0, 0, 0, y225⟩ : S39), (⟨2, 0, 0, 0, y228⟩ : S39)] : List (S39))) := ⟨_, rfl⟩
  replace H : ((check_Check.f k y231).bind fun bt234 => ((check_Check.f k (([(⟨2, 4, 0, 0, ([] : List Int)⟩ : S39)] : List (S39)))).bind fun bt239 => ((tailracekit_Race.f).bind fun t241 => ((check_Order.f k t241).bind fun bt244 => ((tailracelaw10_deeper.f).bind fun t248 => ((check_Check.f k t248).bind fun bt251 => (if bt251.1 = 1 then (if bt251.2 = 102 then (if t207 = 2 then (if t208 = 0 then (if t215 = 0 then (if t216 = 100 then (if t223 = 1 then (if t224 = 101 then (if bt234.1 = 1 then (if bt234.2 = 102 then (if bt239.1 = 0 then (if bt239.2 = 130 then (if bt244.2 = 0 then (some ((bt244.1.length : Int) == 10)) else (some false)) else (some false)) else (some false)) else (some false)) else (some false)) else (some false)) else (some false)) else (some false)) else (some false)) else (some false)) else (some false)) else (some false)) else (some false)))))))) = some r := by first | (rw [hy231]; with_reducible exact H) | (have H2_ := (Option.bind_some _ _).symm.trans H; rw [hy231]; with_reducible exact H2_) | (have H2_ := (Option.bind_some _ _).symm.trans H; with_reducible exact H2_) | with_reducible exact H | (rw [hy231]; exact H) | exact H
  have Ny231 := Aside0.mk hy231
  clear hy231
  replace H := Option.bind_eq_some_iff.mp H
  obtain ⟨⟨t234, t235⟩, A50, H⟩ := H
  replace H : ((check_Check.f k (([(⟨2, 4, 0, 0, ([] : List Int)⟩ : S39)] : List (S39)))).bind fun bt239 => ((tailracekit_Race.f).bind fun t241 => ((check_Order.f k t241).bind fun bt244 => ((tailracelaw10_deeper.f).bind fun t248 => ((check_Check.f k t248).bind fun bt251 => (if bt251.1 = 1 then (if bt251.2 = 102 then (if t207 = 2 then (if t208 = 0 then (if t215 = 0 then (if t216 = 100 then (if t223 = 1 then (if t224 = 101 then (if t234 = 1 then (if t235 = 102 then (if bt239.1 = 0 then (if bt239.2 = 130 then (if bt244.2 = 0 then (some ((bt244.1.length : Int) == 10)) else (some false)) else (some false)) else (some false)) else (some false)) else (some false)) else (some false)) else (some false)) else (some false)) else (some false)) else (some false)) else (some false)) else (some false)) else (some false))))))) = some r := H
  have A5 := Aside0.mk A50
  clear A50
  obtain ⟨y236, hy236⟩ : ∃ y_ : List (S39), y_ = (([(⟨2, 4, 0, 0, ([] : List Int)⟩ : S39)] : List (S39))) := ⟨_, rfl⟩
  replace H : ((check_Check.f k y236).bind fun bt239 => ((tailracekit_Race.f).bind fun t241 => ((check_Order.f k t241).bind fun bt244 => ((tailracelaw10_deeper.f).bind fun t248 => ((check_Check.f k t248).bind fun bt251 => (if bt251.1 = 1 then (if bt251.2 = 102 then (if t207 = 2 then (if t208 = 0 then (if t215 = 0 then (if t216 = 100 then (if t223 = 1 then (if t224 = 101 then (if t234 = 1 then (if t235 = 102 then (if bt239.1 = 0 then (if bt239.2 = 130 then (if bt244.2 = 0 then (some ((bt244.1.length : Int) == 10)) else (some false)) else (some false)) else (some false)) else (some false)) else (some false)) else (some false)) else (some false)) else (some false)) else (some false)) else (some false)) else (some false)) else (some false)) else (some false))))))) = some r := by first | (rw [hy236]; with_reducible exact H) | (have H2_ := (Option.bind_some _ _).symm.trans H; rw [hy236]; with_reducible exact H2_) | (have H2_ := (Option.bind_some _ _).symm.trans H; with_reducible exact H2_) | with_reducible exact H | (rw [hy236]; exact H) | exact H
  have Ny236 := Aside0.mk hy236
  clear hy236
  replace H := Option.bind_eq_some_iff.mp H
  obtain ⟨⟨t239, t240⟩, A60, H⟩ := H
  replace H : ((tailracekit_Race.f).bind fun t241 => ((check_Order.f k t241).bind fun bt244 => ((tailracelaw10_deeper.f).bind fun t248 => ((check_Check.f k t248).bind fun bt251 => (if bt251.1 = 1 then (if bt251.2 = 102 then (if t207 = 2 then (if t208 = 0 then (if t215 = 0 then (if t216 = 100 then (if t223 = 1 then (if t224 = 101 then (if t234 = 1 then (if t235 = 102 then (if t239 = 0 then (if t240 = 130 then (if bt244.2 = 0 then (some ((bt244.1.length : Int) == 10)) else (some false)) else (some false)) else (some false)) else (some false)) else (some false)) else (some false)) else (some false)) else (some false)) else (some false)) else (some false)) else (some false)) else (some false)) else (some false)))))) = some r := H
  have A6 := Aside0.mk A60
  clear A60
  replace H := Option.bind_eq_some_iff.mp H
  obtain ⟨t241, A70, H⟩ := H
  replace H : ((check_Order.f k t241).bind fun bt244 => ((tailracelaw10_deeper.f).bind fun t248 => ((check_Check.f k t248).bind fun bt251 => (if bt251.1 = 1 then (if bt251.2 = 102 then (if t207 = 2 then (if t208 = 0 then (if t215 = 0 then (if t216 = 100 then (if t223 = 1 then (if t224 = 101 then (if t234 = 1 then (if t235 = 102 then (if t239 = 0 then (if t240 = 130 then (if bt244.2 = 0 then (some ((bt244.1.length : Int) == 10)) else (some false)) else (some false)) else (some false)) else (some false)) else (some false)) else (some false)) else (some false)) else (some false)) else (some false)) else (some false)) else (some false)) else (some false)) else (some false))))) = some r := H
  have A7 := Aside0.mk A70
  clear A70
  replace H := Option.bind_eq_some_iff.mp H
  obtain ⟨⟨t244, t245⟩, A80, H⟩ := H
  replace H : ((tailracelaw10_deeper.f).bind fun t248 => ((check_Check.f k t248).bind fun bt251 => (if bt251.1 = 1 then (if bt251.2 = 102 then (if t207 = 2 then (if t208 = 0 then (if t215 = 0 then (if t216 = 100 then (if t223 = 1 then (if t224 = 101 then (if t234 = 1 then (if t235 = 102 then (if t239 = 0 then (if t240 = 130 then (if t245 = 0 then (some ((t244.length : Int) == 10)) else (some false)) else (some false)) else (some false)) else (some false)) else (some false)) else (some false)) else (some false)) else (some false)) else (some false)) else (some false)) else (some false)) else (some false)) else (some false)))) = some r := H
  have A8 := Aside0.mk A80
  clear A80
  replace H := Option.bind_eq_some_iff.mp H
  obtain ⟨t248, A90, H⟩ := H
  replace H : ((check_Check.f k t248).bind fun bt251 => (if bt251.1 = 1 then (if bt251.2 = 102 then (if t207 = 2 then (if t208 = 0 then (if t215 = 0 then (if t216 = 100 then (if t223 = 1 then (if t224 = 101 then (if t234 = 1 then (if t235 = 102 then (if t239 = 0 then (if t240 = 130 then (if t245 = 0 then (some ((t244.length : Int) == 10)) else (some false)) else (some false)) else (some false)) else (some false)) else (some false)) else (some false)) else (some false)) else (some false)) else (some false)) else (some false)) else (some false)) else (some false)) else (some false))) = some r := H
  have A9 := Aside0.mk A90
  clear A90
  replace H := Option.bind_eq_some_iff.mp H
  obtain ⟨⟨t251, t252⟩, A100, H⟩ := H
  replace H : (if t251 = 1 then (if t252 = 102 then (if t207 = 2 then (if t208 = 0 then (if t215 = 0 then (if t216 = 100 then (if t223 = 1 then (if t224 = 101 then (if t234 = 1 then (if t235 = 102 then (if t239 = 0 then (if t240 = 130 then (if t245 = 0 then (some ((t244.length : Int) == 10)) else (some false)) else (some false)) else (some false)) else (some false)) else (some false)) else (some false)) else (some false)) else (some false)) else (some false)) else (some false)) else (some false)) else (some false)) else (some false)) = some r := H
  have A10 := Aside0.mk A100
  clear A100
  by_cases c11 : t251 = 1
  · rw [if_pos c11] at H
    have c11b0 : (t251 == 1) = true := beq_iff_eq.mpr c11
    have c11b1 : (t251 != 1) = false := bne_eq_false_iff_eq.mpr c11
    clear c11
    by_cases c12 : t252 = 102
    · rw [if_pos c12] at H
      have c12b0 : (t252 == 102) = true := beq_iff_eq.mpr c12
      have c12b1 : (t252 != 102) = false := bne_eq_false_iff_eq.mpr c12
      clear c12
      by_cases c13 : t207 = 2
      · rw [if_pos c13] at H
        have c13b0 : (t207 == 2) = true := beq_iff_eq.mpr c13
        have c13b1 : (t207 != 2) = false := bne_eq_false_iff_eq.mpr c13
        clear c13
        by_cases c14 : t208 = 0
        · rw [if_pos c14] at H
          have c14b0 : (t208 == 0) = true := beq_iff_eq.mpr c14
          have c14b1 : (t208 != 0) = false := bne_eq_false_iff_eq.mpr c14
          clear c14
          by_cases c15 : t215 = 0
          · rw [if_pos c15] at H
            have c15b0 : (t215 == 0) = true := beq_iff_eq.mpr c15
            have c15b1 : (t215 != 0) = false := bne_eq_false_iff_eq.mpr c15
            clear c15
            by_cases c16 : t216 = 100
            · rw [if_pos c16] at H
              have c16b0 : (t216 == 100) = true := beq_iff_eq.mpr c16
              have c16b1 : (t216 != 100) = false := bne_eq_false_iff_eq.mpr c16
              clear c16
              by_cases c17 : t223 = 1
              · rw [if_pos c17] at H
                have c17b0 : (t223 == 1) = true := beq_iff_eq.mpr c17
                have c17b1 : (t223 != 1) = false := bne_eq_false_iff_eq.mpr c17
                clear c17
                by_cases c18 : t224 = 101
                · rw [if_pos c18] at H
                  have c18b0 : (t224 == 101) = true := beq_iff_eq.mpr c18
                  have c18b1 : (t224 != 101) = false := bne_eq_false_iff_eq.mpr c18
                  clear c18
                  by_cases c19 : t234 = 1
                  · rw [if_pos c19] at H
                    have c19b0 : (t234 == 1) = true := beq_iff_eq.mpr c19
                    have c19b1 : (t234 != 1) = false := bne_eq_false_iff_eq.mpr c19
                    clear c19
                    by_cases c20 : t235 = 102
                    · rw [if_pos c20] at H
                      have c20b0 : (t235 == 102) = true := beq_iff_eq.mpr c20
                      have c20b1 : (t235 != 102) = false := bne_eq_false_iff_eq.mpr c20
                      clear c20
                      by_cases c21 : t239 = 0
                      · rw [if_pos c21] at H
                        have c21b0 : (t239 == 0) = true := beq_iff_eq.mpr c21
                        have c21b1 : (t239 != 0) = false := bne_eq_false_iff_eq.mpr c21
                        clear c21
                        by_cases c22 : t240 = 130
                        · rw [if_pos c22] at H
                          have c22b0 : (t240 == 130) = true := beq_iff_eq.mpr c22
                          have c22b1 : (t240 != 130) = false := bne_eq_false_iff_eq.mpr c22
                          clear c22
                          by_cases c23 : t245 = 0
                          · rw [if_pos c23] at H
                            have c23b0 : (t245 == 0) = true := beq_iff_eq.mpr c23
                            have c23b1 : (t245 != 0) = false := bne_eq_false_iff_eq.mpr c23
                            clear c23
                            obtain rfl := Option.some.inj H
                            go_enter Try.func10, Try.ntmps10
                            go_wp2_with (first | ((with_reducible refine gate_callee (f := 22) rfl ?_); refine goesL_ (some 16) rfl rfl Try.func22 (by kernel_rfl) rfl #[] rfl (by (try simp only [List.map_toArray, List.map_cons, List.map_nil]); first | done | rfl | (simp only [List.length_drop, List.length_take]; rfl)) ?_; (with_reducible refine (tailracekit_Straight.calls  t204 _ A1.out).mono ?_); rintro e w24 ⟨v205, rfl, ho0, hb⟩; refine ⟨_, rfl, ?_⟩; have n0_ := Aside0.mk (Kd.N_lower (Kd.N_mono (ok' := fun k_ => True) ho0 (fun k_ hk_ => trivial)) (below_size (by repeat (first | (with_reducible first | exact HB.out | apply below_alloc | apply pw_below_drewN | apply below_drew1) | exact HB.out)))); have n1_ := Aside0.mk (below_step (by repeat (first | (with_reducible first | exact HB.out | apply below_alloc | apply pw_below_drewN | apply below_drew1) | exact HB.out)) hb); clear HB; have HO206 := n0_; have HB := n1_; clear n0_ n1_; (try clear hb); (try clear hb2); (try clear hk); (try clear hi); (try clear ho0); obtain ⟨Ao25, co25, eo25⟩ := Kd.N_slice HO206.out; subst eo25) | ((with_reducible refine gate_callee (f := 15) rfl ?_); refine goesL_ (some 17) rfl rfl Try.func15 (by kernel_rfl) rfl #[.slice Ao25 t204.length co25] rfl (by (try simp only [List.map_toArray, List.map_cons, List.map_nil]); first | done | rfl | (simp only [List.length_drop, List.length_take]; rfl)) ?_; (with_reducible refine (check_Check.calls k _ _ t204 t207 t208 _ ?side1 ?side2 A2.out).mono ?_); (case side1 => repeat (first | exact (Kd.N_reads' HO206.out).2.2 | (with_reducible refine Kd.C_alloc ?_ _) | (with_reducible refine Kd.C_drewN ?_ _) | (with_reducible refine Kd.C_drew ?_))); (case side2 => exact (Kd.N_reads' HO206.out).2.1); rintro e w26 ⟨rfl, hb⟩; refine ⟨_, rfl, ?_⟩; have n0_ := Aside0.mk (Kd.N_below (by (with_reducible repeat (first | apply Kd.N_alloc | apply Kd.N_drewN | apply Kd.N_drew)); exact HO206.out) hb); have n1_ := Aside0.mk (below_step (by repeat (first | (with_reducible first | exact HB.out | apply below_alloc | apply pw_below_drewN | apply below_drew1) | exact HB.out)) hb); clear HO206; clear HB; have HO206 := n0_; have HB := n1_; clear n0_ n1_; (try clear hb); (try clear hb2); (try clear hk); (try clear hi)) | ((with_reducible refine gate_dst (N := 21) rfl ?_); (try (refine gate_guard (by rfl) ?_; dsimp only)); refine Kd.R_lit (Kd.int .i64) _ 3 ?hg (N := 21) ?hd (xs := ([0] : List Int)) (inner := [.int .i64 0]) (ok := fun _ => True) (okp := fun _ => True) ?hr ?hp (fun _ hk => hk) trivial (Below.refl _ _) (Nat.le_refl _) (by simp) ?_; (case hd => rfl); (case hg => rfl); (case hr => first | (go_simp; done) | (go_simp; rfl)); (case hp => exact (Reps.one (show Kd.M (Kd.int .i64) _ _ _ 0 [.int .i64 0] from rfl) (Reps.none _ _))); intro v210 w27 ho28 hb hg_ hnew_; clear hg_ hnew_; (first | rw [← Ny209.out] at ho28 | (simp only [Int.reduceToNat] at ho28; rw [← Ny209.out] at ho28)); have n0_ := Aside0.mk (Kd.N_elder' (by (with_reducible repeat (first | apply Kd.N_alloc | apply Kd.N_drewN | apply Kd.N_drew)); exact HO206.out) (Kd.R_base ho28) hb); have n1_ := Aside0.mk (Kd.R_lower ho28 (below_size (by repeat (first | (with_reducible first | exact HB.out | apply below_alloc | apply pw_below_drewN | apply below_drew1) | exact HB.out)))); have n2_ := Aside0.mk (below_step (by repeat (first | (with_reducible first | exact HB.out | apply below_alloc | apply pw_below_drewN | apply below_drew1) | exact HB.out)) hb); clear HO206; clear HB; have HO206 := n0_; have HO211 := n1_; have HB := n2_; clear n0_ n1_ n2_; clear hb ho28; obtain ⟨Ao29, co29, eo29⟩ := Kd.R_slice HO211.out; subst eo29) | ((with_reducible refine gate_dst (N := 23) rfl ?_); (try (refine gate_guard (by rfl) ?_; dsimp only)); refine Kd.N_lit k39 _ 39 ?hg (N' := 23) ?hd (xs := ([(⟨10, 0, 0, 0, y209⟩ : S39)] : List (S39))) (inner := [.int .u8 10, .int .u8 0, .int .i64 0, .int .i64 0, .slice Ao29 y209.length co29]) (ok := (fun k_ => some k_ ≠ (.slice Ao25 t204.length co25 : Value).ownBlock)) (okp := (fun k_ => some k_ ≠ (.slice Ao25 t204.length co25 : Value).ownBlock)) ?hr ?hp (fun _ hk => hk) ((show ∀ k_, w27.heap.size ≤ k_ → (fun k_ => some k_ ≠ (.slice Ao25 t204.length co25 : Value).ownBlock) k_ from fun k_ hk => Kd.fresh' (Kd.N_lt (by (with_reducible repeat (first | apply Kd.N_alloc | apply Kd.N_drewN | apply Kd.N_drew)); exact HO206.out)) k_ hk) _ (Nat.le_refl _)) (Below.refl _ _) (Nat.le_refl _) (by simp) ?_; (case hd => rfl); (case hg => rfl); (case hr => first | (go_simp; done) | (go_simp; rfl)); (case hp => exact (Reps.c5 (show Kd.FK k39 _ _ (⟨10, 0, 0, 0, y209⟩ : S39) [.int .u8 10, .int .u8 0, .int .i64 0, .int .i64 0, .slice Ao29 y209.length co29] from (k39_mkF _ _ (⟨10, 0, 0, 0, y209⟩ : S39) (Kd.R_reads' (Kd.R_mono (ok' := (fun k_ => some k_ ≠ (.slice Ao25 t204.length co25 : Value).ownBlock)) (Kd.R_apart' (HO211.out) (Kd.N_typed HO206.out) (by decide)) (fun k_ hk => hk.2))).2.1 (Kd.R_F (Kd.R_mono (ok' := (fun k_ => some k_ ≠ (.slice Ao25 t204.length co25 : Value).ownBlock)) (Kd.R_apart' (HO211.out) (Kd.N_typed HO206.out) (by decide)) (fun k_ hk => hk.2))))) (Reps.none _ _))); intro v213 w30 ho31 hb hg_ hnew_; clear hg_ hnew_; (first | rw [← Ny212.out] at ho31 | (simp only [Int.reduceToNat] at ho31; rw [← Ny212.out] at ho31)); have n0_ := Aside0.mk (Kd.N_elder' (by (with_reducible repeat (first | apply Kd.N_alloc | apply Kd.N_drewN | apply Kd.N_drew)); exact HO206.out) (Kd.N_base ho31) hb); have n1_ := Aside0.mk (Kd.N_lower ho31 (below_size (by repeat (first | (with_reducible first | exact HB.out | apply below_alloc | apply pw_below_drewN | apply below_drew1) | exact HB.out)))); have n2_ := Aside0.mk (below_step (by repeat (first | (with_reducible first | exact HB.out | apply below_alloc | apply pw_below_drewN | apply below_drew1) | exact HB.out)) hb); clear HO206; clear HB; clear HO211; have HO206 := n0_; have HO214 := n1_; have HB := n2_; clear n0_ n1_ n2_; clear hb ho31; obtain ⟨Ao32, co32, eo32⟩ := Kd.N_slice HO214.out; subst eo32) | ((with_reducible refine gate_callee (f := 15) rfl ?_); refine goesL_ (some 24) rfl rfl Try.func15 (by kernel_rfl) rfl #[.slice Ao32 y212.length co32] rfl (by (try simp only [List.map_toArray, List.map_cons, List.map_nil]); first | done | rfl | (simp only [List.length_drop, List.length_take]; rfl)) ?_; (with_reducible refine (check_Check.calls k _ _ y212 t215 t216 _ ?side1 ?side2 A3.out).mono ?_); (case side1 => repeat (first | exact (Kd.N_reads' HO214.out).2.2 | (with_reducible refine Kd.C_alloc ?_ _) | (with_reducible refine Kd.C_drewN ?_ _) | (with_reducible refine Kd.C_drew ?_))); (case side2 => exact (Kd.N_reads' HO214.out).2.1); rintro e w33 ⟨rfl, hb⟩; refine ⟨_, rfl, ?_⟩; have n0_ := Aside0.mk (Kd.N_below (by (with_reducible repeat (first | apply Kd.N_alloc | apply Kd.N_drewN | apply Kd.N_drew)); exact HO206.out) hb); have n1_ := Aside0.mk (Kd.N_below (by (with_reducible repeat (first | apply Kd.N_alloc | apply Kd.N_drewN | apply Kd.N_drew)); exact HO214.out) hb); have n2_ := Aside0.mk (below_step (by repeat (first | (with_reducible first | exact HB.out | apply below_alloc | apply pw_below_drewN | apply below_drew1) | exact HB.out)) hb); clear HO206; clear HO214; clear HB; have HO206 := n0_; have HO214 := n1_; have HB := n2_; clear n0_ n1_ n2_; (try clear hb); (try clear hb2); (try clear hk); (try clear hi)) | ((with_reducible refine gate_dst (N := 29) rfl ?_); (try (refine gate_guard (by rfl) ?_; dsimp only)); refine Kd.R_lit (Kd.int .i64) _ 3 ?hg (N := 29) ?hd (xs := ([0] : List Int)) (inner := [.int .i64 0]) (ok := fun _ => True) (okp := fun _ => True) ?hr ?hp (fun _ hk => hk) trivial (Below.refl _ _) (Nat.le_refl _) (by simp) ?_; (case hd => rfl); (case hg => rfl); (case hr => first | (go_simp; done) | (go_simp; rfl)); (case hp => exact (Reps.one (show Kd.M (Kd.int .i64) _ _ _ 0 [.int .i64 0] from rfl) (Reps.none _ _))); intro v218 w34 ho35 hb hg_ hnew_; clear hg_ hnew_; (first | rw [← Ny217.out] at ho35 | (simp only [Int.reduceToNat] at ho35; rw [← Ny217.out] at ho35)); have n0_ := Aside0.mk (Kd.N_elder' (by (with_reducible repeat (first | apply Kd.N_alloc | apply Kd.N_drewN | apply Kd.N_drew)); exact HO206.out) (Kd.R_base ho35) hb); have n1_ := Aside0.mk (Kd.N_elder' (by (with_reducible repeat (first | apply Kd.N_alloc | apply Kd.N_drewN | apply Kd.N_drew)); exact HO214.out) (Kd.R_base ho35) hb); have n2_ := Aside0.mk (Kd.R_lower ho35 (below_size (by repeat (first | (with_reducible first | exact HB.out | apply below_alloc | apply pw_below_drewN | apply below_drew1) | exact HB.out)))); have n3_ := Aside0.mk (below_step (by repeat (first | (with_reducible first | exact HB.out | apply below_alloc | apply pw_below_drewN | apply below_drew1) | exact HB.out)) hb); clear HO206; clear HO214; clear HB; have HO206 := n0_; have HO214 := n1_; have HO219 := n2_; have HB := n3_; clear n0_ n1_ n2_ n3_; clear hb ho35; obtain ⟨Ao36, co36, eo36⟩ := Kd.R_slice HO219.out; subst eo36) | ((with_reducible refine gate_dst (N := 31) rfl ?_); (try (refine gate_guard (by rfl) ?_; dsimp only)); refine Kd.N_lit k39 _ 39 ?hg (N' := 31) ?hd (xs := ([(⟨1, 0, 0, 0, ([] : List Int)⟩ : S39), (⟨7, 0, 0, 0, y217⟩ : S39)] : List (S39))) (inner := [.int .u8 1, .int .u8 0, .int .i64 0, .int .i64 0, .slice none 0 0, .int .u8 7, .int .u8 0, .int .i64 0, .int .i64 0, .slice Ao36 y217.length co36]) (ok := (fun k_ => some k_ ≠ (.slice Ao25 t204.length co25 : Value).ownBlock ∧ some k_ ≠ (.slice Ao32 y212.length co32 : Value).ownBlock)) (okp := (fun k_ => some k_ ≠ (.slice Ao25 t204.length co25 : Value).ownBlock ∧ some k_ ≠ (.slice Ao32 y212.length co32 : Value).ownBlock)) ?hr ?hp (fun _ hk => hk) ((show ∀ k_, w34.heap.size ≤ k_ → (fun k_ => some k_ ≠ (.slice Ao25 t204.length co25 : Value).ownBlock ∧ some k_ ≠ (.slice Ao32 y212.length co32 : Value).ownBlock) k_ from fun k_ hk => ⟨Kd.fresh' (Kd.N_lt (by (with_reducible repeat (first | apply Kd.N_alloc | apply Kd.N_drewN | apply Kd.N_drew)); exact HO206.out)) k_ hk, Kd.fresh' (Kd.N_lt (by (with_reducible repeat (first | apply Kd.N_alloc | apply Kd.N_drewN | apply Kd.N_drew)); exact HO214.out)) k_ hk⟩) _ (Nat.le_refl _)) (Below.refl _ _) (Nat.le_refl _) (by simp) ?_; (case hd => rfl); (case hg => rfl); (case hr => first | (go_simp; done) | (go_simp; rfl)); (case hp => exact (Reps.c5 (show Kd.FK k39 _ _ (⟨1, 0, 0, 0, ([] : List Int)⟩ : S39) [.int .u8 1, .int .u8 0, .int .i64 0, .int .i64 0, .slice none 0 0] from (k39_mkF _ _ (⟨1, 0, 0, 0, ([] : List Int)⟩ : S39) (Nat.le_refl _) (Kd.F_nil _ _ _))) (Reps.c5 (show Kd.FK k39 _ _ (⟨7, 0, 0, 0, y217⟩ : S39) [.int .u8 7, .int .u8 0, .int .i64 0, .int .i64 0, .slice Ao36 y217.length co36] from (k39_mkF _ _ (⟨7, 0, 0, 0, y217⟩ : S39) (Kd.R_reads' (Kd.R_mono (ok' := (fun k_ => some k_ ≠ (.slice Ao25 t204.length co25 : Value).ownBlock ∧ some k_ ≠ (.slice Ao32 y212.length co32 : Value).ownBlock)) (Kd.R_apart' (Kd.R_apart' (HO219.out) (Kd.N_typed HO206.out) (by decide)) (Kd.N_typed HO214.out) (by decide)) (fun k_ hk => ⟨hk.1.2, hk.2⟩))).2.1 (Kd.R_F (Kd.R_mono (ok' := (fun k_ => some k_ ≠ (.slice Ao25 t204.length co25 : Value).ownBlock ∧ some k_ ≠ (.slice Ao32 y212.length co32 : Value).ownBlock)) (Kd.R_apart' (Kd.R_apart' (HO219.out) (Kd.N_typed HO206.out) (by decide)) (Kd.N_typed HO214.out) (by decide)) (fun k_ hk => ⟨hk.1.2, hk.2⟩))))) (Reps.none _ _)))); intro v221 w37 ho38 hb hg_ hnew_; clear hg_ hnew_; (first | rw [← Ny220.out] at ho38 | (simp only [Int.reduceToNat] at ho38; rw [← Ny220.out] at ho38)); have n0_ := Aside0.mk (Kd.N_elder' (by (with_reducible repeat (first | apply Kd.N_alloc | apply Kd.N_drewN | apply Kd.N_drew)); exact HO206.out) (Kd.N_base ho38) hb); have n1_ := Aside0.mk (Kd.N_elder' (by (with_reducible repeat (first | apply Kd.N_alloc | apply Kd.N_drewN | apply Kd.N_drew)); exact HO214.out) (Kd.N_base ho38) hb); have n2_ := Aside0.mk (Kd.N_lower ho38 (below_size (by repeat (first | (with_reducible first | exact HB.out | apply below_alloc | apply pw_below_drewN | apply below_drew1) | exact HB.out)))); have n3_ := Aside0.mk (below_step (by repeat (first | (with_reducible first | exact HB.out | apply below_alloc | apply pw_below_drewN | apply below_drew1) | exact HB.out)) hb); clear HO206; clear HO214; clear HB; clear HO219; have HO206 := n0_; have HO214 := n1_; have HO222 := n2_; have HB := n3_; clear n0_ n1_ n2_ n3_; clear hb ho38; obtain ⟨Ao39, co39, eo39⟩ := Kd.N_slice HO222.out; subst eo39) | ((with_reducible refine gate_callee (f := 15) rfl ?_); refine goesL_ (some 32) rfl rfl Try.func15 (by kernel_rfl) rfl #[.slice Ao39 y220.length co39] rfl (by (try simp only [List.map_toArray, List.map_cons, List.map_nil]); first | done | rfl | (simp only [List.length_drop, List.length_take]; rfl)) ?_; (with_reducible refine (check_Check.calls k _ _ y220 t223 t224 _ ?side1 ?side2 A4.out).mono ?_); (case side1 => repeat (first | exact (Kd.N_reads' HO222.out).2.2 | (with_reducible refine Kd.C_alloc ?_ _) | (with_reducible refine Kd.C_drewN ?_ _) | (with_reducible refine Kd.C_drew ?_))); (case side2 => exact (Kd.N_reads' HO222.out).2.1); rintro e w40 ⟨rfl, hb⟩; refine ⟨_, rfl, ?_⟩; have n0_ := Aside0.mk (Kd.N_below (by (with_reducible repeat (first | apply Kd.N_alloc | apply Kd.N_drewN | apply Kd.N_drew)); exact HO206.out) hb); have n1_ := Aside0.mk (Kd.N_below (by (with_reducible repeat (first | apply Kd.N_alloc | apply Kd.N_drewN | apply Kd.N_drew)); exact HO214.out) hb); have n2_ := Aside0.mk (Kd.N_below (by (with_reducible repeat (first | apply Kd.N_alloc | apply Kd.N_drewN | apply Kd.N_drew)); exact HO222.out) hb); have n3_ := Aside0.mk (below_step (by repeat (first | (with_reducible first | exact HB.out | apply below_alloc | apply pw_below_drewN | apply below_drew1) | exact HB.out)) hb); clear HO206; clear HO214; clear HO222; clear HB; have HO206 := n0_; have HO214 := n1_; have HO222 := n2_; have HB := n3_; clear n0_ n1_ n2_ n3_; (try clear hb); (try clear hb2); (try clear hk); (try clear hi)) | ((with_reducible refine gate_dst (N := 37) rfl ?_); (try (refine gate_guard (by rfl) ?_; dsimp only)); refine Kd.R_lit (Kd.int .i64) _ 3 ?hg (N := 37) ?hd (xs := ([0, 2] : List Int)) (inner := [.int .i64 0, .int .i64 2]) (ok := fun _ => True) (okp := fun _ => True) ?hr ?hp (fun _ hk => hk) trivial (Below.refl _ _) (Nat.le_refl _) (by simp) ?_; (case hd => rfl); (case hg => rfl); (case hr => first | (go_simp; done) | (go_simp; rfl)); (case hp => exact (Reps.one (show Kd.M (Kd.int .i64) _ _ _ 0 [.int .i64 0] from rfl) (Reps.one (show Kd.M (Kd.int .i64) _ _ _ 2 [.int .i64 2] from rfl) (Reps.none _ _)))); intro v226 w41 ho42 hb hg_ hnew_; clear hg_ hnew_; (first | rw [← Ny225.out] at ho42 | (simp only [Int.reduceToNat] at ho42; rw [← Ny225.out] at ho42)); have n0_ := Aside0.mk (Kd.N_elder' (by (with_reducible repeat (first | apply Kd.N_alloc | apply Kd.N_drewN | apply Kd.N_drew)); exact HO206.out) (Kd.R_base ho42) hb); have n1_ := Aside0.mk (Kd.N_elder' (by (with_reducible repeat (first | apply Kd.N_alloc | apply Kd.N_drewN | apply Kd.N_drew)); exact HO214.out) (Kd.R_base ho42) hb); have n2_ := Aside0.mk (Kd.N_elder' (by (with_reducible repeat (first | apply Kd.N_alloc | apply Kd.N_drewN | apply Kd.N_drew)); exact HO222.out) (Kd.R_base ho42) hb); have n3_ := Aside0.mk (Kd.R_lower ho42 (below_size (by repeat (first | (with_reducible first | exact HB.out | apply below_alloc | apply pw_below_drewN | apply below_drew1) | exact HB.out)))); have n4_ := Aside0.mk (below_step (by repeat (first | (with_reducible first | exact HB.out | apply below_alloc | apply pw_below_drewN | apply below_drew1) | exact HB.out)) hb); clear HO206; clear HO214; clear HO222; clear HB; have HO206 := n0_; have HO214 := n1_; have HO222 := n2_; have HO227 := n3_; have HB := n4_; clear n0_ n1_ n2_ n3_ n4_; clear hb ho42; obtain ⟨Ao43, co43, eo43⟩ := Kd.R_slice HO227.out; subst eo43) | ((with_reducible refine gate_dst (N := 39) rfl ?_); (try (refine gate_guard (by rfl) ?_; dsimp only)); refine Kd.R_lit (Kd.int .i64) _ 3 ?hg (N := 39) ?hd (xs := ([1] : List Int)) (inner := [.int .i64 1]) (ok := fun _ => True) (okp := fun _ => True) ?hr ?hp (fun _ hk => hk) trivial (Below.refl _ _) (Nat.le_refl _) (by simp) ?_; (case hd => rfl); (case hg => rfl); (case hr => first | (go_simp; done) | (go_simp; rfl)); (case hp => exact (Reps.one (show Kd.M (Kd.int .i64) _ _ _ 1 [.int .i64 1] from rfl) (Reps.none _ _))); intro v229 w44 ho45 hb hg_ hnew_; clear hg_ hnew_; (first | rw [← Ny228.out] at ho45 | (simp only [Int.reduceToNat] at ho45; rw [← Ny228.out] at ho45)); have n0_ := Aside0.mk (Kd.N_elder' (by (with_reducible repeat (first | apply Kd.N_alloc | apply Kd.N_drewN | apply Kd.N_drew)); exact HO206.out) (Kd.R_base ho45) hb); have n1_ := Aside0.mk (Kd.N_elder' (by (with_reducible repeat (first | apply Kd.N_alloc | apply Kd.N_drewN | apply Kd.N_drew)); exact HO214.out) (Kd.R_base ho45) hb); have n2_ := Aside0.mk (Kd.N_elder' (by (with_reducible repeat (first | apply Kd.N_alloc | apply Kd.N_drewN | apply Kd.N_drew)); exact HO222.out) (Kd.R_base ho45) hb); have n3_ := Aside0.mk (Kd.R_elder' (by (with_reducible repeat (first | apply Kd.R_alloc | apply Kd.R_drewN | apply Kd.R_drew)); exact HO227.out) (Kd.R_base ho45) hb); have n4_ := Aside0.mk (Kd.R_lower (Kd.R_new' ho45 (Kd.R_lt (by (with_reducible repeat (first | apply Kd.R_alloc | apply Kd.R_drewN | apply Kd.R_drew)); exact HO227.out))) (below_size (by repeat (first | (with_reducible first | exact HB.out | apply below_alloc | apply pw_below_drewN | apply below_drew1) | exact HB.out)))); have n5_ := Aside0.mk (below_step (by repeat (first | (with_reducible first | exact HB.out | apply below_alloc | apply pw_below_drewN | apply below_drew1) | exact HB.out)) hb); clear HO206; clear HO214; clear HO222; clear HO227; clear HB; have HO206 := n0_; have HO214 := n1_; have HO222 := n2_; have HO227 := n3_; have HO230 := n4_; have HB := n5_; clear n0_ n1_ n2_ n3_ n4_ n5_; clear hb ho45; obtain ⟨Ao46, co46, eo46⟩ := Kd.R_slice HO230.out; subst eo46) | ((with_reducible refine gate_dst (N := 41) rfl ?_); (try (refine gate_guard (by rfl) ?_; dsimp only)); refine Kd.N_lit k39 _ 39 ?hg (N' := 41) ?hd (xs := ([(⟨1, 0, 0, 0, ([] : List Int)⟩ : S39), (⟨4, 0, 0, 0, y225⟩ : S39), (⟨2, 0, 0, 0, y228⟩ : S39)] : List (S39))) (inner := [.int .u8 1, .int .u8 0, .int .i64 0, .int .i64 0, .slice none 0 0, .int .u8 4, .int .u8 0, .int .i64 0, .int .i64 0, .slice Ao43 y225.length co43, .int .u8 2, .int .u8 0, .int .i64 0, .int .i64 0, .slice Ao46 y228.length co46]) (ok := (fun k_ => some k_ ≠ (.slice Ao25 t204.length co25 : Value).ownBlock ∧ some k_ ≠ (.slice Ao32 y212.length co32 : Value).ownBlock ∧ some k_ ≠ (.slice Ao39 y220.length co39 : Value).ownBlock)) (okp := (fun k_ => some k_ ≠ (.slice Ao25 t204.length co25 : Value).ownBlock ∧ some k_ ≠ (.slice Ao32 y212.length co32 : Value).ownBlock ∧ some k_ ≠ (.slice Ao39 y220.length co39 : Value).ownBlock)) ?hr ?hp (fun _ hk => hk) ((show ∀ k_, w44.heap.size ≤ k_ → (fun k_ => some k_ ≠ (.slice Ao25 t204.length co25 : Value).ownBlock ∧ some k_ ≠ (.slice Ao32 y212.length co32 : Value).ownBlock ∧ some k_ ≠ (.slice Ao39 y220.length co39 : Value).ownBlock) k_ from fun k_ hk => ⟨Kd.fresh' (Kd.N_lt (by (with_reducible repeat (first | apply Kd.N_alloc | apply Kd.N_drewN | apply Kd.N_drew)); exact HO206.out)) k_ hk, Kd.fresh' (Kd.N_lt (by (with_reducible repeat (first | apply Kd.N_alloc | apply Kd.N_drewN | apply Kd.N_drew)); exact HO214.out)) k_ hk, Kd.fresh' (Kd.N_lt (by (with_reducible repeat (first | apply Kd.N_alloc | apply Kd.N_drewN | apply Kd.N_drew)); exact HO222.out)) k_ hk⟩) _ (Nat.le_refl _)) (Below.refl _ _) (Nat.le_refl _) (by simp) ?_; (case hd => rfl); (case hg => rfl); (case hr => first | (go_simp; done) | (go_simp; rfl)); (case hp => exact (Reps.c5 (show Kd.FK k39 _ _ (⟨1, 0, 0, 0, ([] : List Int)⟩ : S39) [.int .u8 1, .int .u8 0, .int .i64 0, .int .i64 0, .slice none 0 0] from (k39_mkF _ _ (⟨1, 0, 0, 0, ([] : List Int)⟩ : S39) (Nat.le_refl _) (Kd.F_nil _ _ _))) (Reps.c5 (show Kd.FK k39 _ _ (⟨4, 0, 0, 0, y225⟩ : S39) [.int .u8 4, .int .u8 0, .int .i64 0, .int .i64 0, .slice Ao43 y225.length co43] from (k39_mkF _ _ (⟨4, 0, 0, 0, y225⟩ : S39) (Kd.R_reads' (Kd.R_mono (ok' := (fun k_ => some k_ ≠ (.slice Ao25 t204.length co25 : Value).ownBlock ∧ some k_ ≠ (.slice Ao32 y212.length co32 : Value).ownBlock ∧ some k_ ≠ (.slice Ao39 y220.length co39 : Value).ownBlock)) (Kd.R_apart' (Kd.R_apart' (Kd.R_apart' (HO227.out) (Kd.N_typed HO206.out) (by decide)) (Kd.N_typed HO214.out) (by decide)) (Kd.N_typed HO222.out) (by decide)) (fun k_ hk => ⟨hk.1.1.2, ⟨hk.1.2, hk.2⟩⟩))).2.1 (Kd.R_F (Kd.R_mono (ok' := (fun k_ => some k_ ≠ (.slice Ao25 t204.length co25 : Value).ownBlock ∧ some k_ ≠ (.slice Ao32 y212.length co32 : Value).ownBlock ∧ some k_ ≠ (.slice Ao39 y220.length co39 : Value).ownBlock)) (Kd.R_apart' (Kd.R_apart' (Kd.R_apart' (HO227.out) (Kd.N_typed HO206.out) (by decide)) (Kd.N_typed HO214.out) (by decide)) (Kd.N_typed HO222.out) (by decide)) (fun k_ hk => ⟨hk.1.1.2, ⟨hk.1.2, hk.2⟩⟩))))) (Reps.c5 (show Kd.FK k39 _ _ (⟨2, 0, 0, 0, y228⟩ : S39) [.int .u8 2, .int .u8 0, .int .i64 0, .int .i64 0, .slice Ao46 y228.length co46] from (k39_mkF _ _ (⟨2, 0, 0, 0, y228⟩ : S39) (Kd.R_reads' (Kd.R_mono (ok' := (fun k_ => some k_ ≠ (.slice Ao25 t204.length co25 : Value).ownBlock ∧ some k_ ≠ (.slice Ao32 y212.length co32 : Value).ownBlock ∧ some k_ ≠ (.slice Ao39 y220.length co39 : Value).ownBlock)) (Kd.R_apart' (Kd.R_apart' (Kd.R_apart' (HO230.out) (Kd.N_typed HO206.out) (by decide)) (Kd.N_typed HO214.out) (by decide)) (Kd.N_typed HO222.out) (by decide)) (fun k_ hk => ⟨hk.1.1.2, ⟨hk.1.2, hk.2⟩⟩))).2.1 (Kd.R_F (Kd.R_mono (ok' := (fun k_ => some k_ ≠ (.slice Ao25 t204.length co25 : Value).ownBlock ∧ some k_ ≠ (.slice Ao32 y212.length co32 : Value).ownBlock ∧ some k_ ≠ (.slice Ao39 y220.length co39 : Value).ownBlock)) (Kd.R_apart' (Kd.R_apart' (Kd.R_apart' (HO230.out) (Kd.N_typed HO206.out) (by decide)) (Kd.N_typed HO214.out) (by decide)) (Kd.N_typed HO222.out) (by decide)) (fun k_ hk => ⟨hk.1.1.2, ⟨hk.1.2, hk.2⟩⟩))))) (Reps.none _ _))))); intro v232 w47 ho48 hb hg_ hnew_; clear hg_ hnew_; (first | rw [← Ny231.out] at ho48 | (simp only [Int.reduceToNat] at ho48; rw [← Ny231.out] at ho48)); have n0_ := Aside0.mk (Kd.N_elder' (by (with_reducible repeat (first | apply Kd.N_alloc | apply Kd.N_drewN | apply Kd.N_drew)); exact HO206.out) (Kd.N_base ho48) hb); have n1_ := Aside0.mk (Kd.N_elder' (by (with_reducible repeat (first | apply Kd.N_alloc | apply Kd.N_drewN | apply Kd.N_drew)); exact HO214.out) (Kd.N_base ho48) hb); have n2_ := Aside0.mk (Kd.N_elder' (by (with_reducible repeat (first | apply Kd.N_alloc | apply Kd.N_drewN | apply Kd.N_drew)); exact HO222.out) (Kd.N_base ho48) hb); have n3_ := Aside0.mk (Kd.N_lower ho48 (below_size (by repeat (first | (with_reducible first | exact HB.out | apply below_alloc | apply pw_below_drewN | apply below_drew1) | exact HB.out)))); have n4_ := Aside0.mk (below_step (by repeat (first | (with_reducible first | exact HB.out | apply below_alloc | apply pw_below_drewN | apply below_drew1) | exact HB.out)) hb); clear HO206; clear HO214; clear HO222; clear HB; clear HO227; clear HO230; have HO206 := n0_; have HO214 := n1_; have HO222 := n2_; have HO233 := n3_; have HB := n4_; clear n0_ n1_ n2_ n3_ n4_; clear hb ho48; obtain ⟨Ao49, co49, eo49⟩ := Kd.N_slice HO233.out; subst eo49) | ((with_reducible refine gate_callee (f := 15) rfl ?_); refine goesL_ (some 42) rfl rfl Try.func15 (by kernel_rfl) rfl #[.slice Ao49 y231.length co49] rfl (by (try simp only [List.map_toArray, List.map_cons, List.map_nil]); first | done | rfl | (simp only [List.length_drop, List.length_take]; rfl)) ?_; (with_reducible refine (check_Check.calls k _ _ y231 t234 t235 _ ?side1 ?side2 A5.out).mono ?_); (case side1 => repeat (first | exact (Kd.N_reads' HO233.out).2.2 | (with_reducible refine Kd.C_alloc ?_ _) | (with_reducible refine Kd.C_drewN ?_ _) | (with_reducible refine Kd.C_drew ?_))); (case side2 => exact (Kd.N_reads' HO233.out).2.1); rintro e w50 ⟨rfl, hb⟩; refine ⟨_, rfl, ?_⟩; have n0_ := Aside0.mk (Kd.N_below (by (with_reducible repeat (first | apply Kd.N_alloc | apply Kd.N_drewN | apply Kd.N_drew)); exact HO206.out) hb); have n1_ := Aside0.mk (Kd.N_below (by (with_reducible repeat (first | apply Kd.N_alloc | apply Kd.N_drewN | apply Kd.N_drew)); exact HO214.out) hb); have n2_ := Aside0.mk (Kd.N_below (by (with_reducible repeat (first | apply Kd.N_alloc | apply Kd.N_drewN | apply Kd.N_drew)); exact HO222.out) hb); have n3_ := Aside0.mk (Kd.N_below (by (with_reducible repeat (first | apply Kd.N_alloc | apply Kd.N_drewN | apply Kd.N_drew)); exact HO233.out) hb); have n4_ := Aside0.mk (below_step (by repeat (first | (with_reducible first | exact HB.out | apply below_alloc | apply pw_below_drewN | apply below_drew1) | exact HB.out)) hb); clear HO206; clear HO214; clear HO222; clear HO233; clear HB; have HO206 := n0_; have HO214 := n1_; have HO222 := n2_; have HO233 := n3_; have HB := n4_; clear n0_ n1_ n2_ n3_ n4_; (try clear hb); (try clear hb2); (try clear hk); (try clear hi)) | ((with_reducible refine gate_dst (N := 47) rfl ?_); (try (refine gate_guard (by rfl) ?_; dsimp only)); refine Kd.N_lit k39 _ 39 ?hg (N' := 47) ?hd (xs := ([(⟨2, 4, 0, 0, ([] : List Int)⟩ : S39)] : List (S39))) (inner := [.int .u8 2, .int .u8 4, .int .i64 0, .int .i64 0, .slice none 0 0]) (ok := (fun k_ => some k_ ≠ (.slice Ao25 t204.length co25 : Value).ownBlock ∧ some k_ ≠ (.slice Ao32 y212.length co32 : Value).ownBlock ∧ some k_ ≠ (.slice Ao39 y220.length co39 : Value).ownBlock ∧ some k_ ≠ (.slice Ao49 y231.length co49 : Value).ownBlock)) (okp := (fun k_ => some k_ ≠ (.slice Ao25 t204.length co25 : Value).ownBlock ∧ some k_ ≠ (.slice Ao32 y212.length co32 : Value).ownBlock ∧ some k_ ≠ (.slice Ao39 y220.length co39 : Value).ownBlock ∧ some k_ ≠ (.slice Ao49 y231.length co49 : Value).ownBlock)) ?hr ?hp (fun _ hk => hk) ((show ∀ k_, w50.heap.size ≤ k_ → (fun k_ => some k_ ≠ (.slice Ao25 t204.length co25 : Value).ownBlock ∧ some k_ ≠ (.slice Ao32 y212.length co32 : Value).ownBlock ∧ some k_ ≠ (.slice Ao39 y220.length co39 : Value).ownBlock ∧ some k_ ≠ (.slice Ao49 y231.length co49 : Value).ownBlock) k_ from fun k_ hk => ⟨Kd.fresh' (Kd.N_lt (by (with_reducible repeat (first | apply Kd.N_alloc | apply Kd.N_drewN | apply Kd.N_drew)); exact HO206.out)) k_ hk, Kd.fresh' (Kd.N_lt (by (with_reducible repeat (first | apply Kd.N_alloc | apply Kd.N_drewN | apply Kd.N_drew)); exact HO214.out)) k_ hk, Kd.fresh' (Kd.N_lt (by (with_reducible repeat (first | apply Kd.N_alloc | apply Kd.N_drewN | apply Kd.N_drew)); exact HO222.out)) k_ hk, Kd.fresh' (Kd.N_lt (by (with_reducible repeat (first | apply Kd.N_alloc | apply Kd.N_drewN | apply Kd.N_drew)); exact HO233.out)) k_ hk⟩) _ (Nat.le_refl _)) (Below.refl _ _) (Nat.le_refl _) (by simp) ?_; (case hd => rfl); (case hg => rfl); (case hr => first | (go_simp; done) | (go_simp; rfl)); (case hp => exact (Reps.c5 (show Kd.FK k39 _ _ (⟨2, 4, 0, 0, ([] : List Int)⟩ : S39) [.int .u8 2, .int .u8 4, .int .i64 0, .int .i64 0, .slice none 0 0] from (k39_mkF _ _ (⟨2, 4, 0, 0, ([] : List Int)⟩ : S39) (Nat.le_refl _) (Kd.F_nil _ _ _))) (Reps.none _ _))); intro v237 w51 ho52 hb hg_ hnew_; clear hg_ hnew_; (first | rw [← Ny236.out] at ho52 | (simp only [Int.reduceToNat] at ho52; rw [← Ny236.out] at ho52)); have n0_ := Aside0.mk (Kd.N_elder' (by (with_reducible repeat (first | apply Kd.N_alloc | apply Kd.N_drewN | apply Kd.N_drew)); exact HO206.out) (Kd.N_base ho52) hb); have n1_ := Aside0.mk (Kd.N_elder' (by (with_reducible repeat (first | apply Kd.N_alloc | apply Kd.N_drewN | apply Kd.N_drew)); exact HO214.out) (Kd.N_base ho52) hb); have n2_ := Aside0.mk (Kd.N_elder' (by (with_reducible repeat (first | apply Kd.N_alloc | apply Kd.N_drewN | apply Kd.N_drew)); exact HO222.out) (Kd.N_base ho52) hb); have n3_ := Aside0.mk (Kd.N_elder' (by (with_reducible repeat (first | apply Kd.N_alloc | apply Kd.N_drewN | apply Kd.N_drew)); exact HO233.out) (Kd.N_base ho52) hb); have n4_ := Aside0.mk (Kd.N_lower ho52 (below_size (by repeat (first | (with_reducible first | exact HB.out | apply below_alloc | apply pw_below_drewN | apply below_drew1) | exact HB.out)))); have n5_ := Aside0.mk (below_step (by repeat (first | (with_reducible first | exact HB.out | apply below_alloc | apply pw_below_drewN | apply below_drew1) | exact HB.out)) hb); clear HO206; clear HO214; clear HO222; clear HO233; clear HB; have HO206 := n0_; have HO214 := n1_; have HO222 := n2_; have HO233 := n3_; have HO238 := n4_; have HB := n5_; clear n0_ n1_ n2_ n3_ n4_ n5_; clear hb ho52; obtain ⟨Ao53, co53, eo53⟩ := Kd.N_slice HO238.out; subst eo53) | ((with_reducible refine gate_callee (f := 15) rfl ?_); refine goesL_ (some 48) rfl rfl Try.func15 (by kernel_rfl) rfl #[.slice Ao53 y236.length co53] rfl (by (try simp only [List.map_toArray, List.map_cons, List.map_nil]); first | done | rfl | (simp only [List.length_drop, List.length_take]; rfl)) ?_; (with_reducible refine (check_Check.calls k _ _ y236 t239 t240 _ ?side1 ?side2 A6.out).mono ?_); (case side1 => repeat (first | exact (Kd.N_reads' HO238.out).2.2 | (with_reducible refine Kd.C_alloc ?_ _) | (with_reducible refine Kd.C_drewN ?_ _) | (with_reducible refine Kd.C_drew ?_))); (case side2 => exact (Kd.N_reads' HO238.out).2.1); rintro e w54 ⟨rfl, hb⟩; refine ⟨_, rfl, ?_⟩; have n0_ := Aside0.mk (Kd.N_below (by (with_reducible repeat (first | apply Kd.N_alloc | apply Kd.N_drewN | apply Kd.N_drew)); exact HO206.out) hb); have n1_ := Aside0.mk (Kd.N_below (by (with_reducible repeat (first | apply Kd.N_alloc | apply Kd.N_drewN | apply Kd.N_drew)); exact HO214.out) hb); have n2_ := Aside0.mk (Kd.N_below (by (with_reducible repeat (first | apply Kd.N_alloc | apply Kd.N_drewN | apply Kd.N_drew)); exact HO222.out) hb); have n3_ := Aside0.mk (Kd.N_below (by (with_reducible repeat (first | apply Kd.N_alloc | apply Kd.N_drewN | apply Kd.N_drew)); exact HO233.out) hb); have n4_ := Aside0.mk (Kd.N_below (by (with_reducible repeat (first | apply Kd.N_alloc | apply Kd.N_drewN | apply Kd.N_drew)); exact HO238.out) hb); have n5_ := Aside0.mk (below_step (by repeat (first | (with_reducible first | exact HB.out | apply below_alloc | apply pw_below_drewN | apply below_drew1) | exact HB.out)) hb); clear HO206; clear HO214; clear HO222; clear HO233; clear HO238; clear HB; have HO206 := n0_; have HO214 := n1_; have HO222 := n2_; have HO233 := n3_; have HO238 := n4_; have HB := n5_; clear n0_ n1_ n2_ n3_ n4_ n5_; (try clear hb); (try clear hb2); (try clear hk); (try clear hi)) | ((with_reducible refine gate_callee (f := 20) rfl ?_); refine goesL_ (some 52) rfl rfl Try.func20 (by kernel_rfl) rfl #[] rfl (by (try simp only [List.map_toArray, List.map_cons, List.map_nil]); first | done | rfl | (simp only [List.length_drop, List.length_take]; rfl)) ?_; (with_reducible refine (tailracekit_Race.calls  t241 _ A7.out).mono ?_); rintro e w55 ⟨v242, rfl, ho0, hb⟩; refine ⟨_, rfl, ?_⟩; have n0_ := Aside0.mk (Kd.N_elder' (by (with_reducible repeat (first | apply Kd.N_alloc | apply Kd.N_drewN | apply Kd.N_drew)); exact HO206.out) (Kd.N_base ho0) hb); have n1_ := Aside0.mk (Kd.N_elder' (by (with_reducible repeat (first | apply Kd.N_alloc | apply Kd.N_drewN | apply Kd.N_drew)); exact HO214.out) (Kd.N_base ho0) hb); have n2_ := Aside0.mk (Kd.N_elder' (by (with_reducible repeat (first | apply Kd.N_alloc | apply Kd.N_drewN | apply Kd.N_drew)); exact HO222.out) (Kd.N_base ho0) hb); have n3_ := Aside0.mk (Kd.N_elder' (by (with_reducible repeat (first | apply Kd.N_alloc | apply Kd.N_drewN | apply Kd.N_drew)); exact HO233.out) (Kd.N_base ho0) hb); have n4_ := Aside0.mk (Kd.N_elder' (by (with_reducible repeat (first | apply Kd.N_alloc | apply Kd.N_drewN | apply Kd.N_drew)); exact HO238.out) (Kd.N_base ho0) hb); have n5_ := Aside0.mk (Kd.N_lower (Kd.N_mono (ok' := fun k_ => some k_ ≠ (.slice Ao25 t204.length co25 : Value).ownBlock ∧ some k_ ≠ (.slice Ao32 y212.length co32 : Value).ownBlock ∧ some k_ ≠ (.slice Ao39 y220.length co39 : Value).ownBlock ∧ some k_ ≠ (.slice Ao49 y231.length co49 : Value).ownBlock ∧ some k_ ≠ (.slice Ao53 y236.length co53 : Value).ownBlock) ho0 (fun k_ hk_ => ⟨(Kd.fresh' (Kd.N_lt (by (with_reducible repeat (first | apply Kd.N_alloc | apply Kd.N_drewN | apply Kd.N_drew)); exact HO206.out)) k_ hk_), (Kd.fresh' (Kd.N_lt (by (with_reducible repeat (first | apply Kd.N_alloc | apply Kd.N_drewN | apply Kd.N_drew)); exact HO214.out)) k_ hk_), (Kd.fresh' (Kd.N_lt (by (with_reducible repeat (first | apply Kd.N_alloc | apply Kd.N_drewN | apply Kd.N_drew)); exact HO222.out)) k_ hk_), (Kd.fresh' (Kd.N_lt (by (with_reducible repeat (first | apply Kd.N_alloc | apply Kd.N_drewN | apply Kd.N_drew)); exact HO233.out)) k_ hk_), (Kd.fresh' (Kd.N_lt (by (with_reducible repeat (first | apply Kd.N_alloc | apply Kd.N_drewN | apply Kd.N_drew)); exact HO238.out)) k_ hk_)⟩)) (below_size (by repeat (first | (with_reducible first | exact HB.out | apply below_alloc | apply pw_below_drewN | apply below_drew1) | exact HB.out)))); have n6_ := Aside0.mk (below_step (by repeat (first | (with_reducible first | exact HB.out | apply below_alloc | apply pw_below_drewN | apply below_drew1) | exact HB.out)) hb); clear HO206; clear HO214; clear HO222; clear HO233; clear HO238; clear HB; have HO206 := n0_; have HO214 := n1_; have HO222 := n2_; have HO233 := n3_; have HO238 := n4_; have HO243 := n5_; have HB := n6_; clear n0_ n1_ n2_ n3_ n4_ n5_ n6_; (try clear hb); (try clear hb2); (try clear hk); (try clear hi); (try clear ho0); obtain ⟨Ao56, co56, eo56⟩ := Kd.N_slice HO243.out; subst eo56) | ((with_reducible refine gate_callee (f := 17) rfl ?_); refine goesL_ (some 53) rfl rfl Try.func17 (by kernel_rfl) rfl #[.slice Ao56 t241.length co56] rfl (by (try simp only [List.map_toArray, List.map_cons, List.map_nil]); first | done | rfl | (simp only [List.length_drop, List.length_take]; rfl)) ?_; (with_reducible refine (check_Order.calls k _ _ t241 t244 t245 _ ?side1 ?side2 A8.out).mono ?_); (case side1 => repeat (first | exact (Kd.N_reads' HO243.out).2.2 | (with_reducible refine Kd.C_alloc ?_ _) | (with_reducible refine Kd.C_drewN ?_ _) | (with_reducible refine Kd.C_drew ?_))); (case side2 => exact (Kd.N_reads' HO243.out).2.1); rintro e w57 ⟨v246, rfl, ho0, hb⟩; refine ⟨_, rfl, ?_⟩; have n0_ := Aside0.mk (Kd.N_elder' (by (with_reducible repeat (first | apply Kd.N_alloc | apply Kd.N_drewN | apply Kd.N_drew)); exact HO206.out) (Kd.R_base ho0) hb); have n1_ := Aside0.mk (Kd.N_elder' (by (with_reducible repeat (first | apply Kd.N_alloc | apply Kd.N_drewN | apply Kd.N_drew)); exact HO214.out) (Kd.R_base ho0) hb); have n2_ := Aside0.mk (Kd.N_elder' (by (with_reducible repeat (first | apply Kd.N_alloc | apply Kd.N_drewN | apply Kd.N_drew)); exact HO222.out) (Kd.R_base ho0) hb); have n3_ := Aside0.mk (Kd.N_elder' (by (with_reducible repeat (first | apply Kd.N_alloc | apply Kd.N_drewN | apply Kd.N_drew)); exact HO233.out) (Kd.R_base ho0) hb); have n4_ := Aside0.mk (Kd.N_elder' (by (with_reducible repeat (first | apply Kd.N_alloc | apply Kd.N_drewN | apply Kd.N_drew)); exact HO238.out) (Kd.R_base ho0) hb); have n5_ := Aside0.mk (Kd.N_elder' (by (with_reducible repeat (first | apply Kd.N_alloc | apply Kd.N_drewN | apply Kd.N_drew)); exact HO243.out) (Kd.R_base ho0) hb); have n6_ := Aside0.mk (Kd.R_lower ho0 (below_size (by repeat (first | (with_reducible first | exact HB.out | apply below_alloc | apply pw_below_drewN | apply below_drew1) | exact HB.out)))); have n7_ := Aside0.mk (below_step (by repeat (first | (with_reducible first | exact HB.out | apply below_alloc | apply pw_below_drewN | apply below_drew1) | exact HB.out)) hb); clear HO206; clear HO214; clear HO222; clear HO233; clear HO238; clear HO243; clear HB; have HO206 := n0_; have HO214 := n1_; have HO222 := n2_; have HO233 := n3_; have HO238 := n4_; have HO243 := n5_; have HO247 := n6_; have HB := n7_; clear n0_ n1_ n2_ n3_ n4_ n5_ n6_ n7_; (try clear hb); (try clear hb2); (try clear hk); (try clear hi); (try clear ho0)) | ((with_reducible refine gate_callee (f := 23) rfl ?_); refine goesL_ (some 57) rfl rfl Try.func23 (by kernel_rfl) rfl #[] rfl (by (try simp only [List.map_toArray, List.map_cons, List.map_nil]); first | done | rfl | (simp only [List.length_drop, List.length_take]; rfl)) ?_; (with_reducible refine (tailracelaw10_deeper.calls  t248 _ A9.out).mono ?_); rintro e w58 ⟨v249, rfl, ho0, hb⟩; refine ⟨_, rfl, ?_⟩; have n0_ := Aside0.mk (Kd.N_elder' (by (with_reducible repeat (first | apply Kd.N_alloc | apply Kd.N_drewN | apply Kd.N_drew)); exact HO206.out) (Kd.N_base ho0) hb); have n1_ := Aside0.mk (Kd.N_elder' (by (with_reducible repeat (first | apply Kd.N_alloc | apply Kd.N_drewN | apply Kd.N_drew)); exact HO214.out) (Kd.N_base ho0) hb); have n2_ := Aside0.mk (Kd.N_elder' (by (with_reducible repeat (first | apply Kd.N_alloc | apply Kd.N_drewN | apply Kd.N_drew)); exact HO222.out) (Kd.N_base ho0) hb); have n3_ := Aside0.mk (Kd.N_elder' (by (with_reducible repeat (first | apply Kd.N_alloc | apply Kd.N_drewN | apply Kd.N_drew)); exact HO233.out) (Kd.N_base ho0) hb); have n4_ := Aside0.mk (Kd.N_elder' (by (with_reducible repeat (first | apply Kd.N_alloc | apply Kd.N_drewN | apply Kd.N_drew)); exact HO238.out) (Kd.N_base ho0) hb); have n5_ := Aside0.mk (Kd.N_elder' (by (with_reducible repeat (first | apply Kd.N_alloc | apply Kd.N_drewN | apply Kd.N_drew)); exact HO243.out) (Kd.N_base ho0) hb); have n6_ := Aside0.mk (Kd.R_below (by (with_reducible repeat (first | apply Kd.R_alloc | apply Kd.R_drewN | apply Kd.R_drew)); exact HO247.out) hb); have n7_ := Aside0.mk (Kd.N_lower (Kd.N_mono (ok' := fun k_ => some k_ ≠ (.slice Ao25 t204.length co25 : Value).ownBlock ∧ some k_ ≠ (.slice Ao32 y212.length co32 : Value).ownBlock ∧ some k_ ≠ (.slice Ao39 y220.length co39 : Value).ownBlock ∧ some k_ ≠ (.slice Ao49 y231.length co49 : Value).ownBlock ∧ some k_ ≠ (.slice Ao53 y236.length co53 : Value).ownBlock ∧ some k_ ≠ (.slice Ao56 t241.length co56 : Value).ownBlock ∧ some k_ ≠ (v246 : Value).ownBlock) ho0 (fun k_ hk_ => ⟨(Kd.fresh' (Kd.N_lt (by (with_reducible repeat (first | apply Kd.N_alloc | apply Kd.N_drewN | apply Kd.N_drew)); exact HO206.out)) k_ hk_), (Kd.fresh' (Kd.N_lt (by (with_reducible repeat (first | apply Kd.N_alloc | apply Kd.N_drewN | apply Kd.N_drew)); exact HO214.out)) k_ hk_), (Kd.fresh' (Kd.N_lt (by (with_reducible repeat (first | apply Kd.N_alloc | apply Kd.N_drewN | apply Kd.N_drew)); exact HO222.out)) k_ hk_), (Kd.fresh' (Kd.N_lt (by (with_reducible repeat (first | apply Kd.N_alloc | apply Kd.N_drewN | apply Kd.N_drew)); exact HO233.out)) k_ hk_), (Kd.fresh' (Kd.N_lt (by (with_reducible repeat (first | apply Kd.N_alloc | apply Kd.N_drewN | apply Kd.N_drew)); exact HO238.out)) k_ hk_), (Kd.fresh' (Kd.N_lt (by (with_reducible repeat (first | apply Kd.N_alloc | apply Kd.N_drewN | apply Kd.N_drew)); exact HO243.out)) k_ hk_), (Kd.fresh' (Kd.R_lt (by (with_reducible repeat (first | apply Kd.R_alloc | apply Kd.R_drewN | apply Kd.R_drew)); exact HO247.out)) k_ hk_)⟩)) (below_size (by repeat (first | (with_reducible first | exact HB.out | apply below_alloc | apply pw_below_drewN | apply below_drew1) | exact HB.out)))); have n8_ := Aside0.mk (below_step (by repeat (first | (with_reducible first | exact HB.out | apply below_alloc | apply pw_below_drewN | apply below_drew1) | exact HB.out)) hb); clear HO206; clear HO214; clear HO222; clear HO233; clear HO238; clear HO243; clear HO247; clear HB; have HO206 := n0_; have HO214 := n1_; have HO222 := n2_; have HO233 := n3_; have HO238 := n4_; have HO243 := n5_; have HO247 := n6_; have HO250 := n7_; have HB := n8_; clear n0_ n1_ n2_ n3_ n4_ n5_ n6_ n7_ n8_; (try clear hb); (try clear hb2); (try clear hk); (try clear hi); (try clear ho0); obtain ⟨Ao59, co59, eo59⟩ := Kd.N_slice HO250.out; subst eo59) | ((with_reducible refine gate_callee (f := 15) rfl ?_); refine goesL_ (some 58) rfl rfl Try.func15 (by kernel_rfl) rfl #[.slice Ao59 t248.length co59] rfl (by (try simp only [List.map_toArray, List.map_cons, List.map_nil]); first | done | rfl | (simp only [List.length_drop, List.length_take]; rfl)) ?_; (with_reducible refine (check_Check.calls k _ _ t248 t251 t252 _ ?side1 ?side2 A10.out).mono ?_); (case side1 => repeat (first | exact (Kd.N_reads' HO250.out).2.2 | (with_reducible refine Kd.C_alloc ?_ _) | (with_reducible refine Kd.C_drewN ?_ _) | (with_reducible refine Kd.C_drew ?_))); (case side2 => exact (Kd.N_reads' HO250.out).2.1); rintro e w60 ⟨rfl, hb⟩; refine ⟨_, rfl, ?_⟩; have n0_ := Aside0.mk (Kd.N_below (by (with_reducible repeat (first | apply Kd.N_alloc | apply Kd.N_drewN | apply Kd.N_drew)); exact HO206.out) hb); have n1_ := Aside0.mk (Kd.N_below (by (with_reducible repeat (first | apply Kd.N_alloc | apply Kd.N_drewN | apply Kd.N_drew)); exact HO214.out) hb); have n2_ := Aside0.mk (Kd.N_below (by (with_reducible repeat (first | apply Kd.N_alloc | apply Kd.N_drewN | apply Kd.N_drew)); exact HO222.out) hb); have n3_ := Aside0.mk (Kd.N_below (by (with_reducible repeat (first | apply Kd.N_alloc | apply Kd.N_drewN | apply Kd.N_drew)); exact HO233.out) hb); have n4_ := Aside0.mk (Kd.N_below (by (with_reducible repeat (first | apply Kd.N_alloc | apply Kd.N_drewN | apply Kd.N_drew)); exact HO238.out) hb); have n5_ := Aside0.mk (Kd.N_below (by (with_reducible repeat (first | apply Kd.N_alloc | apply Kd.N_drewN | apply Kd.N_drew)); exact HO243.out) hb); have n6_ := Aside0.mk (Kd.R_below (by (with_reducible repeat (first | apply Kd.R_alloc | apply Kd.R_drewN | apply Kd.R_drew)); exact HO247.out) hb); have n7_ := Aside0.mk (Kd.N_below (by (with_reducible repeat (first | apply Kd.N_alloc | apply Kd.N_drewN | apply Kd.N_drew)); exact HO250.out) hb); have n8_ := Aside0.mk (below_step (by repeat (first | (with_reducible first | exact HB.out | apply below_alloc | apply pw_below_drewN | apply below_drew1) | exact HB.out)) hb); clear HO206; clear HO214; clear HO222; clear HO233; clear HO238; clear HO243; clear HO247; clear HO250; clear HB; have HO206 := n0_; have HO214 := n1_; have HO222 := n2_; have HO233 := n3_; have HO238 := n4_; have HO243 := n5_; have HO247 := n6_; have HO250 := n7_; have HB := n8_; clear n0_ n1_ n2_ n3_ n4_ n5_ n6_ n7_ n8_; (try clear hb); (try clear hb2); (try clear hk); (try clear hi); obtain ⟨Ao61, co61, eo61⟩ := Kd.R_slice HO247.out; subst eo61))
                            go_ret
                            exact ⟨by first | rfl | (simp [errW_none, errW_some] <;> rfl) | (simp [*, errW_none, errW_some] <;> rfl), by repeat (first | (with_reducible first | exact HB.out | apply below_alloc | apply pw_below_drewN | apply below_drew1) | exact HB.out)⟩
                          · rw [if_neg c23] at H
                            exact absurd (Option.some.inj H) (by rw [hr]; decide)
                        · rw [if_neg c22] at H
                          exact absurd (Option.some.inj H) (by rw [hr]; decide)
                      · rw [if_neg c21] at H
                        exact absurd (Option.some.inj H) (by rw [hr]; decide)
                    · rw [if_neg c20] at H
                      exact absurd (Option.some.inj H) (by rw [hr]; decide)
                  · rw [if_neg c19] at H
                    exact absurd (Option.some.inj H) (by rw [hr]; decide)
                · rw [if_neg c18] at H
                  exact absurd (Option.some.inj H) (by rw [hr]; decide)
              · rw [if_neg c17] at H
                exact absurd (Option.some.inj H) (by rw [hr]; decide)
            · rw [if_neg c16] at H
              exact absurd (Option.some.inj H) (by rw [hr]; decide)
          · rw [if_neg c15] at H
            exact absurd (Option.some.inj H) (by rw [hr]; decide)
        · rw [if_neg c14] at H
          exact absurd (Option.some.inj H) (by rw [hr]; decide)
      · rw [if_neg c13] at H
        exact absurd (Option.some.inj H) (by rw [hr]; decide)
    · rw [if_neg c12] at H
      exact absurd (Option.some.inj H) (by rw [hr]; decide)
  · rw [if_neg c11] at H
    exact absurd (Option.some.inj H) (by rw [hr]; decide)
def works0.Pure : Prop := ∃ k, works0.f k  = some true
theorem works0.walk (P : works0.Pure)  (w : World)  :
    Calls Try.prog 10 #[] w fun e w' => e = .returned (.bool true) ∧ Below w.heap.size w w' := by
  obtain ⟨k, h⟩ := P
  refine (works0.calls k  true w h rfl).mono ?_
  rintro e w' ⟨rfl, hd⟩
  exact ⟨rfl, hd⟩
end Go.Proofs.Ytnjlonenckifpaa.X
namespace Go.Proofs.Ytnjlonenckifpaa.X
set_option linter.unusedVariables false
set_option linter.unusedSimpArgs false
open Go.RowKit Go.Proofs.YtnjlonenckifpaaW.PrintWords Go.Proofs.YtnjlonenckifpaaW.PrintLast Go.Proofs.YtnjlonenckifpaaW.PrintMore
theorem Ev.one {α : Type} {g : Nat → Option α} {a b : α} (h : Ev g a) (k : Ev g b) : a = b := by
  obtain ⟨m, h⟩ := h
  obtain ⟨n, k⟩ := k
  have := (h (m + n) (by omega)).symm.trans (k (m + n) (by omega))
  exact Option.some.inj this
theorem check_is (G : List S39) (hs : small G = true) (k : Nat) (v : Int × Int) (h : tailraceref10_Check.f k G = some v) : checkI G = v :=
  Ev.one (rcheck_ev G hs) (Ev.of (tailraceref10_Check.mono G) h)
theorem check_of (G : List S39) (hs : small G = true) (k : Nat) (v : Int × Int) (h : tailraceref10_Check.f k G = some v) : Ev (fun k => check_Check.f k G) v := by
  rw [← check_is G hs k v h]
  exact check_ev G hs
def strG : List S39 := (tailracekit_Straight.f).getD []
def raceG : List S39 := (tailracekit_Race.f).getD []
def deepG : List S39 := (tailracelaw10_deeper.f).getD []
theorem race_ev : ∃ l : List Int, l.length = 10 ∧ Ev (fun k => check_Order.f k raceG) (l, 0) := by
  have hs : small raceG = true := by kernel_rfl
  have h := check_is raceG hs 600 (10, 0) (by kernel_rfl)
  have e := order_ev raceG hs
  unfold orderI at e
  rw [h] at e
  refine ⟨orderL raceG, ?_, e⟩
  have := ((check_sane (G := raceG) (by rw [h])).order hs).2
  rw [this]
  rfl
theorem works0_ev : Ev works0.f true := by
  obtain ⟨l, hl, hr⟩ := race_ev
  unfold works0.f
  refine Ev.bind (a := strG) ⟨0, fun _ _ => rfl⟩ ?_
  refine Ev.bind (check_of strG (by kernel_rfl) 300 (2, 0) (by kernel_rfl)) ?_
  refine Ev.bind (check_of _ (by kernel_rfl) 300 (0, 100) (by kernel_rfl)) ?_
  refine Ev.bind (check_of _ (by kernel_rfl) 300 (1, 101) (by kernel_rfl)) ?_
  refine Ev.bind (check_of _ (by kernel_rfl) 300 (1, 102) (by kernel_rfl)) ?_
  refine Ev.bind (check_of _ (by kernel_rfl) 300 (0, 130) (by kernel_rfl)) ?_
  refine Ev.bind (a := raceG) ⟨0, fun _ _ => rfl⟩ ?_
  refine Ev.bind hr ?_
  refine Ev.bind (a := deepG) ⟨0, fun _ _ => rfl⟩ ?_
  refine Ev.bind (check_of deepG (by kernel_rfl) 300 (1, 102) (by kernel_rfl)) ?_
  simp only [hl]
  exact Ev.now _
def tailracelaw10_works.f : Option Bool := some true
theorem tailracelaw10_works.calls (r : Bool) (w : World) (h : tailracelaw10_works.f = some r) : Calls Try.prog 10 #[] w fun e w' => e = .returned (.bool r) ∧ Below w.heap.size w w' := by
  obtain rfl : true = r := Option.some.inj h
  exact works0.walk works0_ev.rounds w
end Go.Proofs.Ytnjlonenckifpaa.X
namespace Go.Proofs.Ytnjlonenckifpaa.X
set_option linter.unusedVariables false
set_option linter.unusedSimpArgs false
open Go.RowKit Go.Proofs.YtnjlonenckifpaaW.PrintWords Go.Proofs.YtnjlonenckifpaaW.PrintLast Go.Proofs.YtnjlonenckifpaaW.PrintMore
theorem ins_l0 (G : List S39) (m : Int) (hG : G.length ≤ 64) : ∀ (d i : Nat), i + d = G.length → (∀ j, j < i → ((rd_T39 G (j : Int)).f4.length : Int) ≤ m) →
    ∃ r, Ev (fun k => tailracekit_Ins.l0 k G m (i : Int)) r ∧ (r = true → ∀ j, j < G.length → ((rd_T39 G (j : Int)).f4.length : Int) ≤ m)
  | 0, i, hi, hb => ⟨true, Ev.step (f := fun _ => some true) (fun k => by rw [tailracekit_Ins.l0, if_neg (by omega)]) (Ev.now _), fun _ j hj => hb j (by omega)⟩
  | d + 1, i, hi, hb => by
    by_cases h : ((rd_T39 G (i : Int)).f4.length : Int) > m
    · exact ⟨false, Ev.step (f := fun _ => some false) (fun k => by rw [tailracekit_Ins.l0, if_pos (by omega), if_pos (by omega), if_pos h]) (Ev.now _), fun h => absurd h (by simp)⟩
    · obtain ⟨r, h1, h2⟩ := ins_l0 G m hG d (i + 1) (by omega) fun j hj => by
        by_cases e : j = i
        · subst e; omega
        · exact hb j (by omega)
      refine ⟨r, Ev.step (fun k => ?_) h1, h2⟩
      rw [tailracekit_Ins.l0, if_pos (by omega), if_pos (by omega), if_neg h, wrap_small (by omega) (by omega)]
      rfl
theorem small_of {G : List S39} {m : Int} (hm : m ≤ 64) (hl : (G.length : Int) ≤ m) (h : ∀ j, j < G.length → ((rd_T39 G (j : Int)).f4.length : Int) ≤ m) : small G = true := by
  unfold small
  rw [Bool.and_eq_true, List.all_eq_true]
  refine ⟨by simp; omega, fun n hn => ?_⟩
  obtain ⟨i, hi, e⟩ := List.getElem_of_mem hn
  have := h i hi
  have e2 : rd_T39 G (i : Int) = n := by simp [rd_T39, hi, e]
  rw [e2] at this
  simp; omega
theorem ins_ev (G : List S39) (m : Int) (hm : m ≤ 64) : ∃ r, Ev (fun k => tailracekit_Ins.f k G m) r ∧ (r = true → small G = true ∧ (G.length : Int) ≤ m ∧ ∀ j : Nat, j < G.length → ((rd_T39 G (j : Int)).f4.length : Int) ≤ m) := by
  by_cases h : (G.length : Int) > m
  · exact ⟨false, Ev.congr (f := fun _ => some false) (fun k => by rw [tailracekit_Ins.f, if_pos h]) (Ev.now _), fun h => absurd h (by simp)⟩
  · obtain ⟨r, h1, h2⟩ := ins_l0 G m (by omega) G.length 0 (Nat.zero_add _) fun j hj => absurd hj (Nat.not_lt_zero _)
    exact ⟨r, Ev.congr (fun k => by rw [tailracekit_Ins.f, if_neg h]; rfl) h1, fun hr => ⟨small_of hm (by omega) (h2 hr), by omega, h2 hr⟩⟩
theorem own_l0 (G : List S39) (hs : small G = true) : ∀ (d i : Nat), i + d = G.length → Ev (fun k => tailracekit_Own.l0 k G (G.take i) (i : Int)) G
  | 0, i, hi => by
    rw [List.take_of_length_le (by omega)]
    exact Ev.step (f := fun _ => some G) (fun k => by rw [tailracekit_Own.l0, if_neg (by omega)]) (Ev.now _)
  | d + 1, i, hi => by
    have hGl := small_len hs
    have hl := small_in hs (i : Int)
    refine Ev.step (fun k => ?_) (own_l0 G hs d (i + 1) (by omega))
    have e : G.take (i + 1) = G.take i ++ [rd_T39 G (i : Int)] := by
      rw [List.take_add_one]
      simp [rd_T39, show i < G.length by omega]
    rw [tailracekit_Own.l0, if_pos (by omega), if_pos (by omega), if_pos (by simp; omega), if_pos (by rw [List.length_take]; omega), wrap_small (by omega) (by omega), List.nil_append, e]
    rfl
theorem own_ev (G : List S39) (hs : small G = true) : Ev (fun k => tailracekit_Own.f k G) G := own_l0 G hs G.length 0 (Nat.zero_add _)
end Go.Proofs.Ytnjlonenckifpaa.X
