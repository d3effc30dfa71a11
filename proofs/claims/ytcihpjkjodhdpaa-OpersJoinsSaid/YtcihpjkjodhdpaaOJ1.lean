/- A part of the proof. -/
import Derived.Test.YtcihpjkjodhdpaaProg
import Derived.Test.YtcihpjkjodhdpaaOJ0
import Derived.Below
import Derived.Deep.Draws
import Derived.Deep.AppendLies
import Derived.Maps.AppendAt
import Derived.OwnWalk
import Derived.Laws.BytesArg
import Derived.Laws.MakeOwn
import Derived.Laws.OwnMore
import Derived.Deep.OwnRows
import Derived.Tactics
import Derived.Lib.ConvBytes
import Derived.Laws.Slices
import Derived.WalkKit
import Derived.KernelRfl
import Derived.RowKit3
import Derived.Deep.LoopGhost
import Derived.Deep.QuietTactic
import Derived.BigQuiet
import Derived.WideLaws
import Derived.Deep.DeepCutAuto
import Derived.Deep.CutBlock
import Derived.Deep.RegionHeld3
import Derived.Laws.Rows
import Derived.Lib.AppendStr
import Derived.ArgAppend
import Derived.Laws.IdiomCopy
import Derived.OrdersHeld
import Derived.Laws.BitsLemmas
import Derived.RowKit
import Derived.Shelf.GgClosure.Gives
import Derived.Lib.Walk
import Derived.WideMake
import Derived.Deep.DeepMust
import Derived.Shelf.SlSortCmp.NoneTotal
import Derived.Sort.OwnSorted
import Derived.Maps.OwnSet
import Derived.Maps.RangeWalk
import Derived.Maps.Ext
namespace Go.Proofs.Ytcihpjkjodhdpaa.X
open Go.RowKit Go.Proofs.YtcihpjkjodhdpaaW.PrintWords Go.Proofs.YtcihpjkjodhdpaaW.PrintLast Go.Proofs.YtcihpjkjodhdpaaW.PrintMore
attribute [local go_sem] max2_int min2_int max_two min_two
set_option linter.unusedVariables false
set_option linter.unusedSimpArgs false
def errW : Option Int → Value
  | none => .nilIface
  | some c => .iface 0 (.int .i64 c)
theorem errW_none : errW none = .nilIface := rfl
theorem errW_some (c : Int) : errW (some c) = .iface 0 (.int .i64 c) := rfl
theorem info36 : (Try.prog.info? 36).map (fun i => (i.zero, i.size, i.bytes)) = some (some (.agg #[(.int .i64 0), (.int .i64 0)]), 2, 16) := by kernel_rfl
structure S36 where
  f0 : Int
  f1 : Int
def z36 : S36 := ⟨(0 : Int), (0 : Int)⟩
def k36 : Kd S36 := Kd.iso (Kd.pair (Kd.int .i64) (Kd.int .i64)) (fun x : S36 => (x.f0, x.f1))
theorem k36_open {w : World} {x : S36} {cs : List Value} (h : k36.K w x cs) : cs = [.int .i64 x.f0, .int .i64 x.f1] := by
  obtain ⟨_, _, rfl, rfl, rfl⟩ := h
  exact rfl
theorem k36_openM {w : World} {base : Nat} {ok : Nat → Prop} {x : S36} {cs : List Value} (h : k36.M w base ok x cs) : cs = [.int .i64 x.f0, .int .i64 x.f1] := by
  obtain ⟨_, _, rfl, rfl, rfl⟩ := h
  exact rfl
theorem k36_mk (w : World) (x : S36)  : k36.K w x [.int .i64 x.f0, .int .i64 x.f1] := ⟨[.int .i64 x.f0], [.int .i64 x.f1], rfl, rfl, rfl⟩
theorem k36_mkM (w : World) (base : Nat) (ok : Nat → Prop) (x : S36)  : k36.M w base ok x [.int .i64 x.f0, .int .i64 x.f1] := ⟨[.int .i64 x.f0], [.int .i64 x.f1], rfl, rfl, rfl⟩
def rd_T36 (xs : List S36) (i : Int) : S36 := xs.getD i.toNat z36
theorem at_T36 {w : World} {A : Option Addr} {n : Nat} {xs : List S36} (h : Kd.C k36 w A n xs) (i : Int) (h0 : 0 ≤ i) (h1 : i < n) : ∃ ad , A = some ad ∧ w.cell? (ad.add (i.toNat * 2)) = some (.int .i64 (rd_T36 xs i).f0) ∧ w.cell? ⟨(ad.add (i.toNat * 2)).block, (ad.add (i.toNat * 2)).off + 1, none⟩ = some (.int .i64 (rd_T36 xs i).f1) := by
  obtain ⟨ad, c, e, _, hK, hc0⟩ := Kd.C_get h z36 i h0 h1
  have hc : ∀ j u, c[j]? = some u → w.cell? (ad.add (i.toNat * 2 + j)) = some u := hc0
  obtain rfl := k36_open hK
  exact ⟨ad, e, hc 0 _ rfl, by rw [← add_field _ _ 1 (by omega)]; exact hc 1 _ rfl⟩
def rd_L2 (xs : List (List S36)) (i : Int) : (List S36) := xs.getD i.toNat ([] : List S36)
theorem at_L2 {w : World} {A : Option Addr} {n : Nat} {xs : List (List S36)} (h : Kd.C (Kd.slice 36 k36) w A n xs) (i : Int) (h0 : 0 ≤ i) (h1 : i < n) : ∃ ad A0 c0, A = some ad ∧ w.cell? (ad.add i.toNat) = some (.slice A0 (rd_L2 xs i).length c0) ∧ (rd_L2 xs i).length ≤ c0 ∧ k36.C w A0 (rd_L2 xs i).length (rd_L2 xs i) := by
  obtain ⟨ad, c, e, _, hK, hc0⟩ := Kd.C_get h ([] : List S36) i h0 h1
  have hc : ∀ j u, c[j]? = some u → w.cell? (ad.add (i.toNat * 1 + j)) = some u := hc0
  obtain ⟨A0, c0, rfl, l0, g0⟩ := hK
  exact ⟨ad, A0, c0, e, by have hq := hc 0 _ rfl; rwa [Nat.mul_one, Nat.add_zero] at hq, l0, g0⟩
structure S24 where
  f0 : Int
  f1 : Int
  f2 : Int
  f3 : Int
  f4 : (List Int)
def z24 : S24 := ⟨(0 : Int), (0 : Int), (0 : Int), (0 : Int), ([] : List Int)⟩
def k24 : Kd S24 := Kd.iso (Kd.pair (Kd.int .u8) (Kd.pair (Kd.int .u8) (Kd.pair (Kd.int .i64) (Kd.pair (Kd.int .i64) (Kd.slice 3 (Kd.int .i64)))))) (fun x : S24 => (x.f0, x.f1, x.f2, x.f3, x.f4))
theorem k24_open {w : World} {x : S24} {cs : List Value} (h : k24.K w x cs) : ∃ A4 c4, cs = [.int .u8 x.f0, .int .u8 x.f1, .int .i64 x.f2, .int .i64 x.f3, .slice A4 x.f4.length c4] ∧ x.f4.length ≤ c4 ∧ (Kd.int .i64).C w A4 x.f4.length x.f4 := by
  obtain ⟨_, _, rfl, rfl, ⟨_, _, rfl, rfl, ⟨_, _, rfl, rfl, ⟨_, _, rfl, rfl, ⟨A4, c4, rfl, l4, g4⟩⟩⟩⟩⟩ := h
  exact ⟨A4, c4, rfl, l4, g4⟩
theorem k24_mk (w : World) (x : S24) {A4 : Option Addr} {c4 : Nat} (l4 : x.f4.length ≤ c4) (g4 : (Kd.int .i64).C w A4 x.f4.length x.f4) : k24.K w x [.int .u8 x.f0, .int .u8 x.f1, .int .i64 x.f2, .int .i64 x.f3, .slice A4 x.f4.length c4] := ⟨[.int .u8 x.f0], [.int .u8 x.f1, .int .i64 x.f2, .int .i64 x.f3, .slice A4 x.f4.length c4], rfl, rfl, ⟨[.int .u8 x.f1], [.int .i64 x.f2, .int .i64 x.f3, .slice A4 x.f4.length c4], rfl, rfl, ⟨[.int .i64 x.f2], [.int .i64 x.f3, .slice A4 x.f4.length c4], rfl, rfl, ⟨[.int .i64 x.f3], [.slice A4 x.f4.length c4], rfl, rfl, ⟨A4, c4, rfl, l4, g4⟩⟩⟩⟩⟩
def rd_T24 (xs : List S24) (i : Int) : S24 := xs.getD i.toNat z24
theorem at_T24 {w : World} {A : Option Addr} {n : Nat} {xs : List S24} (h : Kd.C k24 w A n xs) (i : Int) (h0 : 0 ≤ i) (h1 : i < n) : ∃ ad A4 c4, A = some ad ∧ w.cell? (ad.add (i.toNat * 5)) = some (.int .u8 (rd_T24 xs i).f0) ∧ w.cell? ⟨(ad.add (i.toNat * 5)).block, (ad.add (i.toNat * 5)).off + 1, none⟩ = some (.int .u8 (rd_T24 xs i).f1) ∧ w.cell? ⟨(ad.add (i.toNat * 5)).block, (ad.add (i.toNat * 5)).off + 2, none⟩ = some (.int .i64 (rd_T24 xs i).f2) ∧ w.cell? ⟨(ad.add (i.toNat * 5)).block, (ad.add (i.toNat * 5)).off + 3, none⟩ = some (.int .i64 (rd_T24 xs i).f3) ∧ w.cell? ⟨(ad.add (i.toNat * 5)).block, (ad.add (i.toNat * 5)).off + 4, none⟩ = some (.slice A4 (rd_T24 xs i).f4.length c4) ∧ (rd_T24 xs i).f4.length ≤ c4 ∧ (Kd.int .i64).C w A4 (rd_T24 xs i).f4.length (rd_T24 xs i).f4 := by
  obtain ⟨ad, c, e, _, hK, hc0⟩ := Kd.C_get h z24 i h0 h1
  have hc : ∀ j u, c[j]? = some u → w.cell? (ad.add (i.toNat * 5 + j)) = some u := hc0
  obtain ⟨A4, c4, rfl, l4, g4⟩ := k24_open hK
  exact ⟨ad, A4, c4, e, hc 0 _ rfl, by rw [← add_field _ _ 1 (by omega)]; exact hc 1 _ rfl, by rw [← add_field _ _ 2 (by omega)]; exact hc 2 _ rfl, by rw [← add_field _ _ 3 (by omega)]; exact hc 3 _ rfl, by rw [← add_field _ _ 4 (by omega)]; exact hc 4 _ rfl, l4, g4⟩
end Go.Proofs.Ytcihpjkjodhdpaa.X
namespace Go.Proofs.Ytcihpjkjodhdpaa.X
set_option linter.unusedVariables false
set_option linter.unusedSimpArgs false
open Go.RowKit Go.Proofs.YtcihpjkjodhdpaaW.PrintWords
theorem any_take_succ (p : Int → Bool) (l : List Int) (k : Nat) (x : Int) (h : l[k]? = some x) : (l.take (k + 1)).any p = ((l.take k).any p || p x) := by
  rw [List.take_add_one, h]; simp
def Asks (g : Nat) (lb : Array Value) (p : Int → Bool) (l : List Int) (w : World) : Prop :=
  ∀ (j : Nat) (x : Int), l[j]? = some x → ∀ q, Calls Try.prog g (#[.int .i64 x] ++ lb) (w.drewN q) fun e w' => e = .returned (.bool (p x)) ∧ ∃ q', w' = (w.drewN q).drewN q'
theorem Asks.drewN {g : Nat} {lb : Array Value} {p : Int → Bool} {l : List Int} {w : World} (h : Asks g lb p l w) (n : Nat) : Asks g lb p l (w.drewN n) := fun j x hj q => by
  rw [World.drewN_drewN]
  exact h j x hj (n + q)
set_option maxHeartbeats 2000000 in
theorem index_calls (A : Option Addr) (c : Nat) (l : List Int) (g : Nat) (lb : Array Value) (p : Int → Bool) (eg : ∀ args w, (callFunc g args).run Try.prog w = .ok (.enter g args) w) (w : World)
    (hr : Kd.C (Kd.int .i64) w A l.length l) (hp : Asks g lb p l w) :
    Calls Try.prog 88 #[.slice A l.length c, .func (.func g) #[] lb] w fun e w' => ∃ r : Int, e = .returned (.int .i64 r) ∧ decide (0 ≤ r) = l.any p ∧ ∃ q, w' = w.drewN q := by
  have HR := Aside0.mk hr
  have HP := Aside0.mk hp
  have HL : l.length ≤ 9223372036854775807 := hr.2.1
  clear hr hp
  go_enter Try.func88, Try.ntmps88
  go_wp2
  go_loopg [5, 8] l.length (fun gg _ s8 wr => ∃ kk q : Nat, kk ≤ l.length ∧ l.length - kk ≤ gg ∧ s8 = .int .i64 kk ∧ wr = w.drewN q ∧ Aside0 ((l.take kk).any p = false))
  case atStart => exact ⟨0, 0, Nat.zero_le _, by omega, rfl, rfl, ⟨by simp⟩⟩
  case round =>
    obtain ⟨kk, q, hkk, hg, rfl, rfl, HA⟩ := hrel
    by_cases hlt : kk < l.length
    · have hltz : (kk : Int) < (l.length : Int) := by omega
      obtain ⟨ad, c0, eA, hs, hk, hcell⟩ := ReadsRow.get_ HR.out 0 (kk : Int) (by omega) hltz
      have hcell0 := hcell 0 _ (by rw [hk]; rfl)
      clear hcell
      have hx : l[kk]? = some (l.getD kk 0) := by simp [List.getD_eq_getElem?_getD, hlt]
      simp only [Int.toNat_natCast, Kd.int, Kd.scalar, Nat.mul_one, Nat.add_zero] at hcell0
      have hcall := HP.out kk _ hx
      have HS := Aside0.mk (any_take_succ p l kk _ hx)
      have HX := Aside0.mk hx
      clear hx hs hk
      generalize l.getD kk 0 = x at hcell0 hcall HS HX
      subst eA
      cases hq : p x with
      | true =>
        rw [hq] at hcall
        have HQ := Aside0.mk hq
        clear hq
        go_wp2_with (go_at_fn g; refine (hcall _).mono ?_; rintro e w' ⟨rfl, q', rfl⟩)
        go_ret
        refine ⟨_, rfl, ?_, _, rfl⟩
        have h1 : l.any p = true := List.any_eq_true.2 ⟨x, List.mem_of_getElem? HX.out, HQ.out⟩
        rw [h1]
        exact decide_eq_true (by omega)
      | false =>
        rw [hq] at hcall
        have HQ := Aside0.mk hq
        clear hq
        go_wp2_with (go_at_fn g; refine (hcall _).mono ?_; rintro e w' ⟨rfl, q', rfl⟩)
        go_roundg (l.length - (kk + 1))
        case measure => omega
        case rel =>
          exact ⟨kk + 1, _, by omega, by omega, by go_num, rfl, ⟨by rw [HS.out, HA.out, HQ.out]; rfl⟩⟩
    · have hltz : ¬ (kk : Int) < (l.length : Int) := by omega
      have hk : kk = l.length := by omega
      have HK := Aside0.mk hk
      clear hk
      go_wp2
      go_ret
      refine ⟨_, rfl, ?_, q, rfl⟩
      have h1 := HA.out
      rw [HK.out, List.take_length] at h1
      rw [h1]
      rfl
set_option maxHeartbeats 2000000 in
theorem contains_calls (A : Option Addr) (c : Nat) (l : List Int) (g : Nat) (lb : Array Value) (p : Int → Bool) (eg : ∀ args w, (callFunc g args).run Try.prog w = .ok (.enter g args) w) (w : World)
    (hr : Kd.C (Kd.int .i64) w A l.length l) (hp : Asks g lb p l w) :
    Calls Try.prog 75 #[.slice A l.length c, .func (.func g) #[] lb] w fun e w' => e = .returned (.bool (l.any p)) ∧ ∃ q, w' = w.drewN q := by
  have HR := Aside0.mk hr
  have HP := Aside0.mk hp
  clear hr hp
  go_enter Try.func75, Try.ntmps75
  go_wp2_with (go_at_call 88; refine (index_calls A c l g lb p eg _ HR.out HP.out).mono ?_; rintro e w' ⟨r, rfl, hd, q, rfl⟩; (have HD := Aside0.mk hd; clear hd))
  go_ret
  refine ⟨?_, q, rfl⟩
  rw [← HD.out]
  rfl
end Go.Proofs.Ytcihpjkjodhdpaa.X
namespace Go.Proofs.Ytcihpjkjodhdpaa.X
open Go.RowKit Go.Proofs.YtcihpjkjodhdpaaW.PrintWords Go.Proofs.YtcihpjkjodhdpaaW.PrintLast Go.Proofs.YtcihpjkjodhdpaaW.PrintMore
attribute [local go_sem] max2_int min2_int max_two min_two
set_option linter.unusedVariables false
set_option linter.unusedSimpArgs false
theorem eqA36 (d : Nat) (w : World) (x0 y0 : Int) (x1 y1 : Int) :
    (Op.equalIn (d + 2) 36 (.agg #[.int .i64 x0, .int .i64 x1]) (.agg #[.int .i64 y0, .int .i64 y1])).run Try.prog w = .ok (x0 == y0 && (x1 == y1)) w := by
  refine eqA_of Try.underlying36 (by kernel_rfl) ?_
  refine eqf_cons (by rfl) (by go_simp; rfl) (by go_simp; rfl) (by go_simp) ?_
  exact eqf_last (by rfl) (by go_simp; rfl) (by go_simp; rfl) (by go_simp)
end Go.Proofs.Ytcihpjkjodhdpaa.X
namespace Go.Proofs.Ytcihpjkjodhdpaa.X
open Go.RowKit Go.Proofs.YtcihpjkjodhdpaaW.PrintWords Go.Proofs.YtcihpjkjodhdpaaW.PrintLast Go.Proofs.YtcihpjkjodhdpaaW.PrintMore
attribute [local go_sem] max2_int min2_int max_two min_two
set_option linter.unusedVariables false
set_option linter.unusedSimpArgs false
attribute [local go_sem high] eqA36
def tailracelaw13_few.l0 : Nat → List (List (S36)) → Int → Option (Bool)
  | 0, _, _ => none
  | k + 1, x0, x3 => if x3 < (x0.length : Int) then (if 0 ≤ x3 then (if ((rd_L2 x0 x3).length : Int) > 60 then (some false) else (tailracelaw13_few.l0 k x0 (wrap64 (x3 + 1)))) else (none)) else (some true)
def tailracelaw13_few.f (k : Nat) (l0 : List (List (S36))) : Option (Bool) := if (l0.length : Int) > 4 then (some false) else (tailracelaw13_few.l0 k l0 0)
set_option maxHeartbeats 8000000 in
set_option maxRecDepth 100000 in
theorem tailracelaw13_few.calls (k : Nat) (A0 : Option Addr) (c0 : Nat) (l0 : List (List (S36))) (r : Bool) (w : World) (hr0 : Kd.C (Kd.slice 36 k36) w A0 l0.length l0) (hc0 : l0.length ≤ c0) (h : tailracelaw13_few.f k l0 = some r) :
    Calls Try.prog 10 #[.slice A0 l0.length c0] w fun e w' => e = .returned (.bool r) ∧ Drawn0 w w' := by
  have HR0 := Aside0.mk hr0
  have HC0 := Aside0.mk hc0
  clear hr0 hc0
  have H : (if (l0.length : Int) > 4 then (some false) else (tailracelaw13_few.l0 k l0 0)) = some r := h
  clear h
  by_cases c2 : (l0.length : Int) > 4
  · rw [if_pos c2] at H
    have c2b0 : decide (4 < (l0.length : Int)) = true := decide_eq_true c2
    have c2b1 : decide (4 < l0.length) = true := decide_eq_true (by omega)
    clear c2
    obtain rfl := Option.some.inj H
    go_enter Try.func10, Try.ntmps10
    go_wp2
    go_ret
    exact ⟨by first | rfl | (simp; done) | (simp [*]; done), by repeat (first | exact Drawn0.refl _ | apply Drawn0.step)⟩
  · rw [if_neg c2] at H
    have c2b0 : decide (4 < (l0.length : Int)) = false := decide_eq_false c2
    have c2b1 : decide (4 < l0.length) = false := decide_eq_false (by omega)
    clear c2
    have H' := Aside0.mk H
    clear H
    go_enter Try.func10, Try.ntmps10
    go_wp2
    go_loopg [3] k (fun kq v3 w' => ∃ (x3_1 : Int), v3 = .int .i64 x3_1 ∧ Aside0 (tailracelaw13_few.l0 kq l0 x3_1 = some r) ∧ Aside0 (kq ≤ k) ∧ Drawn0 w w')
    case atStart => exact ⟨(0), (by first | rfl | (simp; done) | (simp [*]; done)), H', ⟨Nat.le_refl _⟩, by repeat (first | exact Drawn0.refl _ | apply Drawn0.step)⟩
    case round =>
      clear H'
      try clear c1
      try clear c2
      try clear c2b0
      try clear c2b1
      try clear p2
      obtain ⟨x3_1, rfl, HA, HK1, ⟨m1, rfl⟩⟩ := hrel
      cases gk with
      | zero => exact absurd HA.out (by simp [tailracelaw13_few.l0])
      | succ k1 =>
        have H := HA.out
        clear HA
        simp only [tailracelaw13_few.l0] at H
        by_cases c3 : x3_1 < (l0.length : Int)
        · rw [if_pos c3] at H
          have c3b0 : decide (x3_1 < (l0.length : Int)) = true := decide_eq_true c3
          clear c3
          by_cases c4 : 0 ≤ x3_1
          · rw [if_pos c4] at H
            have c4b0 : decide (0 ≤ x3_1) = true := decide_eq_true c4
            clear c4
            by_cases c5 : ((rd_L2 l0 x3_1).length : Int) > 60
            · rw [if_pos c5] at H
              have c5b0 : decide (60 < ((rd_L2 l0 x3_1).length : Int)) = true := decide_eq_true c5
              have c5b1 : decide (60 < (rd_L2 l0 x3_1).length) = true := decide_eq_true (by omega)
              clear c5
              obtain rfl := Option.some.inj H
              have p101 : 0 ≤ (x3_1 : Int) := of_decide_eq_true (by first | (with_reducible assumption) | assumption)
              have q101 : x3_1 < (l0.length : Int) := of_decide_eq_true (by first | (with_reducible assumption) | assumption)
              obtain ⟨ad101, A101_0, c101_0, e101, hx101_0, hl101_0, hi101_0⟩ := at_L2 HR0.out x3_1 p101 q101
              cases e101
              have HR101_0 := Aside0.mk hi101_0
              have HC101_0 := Aside0.mk hl101_0
              clear hi101_0 hl101_0
              replace p101 := eq_true p101
              replace q101 := eq_true q101
              go_wp2
              go_ret
              exact ⟨by first | rfl | (simp; done) | (simp [*]; done), by repeat (first | exact Drawn0.refl _ | apply Drawn0.step)⟩
            · rw [if_neg c5] at H
              have c5b0 : decide (60 < ((rd_L2 l0 x3_1).length : Int)) = false := decide_eq_false c5
              have c5b1 : decide (60 < (rd_L2 l0 x3_1).length) = false := decide_eq_false (by omega)
              clear c5
              have H' := Aside0.mk H
              clear H
              have p101 : 0 ≤ (x3_1 : Int) := of_decide_eq_true (by first | (with_reducible assumption) | assumption)
              have q101 : x3_1 < (l0.length : Int) := of_decide_eq_true (by first | (with_reducible assumption) | assumption)
              obtain ⟨ad101, A101_0, c101_0, e101, hx101_0, hl101_0, hi101_0⟩ := at_L2 HR0.out x3_1 p101 q101
              cases e101
              have HR101_0 := Aside0.mk hi101_0
              have HC101_0 := Aside0.mk hl101_0
              clear hi101_0 hl101_0
              replace p101 := eq_true p101
              replace q101 := eq_true q101
              go_wp2
              go_roundg k1
              case measure => have := HK1.out; omega
              case rel => exact ⟨(wrap64 (x3_1 + 1)), (by first | rfl | (simp; done) | (simp [*]; done)), H', ⟨by have := HK1.out; omega⟩, by repeat (first | exact Drawn0.refl _ | apply Drawn0.step)⟩
          · rw [if_neg c4] at H
            exact absurd H (by simp)
        · rw [if_neg c3] at H
          have c3b0 : decide (x3_1 < (l0.length : Int)) = false := decide_eq_false c3
          clear c3
          obtain rfl := Option.some.inj H
          go_wp2
          go_ret
          exact ⟨by first | rfl | (simp; done) | (simp [*]; done), by repeat (first | exact Drawn0.refl _ | apply Drawn0.step)⟩
def check_plain.f (a0_0 : Int) (a0_1 : Int) (a0_2 : Int) (a0_3 : Int) (l0_4 : List Int) : Option (Bool) := if a0_1 = 0 then (some (a0_2 == 0)) else (some false)
set_option maxHeartbeats 8000000 in
set_option maxRecDepth 100000 in
theorem check_plain.calls (a0_0 : Int) (a0_1 : Int) (a0_2 : Int) (a0_3 : Int) (A0_4 : Option Addr) (c0_4 : Nat) (l0_4 : List Int) (r : Bool) (w : World) (hr0_4 : Kd.C (Kd.int .i64) w A0_4 l0_4.length l0_4) (hc0_4 : l0_4.length ≤ c0_4) (h : check_plain.f a0_0 a0_1 a0_2 a0_3 l0_4 = some r) :
    Calls Try.prog 72 #[.agg #[.int .u8 a0_0, .int .u8 a0_1, .int .i64 a0_2, .int .i64 a0_3, .slice A0_4 l0_4.length c0_4]] w fun e w' => e = .returned (.bool r) ∧ Below w.heap.size w w' := by
  have hu24 := Try.underlying24
  have HR0_4 := Aside0.mk hr0_4
  have HC0_4 := Aside0.mk hc0_4
  clear hr0_4 hc0_4
  have HB := Aside0.mk (Below.refl w.heap.size w)
  have H : (if a0_1 = 0 then (some (a0_2 == 0)) else (some false)) = some r := h
  clear h
  by_cases c2 : a0_1 = 0
  · rw [if_pos c2] at H
    have c2b0 : (a0_1 == 0) = true := beq_iff_eq.mpr c2
    have c2b1 : (a0_1 != 0) = false := bne_eq_false_iff_eq.mpr c2
    clear c2
    obtain rfl := Option.some.inj H
    go_enter Try.func72, Try.ntmps72
    go_wp2_with (first | ((with_reducible refine gate_dst (N := 1) rfl ?_); refine box_event ?hg (N := 1) ?hd (cs := #[.int .u8 a0_0, .int .u8 a0_1, .int .i64 a0_2, .int .i64 a0_3, .slice A0_4 l0_4.length c0_4]) (t := 24) ?hr ?_; (case hd => rfl); (case hg => rfl); (case hr => first | (go_simp; done) | (go_simp; rfl)); intro gb102 hg w3 hbox hb; have n0_ := Aside0.mk (below_step (by repeat (first | (with_reducible first | exact HB.out | apply below_alloc | apply pw_below_drewN | apply below_drew1) | exact HB.out)) hb); have n1_ := Aside0.mk (hbox); have n2_ := Aside0.mk ((by rw [hg]; exact (below_size (by repeat (first | (with_reducible first | exact HB.out | apply below_alloc | apply pw_below_drewN | apply below_drew1) | exact HB.out))) : w.heap.size ≤ gb102)); have n3_ := Aside0.mk ((by rw [hg]; exact (below_size (by repeat (first | (with_reducible first | exact HB.out | apply below_alloc | apply pw_below_drewN | apply below_drew1) | exact HB.out))) : w.heap.size ≤ gb102)); clear HB; have HB := n0_; have BK102 := n1_; have GW102 := n2_; have GE102 := n3_; clear n0_ n1_ n2_ n3_; clear hb hbox hg; have hcz4_0 : w3.cell? ⟨gb102, 0, none⟩ = some (.int .u8 a0_0) := (blk_cell BK102.out 0).trans rfl; have hcz4_1 : w3.cell? ⟨gb102, 1, none⟩ = some (.int .u8 a0_1) := (blk_cell BK102.out 1).trans rfl; have hcz4_2 : w3.cell? ⟨gb102, 2, none⟩ = some (.int .i64 a0_2) := (blk_cell BK102.out 2).trans rfl; have hcz4_3 : w3.cell? ⟨gb102, 3, none⟩ = some (.int .i64 a0_3) := (blk_cell BK102.out 3).trans rfl; have hcz4_4 : w3.cell? ⟨gb102, 4, none⟩ = some (.slice A0_4 l0_4.length c0_4) := (blk_cell BK102.out 4).trans rfl; have hfz4_0 := blk_frozen BK102.out 0; have hfz4_1 := blk_frozen BK102.out 1; have hfz4_2 := blk_frozen BK102.out 2; have hfz4_3 := blk_frozen BK102.out 3; have hfz4_4 := blk_frozen BK102.out 4))
    go_ret
    exact ⟨by first | rfl | (simp [errW_none, errW_some] <;> rfl) | (simp [*, errW_none, errW_some] <;> rfl), by repeat (first | (with_reducible first | exact HB.out | apply below_alloc | apply pw_below_drewN | apply below_drew1 | refine below_set ?_ GE102.out) | exact HB.out)⟩
  · rw [if_neg c2] at H
    have c2b0 : (a0_1 == 0) = false := beq_eq_false_iff_ne.mpr c2
    have c2b1 : (a0_1 != 0) = true := bne_iff_ne.mpr c2
    obtain rfl := Option.some.inj H
    go_enter Try.func72, Try.ntmps72
    go_wp2_with (first | ((with_reducible refine gate_dst (N := 1) rfl ?_); refine box_event ?hg (N := 1) ?hd (cs := #[.int .u8 a0_0, .int .u8 a0_1, .int .i64 a0_2, .int .i64 a0_3, .slice A0_4 l0_4.length c0_4]) (t := 24) ?hr ?_; (case hd => rfl); (case hg => rfl); (case hr => first | (go_simp; done) | (go_simp; rfl)); intro gb102 hg w5 hbox hb; have n0_ := Aside0.mk (below_step (by repeat (first | (with_reducible first | exact HB.out | apply below_alloc | apply pw_below_drewN | apply below_drew1) | exact HB.out)) hb); have n1_ := Aside0.mk (hbox); have n2_ := Aside0.mk ((by rw [hg]; exact (below_size (by repeat (first | (with_reducible first | exact HB.out | apply below_alloc | apply pw_below_drewN | apply below_drew1) | exact HB.out))) : w.heap.size ≤ gb102)); have n3_ := Aside0.mk ((by rw [hg]; exact (below_size (by repeat (first | (with_reducible first | exact HB.out | apply below_alloc | apply pw_below_drewN | apply below_drew1) | exact HB.out))) : w.heap.size ≤ gb102)); clear HB; have HB := n0_; have BK102 := n1_; have GW102 := n2_; have GE102 := n3_; clear n0_ n1_ n2_ n3_; clear hb hbox hg; have hcz6_0 : w5.cell? ⟨gb102, 0, none⟩ = some (.int .u8 a0_0) := (blk_cell BK102.out 0).trans rfl; have hcz6_1 : w5.cell? ⟨gb102, 1, none⟩ = some (.int .u8 a0_1) := (blk_cell BK102.out 1).trans rfl; have hcz6_2 : w5.cell? ⟨gb102, 2, none⟩ = some (.int .i64 a0_2) := (blk_cell BK102.out 2).trans rfl; have hcz6_3 : w5.cell? ⟨gb102, 3, none⟩ = some (.int .i64 a0_3) := (blk_cell BK102.out 3).trans rfl; have hcz6_4 : w5.cell? ⟨gb102, 4, none⟩ = some (.slice A0_4 l0_4.length c0_4) := (blk_cell BK102.out 4).trans rfl; have hfz6_0 := blk_frozen BK102.out 0; have hfz6_1 := blk_frozen BK102.out 1; have hfz6_2 := blk_frozen BK102.out 2; have hfz6_3 := blk_frozen BK102.out 3; have hfz6_4 := blk_frozen BK102.out 4))
    go_ret
    exact ⟨by first | rfl | (simp [errW_none, errW_some] <;> rfl) | (simp [*, errW_none, errW_some] <;> rfl), by repeat (first | (with_reducible first | exact HB.out | apply below_alloc | apply pw_below_drewN | apply below_drew1 | refine below_set ?_ GE102.out) | exact HB.out)⟩
def check_arity.f (a0 : Int) : Option (Int) := if a0 = 1 then (some 0) else (if a0 = 4 then (some 2) else (if a0 = 6 then (some 2) else (some 1)))
set_option maxHeartbeats 8000000 in
set_option maxRecDepth 100000 in
theorem check_arity.calls (a0 : Int) (r : Int) (w : World) (h : check_arity.f a0 = some r) :
    Calls Try.prog 74 #[.int .u8 a0] w fun e w' => e = .returned (.int .i64 r) ∧ Drawn0 w w' := by
  have H : (if a0 = 1 then (some 0) else (if a0 = 4 then (some 2) else (if a0 = 6 then (some 2) else (some 1)))) = some r := h
  clear h
  by_cases c2 : a0 = 1
  · rw [if_pos c2] at H
    have c2b0 : (a0 == 1) = true := beq_iff_eq.mpr c2
    have c2b1 : (a0 != 1) = false := bne_eq_false_iff_eq.mpr c2
    clear c2
    obtain rfl := Option.some.inj H
    go_enter Try.func74, Try.ntmps74
    go_wp2
    go_ret
    exact ⟨by first | rfl | (simp; done) | (simp [*]; done), by repeat (first | exact Drawn0.refl _ | apply Drawn0.step)⟩
  · rw [if_neg c2] at H
    have c2b0 : (a0 == 1) = false := beq_eq_false_iff_ne.mpr c2
    have c2b1 : (a0 != 1) = true := bne_iff_ne.mpr c2
    by_cases c3 : a0 = 4
    · rw [if_pos c3] at H
      have c3b0 : (a0 == 4) = true := beq_iff_eq.mpr c3
      have c3b1 : (a0 != 4) = false := bne_eq_false_iff_eq.mpr c3
      clear c3
      obtain rfl := Option.some.inj H
      go_enter Try.func74, Try.ntmps74
      go_wp2
      go_ret
      exact ⟨by first | rfl | (simp; done) | (simp [*]; done), by repeat (first | exact Drawn0.refl _ | apply Drawn0.step)⟩
    · rw [if_neg c3] at H
      have c3b0 : (a0 == 4) = false := beq_eq_false_iff_ne.mpr c3
      have c3b1 : (a0 != 4) = true := bne_iff_ne.mpr c3
      by_cases c4 : a0 = 6
      · rw [if_pos c4] at H
        have c4b0 : (a0 == 6) = true := beq_iff_eq.mpr c4
        have c4b1 : (a0 != 6) = false := bne_eq_false_iff_eq.mpr c4
        clear c4
        obtain rfl := Option.some.inj H
        go_enter Try.func74, Try.ntmps74
        go_wp2
        go_ret
        exact ⟨by first | rfl | (simp; done) | (simp [*]; done), by repeat (first | exact Drawn0.refl _ | apply Drawn0.step)⟩
      · rw [if_neg c4] at H
        have c4b0 : (a0 == 6) = false := beq_eq_false_iff_ne.mpr c4
        have c4b1 : (a0 != 6) = true := bne_iff_ne.mpr c4
        obtain rfl := Option.some.inj H
        go_enter Try.func74, Try.ntmps74
        go_wp2
        go_ret
        exact ⟨by first | rfl | (simp; done) | (simp [*]; done), by repeat (first | exact Drawn0.refl _ | apply Drawn0.step)⟩
def opers_arity.f (a0 : Int) : Option (Int) := if a0 = 1 then (some 0) else (if a0 = 4 then (some 2) else (if a0 = 6 then (some 2) else (some 1)))
set_option maxHeartbeats 8000000 in
set_option maxRecDepth 100000 in
theorem opers_arity.calls (a0 : Int) (r : Int) (w : World) (h : opers_arity.f a0 = some r) :
    Calls Try.prog 26 #[.int .u8 a0] w fun e w' => e = .returned (.int .i64 r) ∧ Drawn0 w w' := by
  have H : (if a0 = 1 then (some 0) else (if a0 = 4 then (some 2) else (if a0 = 6 then (some 2) else (some 1)))) = some r := h
  clear h
  by_cases c2 : a0 = 1
  · rw [if_pos c2] at H
    have c2b0 : (a0 == 1) = true := beq_iff_eq.mpr c2
    have c2b1 : (a0 != 1) = false := bne_eq_false_iff_eq.mpr c2
    clear c2
    obtain rfl := Option.some.inj H
    go_enter Try.func26, Try.ntmps26
    go_wp2
    go_ret
    exact ⟨by first | rfl | (simp; done) | (simp [*]; done), by repeat (first | exact Drawn0.refl _ | apply Drawn0.step)⟩
  · rw [if_neg c2] at H
    have c2b0 : (a0 == 1) = false := beq_eq_false_iff_ne.mpr c2
    have c2b1 : (a0 != 1) = true := bne_iff_ne.mpr c2
    by_cases c3 : a0 = 4
    · rw [if_pos c3] at H
      have c3b0 : (a0 == 4) = true := beq_iff_eq.mpr c3
      have c3b1 : (a0 != 4) = false := bne_eq_false_iff_eq.mpr c3
      clear c3
      obtain rfl := Option.some.inj H
      go_enter Try.func26, Try.ntmps26
      go_wp2
      go_ret
      exact ⟨by first | rfl | (simp; done) | (simp [*]; done), by repeat (first | exact Drawn0.refl _ | apply Drawn0.step)⟩
    · rw [if_neg c3] at H
      have c3b0 : (a0 == 4) = false := beq_eq_false_iff_ne.mpr c3
      have c3b1 : (a0 != 4) = true := bne_iff_ne.mpr c3
      by_cases c4 : a0 = 6
      · rw [if_pos c4] at H
        have c4b0 : (a0 == 6) = true := beq_iff_eq.mpr c4
        have c4b1 : (a0 != 6) = false := bne_eq_false_iff_eq.mpr c4
        clear c4
        obtain rfl := Option.some.inj H
        go_enter Try.func26, Try.ntmps26
        go_wp2
        go_ret
        exact ⟨by first | rfl | (simp; done) | (simp [*]; done), by repeat (first | exact Drawn0.refl _ | apply Drawn0.step)⟩
      · rw [if_neg c4] at H
        have c4b0 : (a0 == 6) = false := beq_eq_false_iff_ne.mpr c4
        have c4b1 : (a0 != 6) = true := bne_iff_ne.mpr c4
        obtain rfl := Option.some.inj H
        go_enter Try.func26, Try.ntmps26
        go_wp2
        go_ret
        exact ⟨by first | rfl | (simp; done) | (simp [*]; done), by repeat (first | exact Drawn0.refl _ | apply Drawn0.step)⟩
def cmp_Or_int.l0 : Nat → Int → List Int → Int → Int → Option (Int)
  | 0, _, _, _, _ => none
  | k + 1, x3, x6, x7, x8 => if x8 < x7 then (if 0 ≤ x8 then (if x8 < (x6.length : Int) then (if (rd x6 x8) = x3 then (cmp_Or_int.l0 k x3 x6 x7 (wrap64 (x8 + 1))) else (some (rd x6 x8))) else (none)) else (none)) else (some x3)
def cmp_Or_int.f (k : Nat) (l0 : List Int) : Option (Int) := cmp_Or_int.l0 k 0 l0 (l0.length : Int) 0
set_option maxHeartbeats 8000000 in
set_option maxRecDepth 100000 in
theorem cmp_Or_int.calls (k : Nat) (A0 : Option Addr) (c0 : Nat) (l0 : List Int) (r : Int) (w : World) (hr0 : Kd.C (Kd.int .i64) w A0 l0.length l0) (hc0 : l0.length ≤ c0) (h : cmp_Or_int.f k l0 = some r) :
    Calls Try.prog 66 #[.slice A0 l0.length c0] w fun e w' => e = .returned (.int .i64 r) ∧ Drawn0 w w' := by
  have HR0 := Aside0.mk hr0
  have HC0 := Aside0.mk hc0
  clear hr0 hc0
  have H : (cmp_Or_int.l0 k 0 l0 (l0.length : Int) 0) = some r := h
  clear h
  have H' := Aside0.mk H
  clear H
  go_enter Try.func66, Try.ntmps66
  go_wp2
  go_loopg [8] k (fun kq v8 w' => ∃ (x8_1 : Int), v8 = .int .i64 x8_1 ∧ Aside0 (cmp_Or_int.l0 kq 0 l0 (l0.length : Int) x8_1 = some r) ∧ Aside0 (kq ≤ k) ∧ Drawn0 w w')
  case atStart => exact ⟨(0), (by first | rfl | (simp; done) | (simp [*]; done)), H', ⟨Nat.le_refl _⟩, by repeat (first | exact Drawn0.refl _ | apply Drawn0.step)⟩
  case round =>
    clear H'
    obtain ⟨x8_1, rfl, HA, HK1, ⟨m1, rfl⟩⟩ := hrel
    cases gk with
    | zero => exact absurd HA.out (by simp [cmp_Or_int.l0])
    | succ k1 =>
      have H := HA.out
      clear HA
      simp only [cmp_Or_int.l0] at H
      by_cases c2 : x8_1 < (l0.length : Int)
      · rw [if_pos c2] at H
        have c2b0 : decide (x8_1 < (l0.length : Int)) = true := decide_eq_true c2
        clear c2
        by_cases c3 : 0 ≤ x8_1
        · rw [if_pos c3] at H
          have c3b0 : decide (0 ≤ x8_1) = true := decide_eq_true c3
          clear c3
          by_cases c4 : x8_1 < (l0.length : Int)
          · rw [if_pos c4] at H
            have c4b0 : decide (x8_1 < (l0.length : Int)) = true := decide_eq_true c4
            clear c4
            by_cases c5 : (rd l0 x8_1) = 0
            · rw [if_pos c5] at H
              have c5b0 : ((rd l0 x8_1) == 0) = true := beq_iff_eq.mpr c5
              have c5b1 : ((rd l0 x8_1) != 0) = false := bne_eq_false_iff_eq.mpr c5
              clear c5
              have H' := Aside0.mk H
              clear H
              have p112 : 0 ≤ (x8_1 : Int) := of_decide_eq_true (by first | (with_reducible assumption) | assumption)
              have q112 : x8_1 < (l0.length : Int) := of_decide_eq_true (by first | (with_reducible assumption) | assumption)
              obtain ⟨ad112, e112, hx112_0⟩ := Kd.at_int HR0.out x8_1 p112 q112
              cases e112
              replace p112 := eq_true p112
              replace q112 := eq_true q112
              go_wp2
              go_roundg k1
              case measure => have := HK1.out; omega
              case rel => exact ⟨(wrap64 (x8_1 + 1)), (by first | rfl | (simp; done) | (simp [*]; done)), H', ⟨by have := HK1.out; omega⟩, by repeat (first | exact Drawn0.refl _ | apply Drawn0.step)⟩
            · rw [if_neg c5] at H
              have c5b0 : ((rd l0 x8_1) == 0) = false := beq_eq_false_iff_ne.mpr c5
              have c5b1 : ((rd l0 x8_1) != 0) = true := bne_iff_ne.mpr c5
              obtain rfl := Option.some.inj H
              have p112 : 0 ≤ (x8_1 : Int) := of_decide_eq_true (by first | (with_reducible assumption) | assumption)
              have q112 : x8_1 < (l0.length : Int) := of_decide_eq_true (by first | (with_reducible assumption) | assumption)
              obtain ⟨ad112, e112, hx112_0⟩ := Kd.at_int HR0.out x8_1 p112 q112
              cases e112
              replace p112 := eq_true p112
              replace q112 := eq_true q112
              go_wp2
              go_ret
              exact ⟨by first | rfl | (simp; done) | (simp [*]; done), by repeat (first | exact Drawn0.refl _ | apply Drawn0.step)⟩
          · rw [if_neg c4] at H
            exact absurd H (by simp)
        · rw [if_neg c3] at H
          exact absurd H (by simp)
      · rw [if_neg c2] at H
        have c2b0 : decide (x8_1 < (l0.length : Int)) = false := decide_eq_false c2
        clear c2
        obtain rfl := Option.some.inj H
        go_wp2
        go_ret
        exact ⟨by first | rfl | (simp; done) | (simp [*]; done), by repeat (first | exact Drawn0.refl _ | apply Drawn0.step)⟩
def cmp_isNaN_int64.f (a0 : Int) : Option (Bool) := some (a0 != a0)
set_option maxHeartbeats 8000000 in
set_option maxRecDepth 100000 in
theorem cmp_isNaN_int64.calls (a0 : Int) (r : Bool) (w : World) (h : cmp_isNaN_int64.f a0 = some r) :
    Calls Try.prog 87 #[.int .i64 a0] w fun e w' => e = .returned (.bool r) ∧ Drawn0 w w' := by
  have H : (some (a0 != a0)) = some r := h
  clear h
  obtain rfl := Option.some.inj H
  go_enter Try.func87, Try.ntmps87
  go_wp2
  go_ret
  exact ⟨by first | rfl | (simp; done) | (simp [*]; done), by repeat (first | exact Drawn0.refl _ | apply Drawn0.step)⟩
def cmp_Compare_int64.f (a0 : Int) (a1 : Int) : Option (Int) := (cmp_isNaN_int64.f a0).bind fun t113 => ((cmp_isNaN_int64.f a1).bind fun t114 => (if t113 = true then (if t114 = true then (some 0) else (some (-1))) else (if t114 = true then (some 1) else (if a0 < a1 then (some (-1)) else (if a0 > a1 then (some 1) else (some 0))))))
set_option maxHeartbeats 8000000 in
set_option maxRecDepth 100000 in
theorem cmp_Compare_int64.calls (a0 : Int) (a1 : Int) (r : Int) (w : World) (h : cmp_Compare_int64.f a0 a1 = some r) :
    Calls Try.prog 67 #[.int .i64 a0, .int .i64 a1] w fun e w' => e = .returned (.int .i64 r) ∧ Drawn0 w w' := by
  have H : ((cmp_isNaN_int64.f a0).bind fun t113 => ((cmp_isNaN_int64.f a1).bind fun t114 => (if t113 = true then (if t114 = true then (some 0) else (some (-1))) else (if t114 = true then (some 1) else (if a0 < a1 then (some (-1)) else (if a0 > a1 then (some 1) else (some 0))))))) = some r := h
  clear h
  replace H := Option.bind_eq_some_iff.mp H
  obtain ⟨t113, A30, H⟩ := H
  replace H : ((cmp_isNaN_int64.f a1).bind fun t114 => (if t113 = true then (if t114 = true then (some 0) else (some (-1))) else (if t114 = true then (some 1) else (if a0 < a1 then (some (-1)) else (if a0 > a1 then (some 1) else (some 0)))))) = some r := H
  have A3 := Aside0.mk A30
  clear A30
  replace H := Option.bind_eq_some_iff.mp H
  obtain ⟨t114, A40, H⟩ := H
  replace H : (if t113 = true then (if t114 = true then (some 0) else (some (-1))) else (if t114 = true then (some 1) else (if a0 < a1 then (some (-1)) else (if a0 > a1 then (some 1) else (some 0))))) = some r := H
  have A4 := Aside0.mk A40
  clear A40
  by_cases c5 : t113 = true
  · subst c5
    have H1 : (if t114 = true then (some 0) else (some (-1))) = some r := by rw [if_pos rfl] at H; exact H
    clear H
    have H := H1
    clear H1
    by_cases c6 : t114 = true
    · subst c6
      have H1 : (some 0) = some r := by rw [if_pos rfl] at H; exact H
      clear H
      have H := H1
      clear H1
      obtain rfl := Option.some.inj H
      go_enter Try.func67, Try.ntmps67
      go_wp2_with (first | ((with_reducible refine gate_callee (f := 87) rfl ?_); refine goesL_ (some 8) rfl rfl Try.func87 (by kernel_rfl) rfl #[.int .i64 a0] rfl (by (try simp only [List.map_toArray, List.map_cons, List.map_nil]); first | done | rfl | (simp only [List.length_drop, List.length_take]; rfl)) ?_; (with_reducible refine (cmp_isNaN_int64.calls a0 true _ A3.out).mono ?_); rintro e w' ⟨rfl, ⟨nd, rfl⟩⟩; refine ⟨_, rfl, ?_⟩) | ((with_reducible refine gate_callee (f := 87) rfl ?_); refine goesL_ (some 10) rfl rfl Try.func87 (by kernel_rfl) rfl #[.int .i64 a1] rfl (by (try simp only [List.map_toArray, List.map_cons, List.map_nil]); first | done | rfl | (simp only [List.length_drop, List.length_take]; rfl)) ?_; (with_reducible refine (cmp_isNaN_int64.calls a1 true _ A4.out).mono ?_); rintro e w' ⟨rfl, ⟨nd, rfl⟩⟩; refine ⟨_, rfl, ?_⟩))
      go_ret
      exact ⟨by first | rfl | (simp; done) | (simp [*]; done), by repeat (first | exact Drawn0.refl _ | apply Drawn0.step)⟩
    · replace c6 := Bool.eq_false_iff.mpr c6
      subst c6
      have H1 : (some (-1)) = some r := by rw [if_neg (show ¬ (false = true) by decide)] at H; exact H
      clear H
      have H := H1
      clear H1
      obtain rfl := Option.some.inj H
      go_enter Try.func67, Try.ntmps67
      go_wp2_with (first | ((with_reducible refine gate_callee (f := 87) rfl ?_); refine goesL_ (some 8) rfl rfl Try.func87 (by kernel_rfl) rfl #[.int .i64 a0] rfl (by (try simp only [List.map_toArray, List.map_cons, List.map_nil]); first | done | rfl | (simp only [List.length_drop, List.length_take]; rfl)) ?_; (with_reducible refine (cmp_isNaN_int64.calls a0 true _ A3.out).mono ?_); rintro e w' ⟨rfl, ⟨nd, rfl⟩⟩; refine ⟨_, rfl, ?_⟩) | ((with_reducible refine gate_callee (f := 87) rfl ?_); refine goesL_ (some 10) rfl rfl Try.func87 (by kernel_rfl) rfl #[.int .i64 a1] rfl (by (try simp only [List.map_toArray, List.map_cons, List.map_nil]); first | done | rfl | (simp only [List.length_drop, List.length_take]; rfl)) ?_; (with_reducible refine (cmp_isNaN_int64.calls a1 false _ A4.out).mono ?_); rintro e w' ⟨rfl, ⟨nd, rfl⟩⟩; refine ⟨_, rfl, ?_⟩))
      go_ret
      exact ⟨by first | rfl | (simp; done) | (simp [*]; done), by repeat (first | exact Drawn0.refl _ | apply Drawn0.step)⟩
  · replace c5 := Bool.eq_false_iff.mpr c5
    subst c5
    have H1 : (if t114 = true then (some 1) else (if a0 < a1 then (some (-1)) else (if a0 > a1 then (some 1) else (some 0)))) = some r := by rw [if_neg (show ¬ (false = true) by decide)] at H; exact H
    clear H
    have H := H1
    clear H1
    by_cases c7 : t114 = true
    · subst c7
      have H1 : (some 1) = some r := by rw [if_pos rfl] at H; exact H
      clear H
      have H := H1
      clear H1
      obtain rfl := Option.some.inj H
      go_enter Try.func67, Try.ntmps67
      go_wp2_with (first | ((with_reducible refine gate_callee (f := 87) rfl ?_); refine goesL_ (some 8) rfl rfl Try.func87 (by kernel_rfl) rfl #[.int .i64 a0] rfl (by (try simp only [List.map_toArray, List.map_cons, List.map_nil]); first | done | rfl | (simp only [List.length_drop, List.length_take]; rfl)) ?_; (with_reducible refine (cmp_isNaN_int64.calls a0 false _ A3.out).mono ?_); rintro e w' ⟨rfl, ⟨nd, rfl⟩⟩; refine ⟨_, rfl, ?_⟩) | ((with_reducible refine gate_callee (f := 87) rfl ?_); refine goesL_ (some 10) rfl rfl Try.func87 (by kernel_rfl) rfl #[.int .i64 a1] rfl (by (try simp only [List.map_toArray, List.map_cons, List.map_nil]); first | done | rfl | (simp only [List.length_drop, List.length_take]; rfl)) ?_; (with_reducible refine (cmp_isNaN_int64.calls a1 true _ A4.out).mono ?_); rintro e w' ⟨rfl, ⟨nd, rfl⟩⟩; refine ⟨_, rfl, ?_⟩))
      go_ret
      exact ⟨by first | rfl | (simp; done) | (simp [*]; done), by repeat (first | exact Drawn0.refl _ | apply Drawn0.step)⟩
    · replace c7 := Bool.eq_false_iff.mpr c7
      subst c7
      have H1 : (if a0 < a1 then (some (-1)) else (if a0 > a1 then (some 1) else (some 0))) = some r := by rw [if_neg (show ¬ (false = true) by decide)] at H; exact H
      clear H
      have H := H1
      clear H1
      by_cases c8 : a0 < a1
      · rw [if_pos c8] at H
        have c8b0 : decide (a0 < a1) = true := decide_eq_true c8
        clear c8
        obtain rfl := Option.some.inj H
        go_enter Try.func67, Try.ntmps67
        go_wp2_with (first | ((with_reducible refine gate_callee (f := 87) rfl ?_); refine goesL_ (some 8) rfl rfl Try.func87 (by kernel_rfl) rfl #[.int .i64 a0] rfl (by (try simp only [List.map_toArray, List.map_cons, List.map_nil]); first | done | rfl | (simp only [List.length_drop, List.length_take]; rfl)) ?_; (with_reducible refine (cmp_isNaN_int64.calls a0 false _ A3.out).mono ?_); rintro e w' ⟨rfl, ⟨nd, rfl⟩⟩; refine ⟨_, rfl, ?_⟩) | ((with_reducible refine gate_callee (f := 87) rfl ?_); refine goesL_ (some 10) rfl rfl Try.func87 (by kernel_rfl) rfl #[.int .i64 a1] rfl (by (try simp only [List.map_toArray, List.map_cons, List.map_nil]); first | done | rfl | (simp only [List.length_drop, List.length_take]; rfl)) ?_; (with_reducible refine (cmp_isNaN_int64.calls a1 false _ A4.out).mono ?_); rintro e w' ⟨rfl, ⟨nd, rfl⟩⟩; refine ⟨_, rfl, ?_⟩))
        go_ret
        exact ⟨by first | rfl | (simp; done) | (simp [*]; done), by repeat (first | exact Drawn0.refl _ | apply Drawn0.step)⟩
      · rw [if_neg c8] at H
        have c8b0 : decide (a0 < a1) = false := decide_eq_false c8
        clear c8
        by_cases c9 : a0 > a1
        · rw [if_pos c9] at H
          have c9b0 : decide (a1 < a0) = true := decide_eq_true c9
          clear c9
          obtain rfl := Option.some.inj H
          go_enter Try.func67, Try.ntmps67
          go_wp2_with (first | ((with_reducible refine gate_callee (f := 87) rfl ?_); refine goesL_ (some 8) rfl rfl Try.func87 (by kernel_rfl) rfl #[.int .i64 a0] rfl (by (try simp only [List.map_toArray, List.map_cons, List.map_nil]); first | done | rfl | (simp only [List.length_drop, List.length_take]; rfl)) ?_; (with_reducible refine (cmp_isNaN_int64.calls a0 false _ A3.out).mono ?_); rintro e w' ⟨rfl, ⟨nd, rfl⟩⟩; refine ⟨_, rfl, ?_⟩) | ((with_reducible refine gate_callee (f := 87) rfl ?_); refine goesL_ (some 10) rfl rfl Try.func87 (by kernel_rfl) rfl #[.int .i64 a1] rfl (by (try simp only [List.map_toArray, List.map_cons, List.map_nil]); first | done | rfl | (simp only [List.length_drop, List.length_take]; rfl)) ?_; (with_reducible refine (cmp_isNaN_int64.calls a1 false _ A4.out).mono ?_); rintro e w' ⟨rfl, ⟨nd, rfl⟩⟩; refine ⟨_, rfl, ?_⟩))
          go_ret
          exact ⟨by first | rfl | (simp; done) | (simp [*]; done), by repeat (first | exact Drawn0.refl _ | apply Drawn0.step)⟩
        · rw [if_neg c9] at H
          have c9b0 : decide (a1 < a0) = false := decide_eq_false c9
          clear c9
          obtain rfl := Option.some.inj H
          go_enter Try.func67, Try.ntmps67
          go_wp2_with (first | ((with_reducible refine gate_callee (f := 87) rfl ?_); refine goesL_ (some 8) rfl rfl Try.func87 (by kernel_rfl) rfl #[.int .i64 a0] rfl (by (try simp only [List.map_toArray, List.map_cons, List.map_nil]); first | done | rfl | (simp only [List.length_drop, List.length_take]; rfl)) ?_; (with_reducible refine (cmp_isNaN_int64.calls a0 false _ A3.out).mono ?_); rintro e w' ⟨rfl, ⟨nd, rfl⟩⟩; refine ⟨_, rfl, ?_⟩) | ((with_reducible refine gate_callee (f := 87) rfl ?_); refine goesL_ (some 10) rfl rfl Try.func87 (by kernel_rfl) rfl #[.int .i64 a1] rfl (by (try simp only [List.map_toArray, List.map_cons, List.map_nil]); first | done | rfl | (simp only [List.length_drop, List.length_take]; rfl)) ?_; (with_reducible refine (cmp_isNaN_int64.calls a1 false _ A4.out).mono ?_); rintro e w' ⟨rfl, ⟨nd, rfl⟩⟩; refine ⟨_, rfl, ?_⟩))
          go_ret
          exact ⟨by first | rfl | (simp; done) | (simp [*]; done), by repeat (first | exact Drawn0.refl _ | apply Drawn0.step)⟩
def value_Compare.f (k : Nat) (a0_0 : Int) (a0_1 : Int) (a1_0 : Int) (a1_1 : Int) : Option (Int) := (cmp_Compare_int64.f a0_0 a1_0).bind fun t117 => ((cmp_Compare_int64.f a0_1 a1_1).bind fun t118 => ((cmp_Or_int.f k (([t117, t118] : List Int))).bind fun t122 => (some t122)))
def value_Compare.T1 : Bool × List (List Nat × List Nat) := (true, [([], []), ([0], [0]), ([], []), ([2], [2]), ([1, 3], [1, 3]), ([], []), ([5], [5]), ([], []), ([7], [7]), ([6, 8, 4], [6, 8]), ([4, 9], [4, 9]), ([10, 9], [10]), ([11, 11, 0, 1, 2, 3, 4, 5, 6, 7, 8, 9, 10, 11], [11])])
def value_Compare.B1 : List Nat := [0, 1, 0, 4, 15, 0, 32, 0, 128, 511, 1023, 2047, 4095]
theorem value_Compare.tab1 : rtab .any (opsOf Try.f48 1) = value_Compare.T1 := by kernel_rfl
theorem value_Compare.bits1 : waitsOk value_Compare.T1.2 value_Compare.B1 = true := by kernel_rfl
def tailraceref12_Alike.l0 : Nat → List (S36) → List (S36) → Int → Option (Bool)
  | 0, _, _, _ => none
  | k + 1, x0, x1, x5 => if x5 < (x0.length : Int) then (if 0 ≤ x5 then (if x5 < (x1.length : Int) then (if (!(((rd_T36 x0 x5).f0) == ((rd_T36 x1 x5).f0)) || (!(((rd_T36 x0 x5).f1) == ((rd_T36 x1 x5).f1)))) = true then (some false) else (tailraceref12_Alike.l0 k x0 x1 (wrap64 (x5 + 1)))) else (none)) else (none)) else (some true)
def tailraceref12_Alike.f (k : Nat) (l0 : List (S36)) (l1 : List (S36)) : Option (Bool) := if (l0.length : Int) = (l1.length : Int) then (tailraceref12_Alike.l0 k l0 l1 0) else (some false)
set_option maxHeartbeats 8000000 in
set_option maxRecDepth 100000 in
theorem tailraceref12_Alike.calls (k : Nat) (A0 : Option Addr) (c0 : Nat) (l0 : List (S36)) (A1 : Option Addr) (c1 : Nat) (l1 : List (S36)) (r : Bool) (w : World) (hr0 : Kd.C k36 w A0 l0.length l0) (hc0 : l0.length ≤ c0) (hr1 : Kd.C k36 w A1 l1.length l1) (hc1 : l1.length ≤ c1) (h : tailraceref12_Alike.f k l0 l1 = some r) :
    Calls Try.prog 14 #[.slice A0 l0.length c0, .slice A1 l1.length c1] w fun e w' => e = .returned (.bool r) ∧ Drawn0 w w' := by
  have hu36 := Try.underlying36
  have HR0 := Aside0.mk hr0
  have HC0 := Aside0.mk hc0
  clear hr0 hc0
  have HR1 := Aside0.mk hr1
  have HC1 := Aside0.mk hc1
  clear hr1 hc1
  have H : (if (l0.length : Int) = (l1.length : Int) then (tailraceref12_Alike.l0 k l0 l1 0) else (some false)) = some r := h
  clear h
  by_cases c3 : (l0.length : Int) = (l1.length : Int)
  · rw [if_pos c3] at H
    have c3b0 : ((l0.length : Int) == (l1.length : Int)) = true := beq_iff_eq.mpr c3
    have c3b1 : ((l0.length : Int) != (l1.length : Int)) = false := bne_eq_false_iff_eq.mpr c3
    have c3b2 : (l0.length == l1.length) = true := by first | simpa using c3 | (simp at c3 ⊢; omega)
    clear c3
    have H' := Aside0.mk H
    clear H
    go_enter Try.func14, Try.ntmps14
    go_wp2
    repeat (go_quiet (fail); try go_wp2)
    go_loopg [5] k (fun kq v5 w' => ∃ (x5_1 : Int), v5 = .int .i64 x5_1 ∧ Aside0 (tailraceref12_Alike.l0 kq l0 l1 x5_1 = some r) ∧ Aside0 (kq ≤ k) ∧ Drawn0 w w')
    case atStart => exact ⟨(0), (by first | rfl | (simp; done) | (simp [*]; done)), H', ⟨Nat.le_refl _⟩, by repeat (first | exact Drawn0.refl _ | apply Drawn0.step)⟩
    case round =>
      clear H'
      try clear c1
      try clear p2
      try clear c3
      try clear c3b0
      try clear c3b1
      try clear c3b2
      obtain ⟨x5_1, rfl, HA, HK1, ⟨m1, rfl⟩⟩ := hrel
      cases gk with
      | zero => exact absurd HA.out (by simp [tailraceref12_Alike.l0])
      | succ k1 =>
        have H := HA.out
        clear HA
        simp only [tailraceref12_Alike.l0] at H
        by_cases c4 : x5_1 < (l0.length : Int)
        · rw [if_pos c4] at H
          have c4b0 : decide (x5_1 < (l0.length : Int)) = true := decide_eq_true c4
          clear c4
          by_cases c5 : 0 ≤ x5_1
          · rw [if_pos c5] at H
            have c5b0 : decide (0 ≤ x5_1) = true := decide_eq_true c5
            clear c5
            by_cases c6 : x5_1 < (l1.length : Int)
            · rw [if_pos c6] at H
              have c6b0 : decide (x5_1 < (l1.length : Int)) = true := decide_eq_true c6
              clear c6
              by_cases c7 : (!(((rd_T36 l0 x5_1).f0) == ((rd_T36 l1 x5_1).f0)) || (!(((rd_T36 l0 x5_1).f1) == ((rd_T36 l1 x5_1).f1)))) = true
              · rw [if_pos c7] at H
                have c7b0 : (!(((rd_T36 l0 x5_1).f0) == ((rd_T36 l1 x5_1).f0)) || (!(((rd_T36 l0 x5_1).f1) == ((rd_T36 l1 x5_1).f1)))) = true := c7
                clear c7
                obtain rfl := Option.some.inj H
                have p131 : 0 ≤ (x5_1 : Int) := of_decide_eq_true (by first | (with_reducible assumption) | assumption)
                have q131 : x5_1 < (l0.length : Int) := of_decide_eq_true (by first | (with_reducible assumption) | assumption)
                obtain ⟨ad131, e131, hx131_0, hx131_1⟩ := at_T36 HR0.out x5_1 p131 q131
                cases e131
                replace p131 := eq_true p131
                replace q131 := eq_true q131
                have p132 : 0 ≤ (x5_1 : Int) := of_decide_eq_true (by first | (with_reducible assumption) | assumption)
                have q132 : x5_1 < (l1.length : Int) := of_decide_eq_true (by first | (with_reducible assumption) | assumption)
                obtain ⟨ad132, e132, hx132_0, hx132_1⟩ := at_T36 HR1.out x5_1 p132 q132
                cases e132
                replace p132 := eq_true p132
                replace q132 := eq_true q132
                go_wp2
                repeat (go_quiet (fail); try go_wp2)
                go_ret
                exact ⟨by first | rfl | (simp; done) | (simp [*]; done), by repeat (first | exact Drawn0.refl _ | apply Drawn0.step)⟩
              · rw [if_neg c7] at H
                have c7b0 : (!(((rd_T36 l0 x5_1).f0) == ((rd_T36 l1 x5_1).f0)) || (!(((rd_T36 l0 x5_1).f1) == ((rd_T36 l1 x5_1).f1)))) = false := by simpa using c7
                clear c7
                have H' := Aside0.mk H
                clear H
                have p131 : 0 ≤ (x5_1 : Int) := of_decide_eq_true (by first | (with_reducible assumption) | assumption)
                have q131 : x5_1 < (l0.length : Int) := of_decide_eq_true (by first | (with_reducible assumption) | assumption)
                obtain ⟨ad131, e131, hx131_0, hx131_1⟩ := at_T36 HR0.out x5_1 p131 q131
                cases e131
                replace p131 := eq_true p131
                replace q131 := eq_true q131
                have p132 : 0 ≤ (x5_1 : Int) := of_decide_eq_true (by first | (with_reducible assumption) | assumption)
                have q132 : x5_1 < (l1.length : Int) := of_decide_eq_true (by first | (with_reducible assumption) | assumption)
                obtain ⟨ad132, e132, hx132_0, hx132_1⟩ := at_T36 HR1.out x5_1 p132 q132
                cases e132
                replace p132 := eq_true p132
                replace q132 := eq_true q132
                go_wp2
                repeat (go_quiet (fail); try go_wp2)
                go_roundg k1
                case measure => have := HK1.out; omega
                case rel => exact ⟨(wrap64 (x5_1 + 1)), (by first | rfl | (simp; done) | (simp [*]; done)), H', ⟨by have := HK1.out; omega⟩, by repeat (first | exact Drawn0.refl _ | apply Drawn0.step)⟩
            · rw [if_neg c6] at H
              exact absurd H (by simp)
          · rw [if_neg c5] at H
            exact absurd H (by simp)
        · rw [if_neg c4] at H
          have c4b0 : decide (x5_1 < (l0.length : Int)) = false := decide_eq_false c4
          clear c4
          obtain rfl := Option.some.inj H
          go_wp2
          repeat (go_quiet (fail); try go_wp2)
          go_ret
          exact ⟨by first | rfl | (simp; done) | (simp [*]; done), by repeat (first | exact Drawn0.refl _ | apply Drawn0.step)⟩
  · rw [if_neg c3] at H
    have c3b0 : ((l0.length : Int) == (l1.length : Int)) = false := beq_eq_false_iff_ne.mpr c3
    have c3b1 : ((l0.length : Int) != (l1.length : Int)) = true := bne_iff_ne.mpr c3
    have c3b2 : (l0.length == l1.length) = false := by first | simpa using c3 | (simp at c3 ⊢; omega)
    obtain rfl := Option.some.inj H
    go_enter Try.func14, Try.ntmps14
    go_wp2
    repeat (go_quiet (fail); try go_wp2)
    go_ret
    exact ⟨by first | rfl | (simp; done) | (simp [*]; done), by repeat (first | exact Drawn0.refl _ | apply Drawn0.step)⟩
end Go.Proofs.Ytcihpjkjodhdpaa.X
namespace Go.Proofs.Ytcihpjkjodhdpaa.X
set_option linter.unusedVariables false
set_option linter.unusedSimpArgs false
open Go.RowKit Go.Proofs.YtcihpjkjodhdpaaW.PrintWords Go.Proofs.YtcihpjkjodhdpaaW.PrintLast Go.Proofs.YtcihpjkjodhdpaaW.PrintMore
def wrongIn (G : List S24) (x : Int) : Bool := decide (x < 0) || decide ((G.length : Int) ≤ x) || ((rd_T24 G x).f0 == 10)
set_option maxHeartbeats 2000000 in
theorem wrong_calls (G : List S24) (x : Int) (A : Option Addr) (c : Nat) (gb : Nat) (w : World) (hb : w.cell? ⟨gb, 0, none⟩ = some (.slice A G.length c)) (hr : Kd.C k24 w A G.length G) :
    Calls Try.prog 73 #[.int .i64 x, .pointer (some ⟨gb, 0, none⟩)] w fun e w' => e = .returned (.bool (wrongIn G x)) ∧ ∃ q', w' = w.drewN q' := by
  have HR := Aside0.mk hr
  have HLEN : G.length ≤ 9223372036854775807 := hr.2.1
  clear hr
  by_cases h : x < 0
  · go_enter Try.func73, Try.ntmps73
    go_wp2
    go_ret
    exact ⟨by simp [wrongIn, h], 0, rfl⟩
  · have h' : 0 ≤ x := by omega
    by_cases h2 : (G.length : Int) ≤ x
    · go_enter Try.func73, Try.ntmps73
      go_wp2
      go_ret
      exact ⟨by simp [wrongIn, h2], 0, rfl⟩
    · have h2' : x < (G.length : Int) := by omega
      obtain ⟨ad, A4, c4, eA, q0, -⟩ := at_T24 HR.out x h' h2'
      subst eA
      generalize hk : (rd_T24 G x).f0 = kk at q0
      have HK := Aside0.mk hk
      clear hk
      have hd1 : decide ((G.length : Int) ≤ x) = false := by simpa using h2
      have hd2 : decide (x < 0) = false := by simpa using h
      have HP := Aside0.mk (show wrongIn G x = (kk == 10) by simp only [wrongIn, hd1, hd2, HK.out]; rfl)
      clear hd1 hd2
      go_enter Try.func73, Try.ntmps73
      go_wp2
      go_ret
      exact ⟨by rw [HP.out]; rfl, 0, rfl⟩
def arityI (k : Int) : Int := if k = 1 then 0 else if k = 4 then 2 else if k = 6 then 2 else 1
theorem arity_calls (k : Int) (w : World) : Calls Try.prog 74 #[.int .u8 k] w fun e w' => e = .returned (.int .i64 (arityI k)) ∧ ∃ m, w' = w.drewN m :=
  (check_arity.calls k (arityI k) w (by by_cases h1 : k = 1 <;> by_cases h2 : k = 4 <;> by_cases h3 : k = 6 <;> simp [check_arity.f, arityI, h1, h2, h3])).mono fun _ _ ⟨h, d⟩ => ⟨h, d.out⟩
def portsB (G : List S24) (kind : Int) (l : List Int) : Bool := ((l.length : Int) == arityI kind) && !l.any (wrongIn G)
def check_ports.f (G : List S24) (kind _b _c _d : Int) (l : List Int) : Option Bool := some (portsB G kind l)
set_option maxHeartbeats 4000000 in
theorem check_ports.calls (A : Option Addr) (c : Nat) (G : List S24) (a0 a1 a2 a3 : Int) (A4 : Option Addr) (c4 : Nat) (l : List Int) (r : Bool) (w : World) (hr : Kd.C k24 w A G.length G) (_hc : G.length ≤ c)
    (hr4 : Kd.C (Kd.int .i64) w A4 l.length l) (_hc4 : l.length ≤ c4) (h : check_ports.f G a0 a1 a2 a3 l = some r) :
    Calls Try.prog 50 #[.slice A G.length c, .agg #[.int .u8 a0, .int .u8 a1, .int .i64 a2, .int .i64 a3, .slice A4 l.length c4]] w fun e w' => e = .returned (.bool r) ∧ Below w.heap.size w w' := by
  have hm : r = portsB G a0 l := by simpa [check_ports.f] using h.symm
  subst hm
  clear h _hc _hc4
  have HR := Aside0.mk hr
  have HR4 := Aside0.mk hr4
  have HLEN : l.length ≤ 9223372036854775807 := hr4.2.1
  have HLEN2 : G.length ≤ 9223372036854775807 := hr.2.1
  clear hr hr4
  have hHB := Aside0.mk (Below.refl w.heap.size w)
  have hA : Asks 73 #[.pointer (some ⟨w.heap.size, 0, none⟩)] (wrongIn G) l ((w.alloc (.cells #[.slice A G.length c] 58)).alloc (.cells #[.int .u8 a0, .int .u8 a1, .int .i64 a2, .int .i64 a3, .slice A4 l.length c4] 24)) :=
    fun j x _ q => wrong_calls G x A c w.heap.size _ (by go_simp) (Kd.C_drewN (Kd.C_alloc (Kd.C_alloc HR.out _) _) _)
  have HA := Aside0.mk hA
  clear hA
  have eg := enters_of Try.func73 (by kernel_rfl) rfl
  by_cases h1 : (l.length : Int) = arityI a0
  · have hb1 : ((l.length : Int) == arityI a0) = true := beq_iff_eq.2 h1
    have HP := Aside0.mk (show portsB G a0 l = !l.any (wrongIn G) by simp [portsB, h1])
    clear h1
    have AC := fun W => arity_calls a0 W
    generalize arityI a0 = ar at hb1 AC
    go_enter Try.func50, Try.ntmps50
    go_wp2
    go_quiet ((first | (go_at_call 74; exact Calls.quiet_of (AC _)) | (go_at_call 75; exact Calls.quiet_of ((contains_calls A4 c4 l 73 #[.pointer (some ⟨w.heap.size, 0, none⟩)] (wrongIn G) eg _ (Kd.C_drewN (Kd.C_alloc (Kd.C_alloc HR4.out _) _) _) (HA.out.drewN _))))))
    go_wp2
    go_ret
    exact ⟨by rw [HP.out]; rfl, pw_below_drewN (below_alloc (below_alloc hHB.out _) _) _⟩
  · have hb1 : ((l.length : Int) == arityI a0) = false := beq_eq_false_iff_ne.2 h1
    have HP := Aside0.mk (show portsB G a0 l = false by simp [portsB, h1])
    clear h1
    have AC := fun W => arity_calls a0 W
    generalize arityI a0 = ar at hb1 AC
    go_enter Try.func50, Try.ntmps50
    go_wp2
    go_quiet ((go_at_call 74; exact Calls.quiet_of (AC _)))
    go_wp2
    go_ret
    exact ⟨by rw [HP.out]; rfl, pw_below_drewN (below_alloc (below_alloc hHB.out _) _) _⟩
end Go.Proofs.Ytcihpjkjodhdpaa.X
namespace Go.Proofs.Ytcihpjkjodhdpaa.X
set_option linter.unusedVariables false
set_option linter.unusedSimpArgs false
open Go.RowKit Go.Proofs.YtcihpjkjodhdpaaW.PrintWords Go.Proofs.YtcihpjkjodhdpaaW.PrintLast Go.Proofs.YtcihpjkjodhdpaaW.PrintMore
def inRange (G : List S24) (x : Int) : Bool := decide (0 ≤ x) && decide (x < (G.length : Int))
def offDepth (G : List S24) (fed x : Int) : Bool := (rd_T24 G x).f3 != fed
set_option maxHeartbeats 2000000 in
theorem off_calls (G : List S24) (x fed : Int) (h0 : 0 ≤ x) (h1 : x < (G.length : Int)) (A : Option Addr) (c : Nat) (gb fb : Nat) (w : World) (hb : w.cell? ⟨gb, 0, none⟩ = some (.slice A G.length c))
    (hf : w.cell? ⟨fb, 0, none⟩ = some (.int .i64 fed)) (hr : Kd.C k24 w A G.length G) :
    Calls Try.prog 76 #[.int .i64 x, .pointer (some ⟨gb, 0, none⟩), .pointer (some ⟨fb, 0, none⟩)] w fun e w' => e = .returned (.bool (offDepth G fed x)) ∧ ∃ q', w' = w.drewN q' := by
  have HR := Aside0.mk hr
  have HLEN : G.length ≤ 9223372036854775807 := hr.2.1
  clear hr
  obtain ⟨ad, A4, c4, eA, -, -, -, q3, -⟩ := at_T24 HR.out x h0 h1
  subst eA
  have HP := Aside0.mk (show offDepth G fed x = ((rd_T24 G x).f3 != fed) from rfl)
  generalize (rd_T24 G x).f3 = kk at q3 HP
  go_enter Try.func76, Try.ntmps76
  go_wp2
  go_quiet (fail)
  go_wp2
  go_ret
  exact ⟨by rw [HP.out]; rfl, _, rfl⟩
def fedI (k d : Int) : Int := if k = 7 then wrap64 (d - 1) else if k = 8 then wrap64 (d + 1) else d
def depthB (G : List S24) (k d : Int) (l : List Int) : Bool :=
  !(k == 9 && decide (d < 1)) && !((k == 1 || k == 10) && d != 0) && decide (0 ≤ d) && decide (d ≤ 3) && !l.any (offDepth G (fedI k d))
def check_depth.f (G : List S24) (k _b _c d : Int) (l : List Int) : Option Bool := if l.all (inRange G) = true then some (depthB G k d l) else none
theorem Asks.off {G : List S24} {A : Option Addr} {c : Nat} {l : List Int} {w W : World} (fed : Int) {gb fb : Nat} (hl : l.all (inRange G) = true)
    (hb : W.cell? ⟨gb, 0, none⟩ = some (.slice A G.length c)) (hf : W.cell? ⟨fb, 0, none⟩ = some (.int .i64 fed)) (hr : Kd.C k24 W A G.length G) :
    Asks 76 #[.pointer (some ⟨gb, 0, none⟩), .pointer (some ⟨fb, 0, none⟩)] (offDepth G fed) l W := fun j x hj q => by
  have hx := List.all_eq_true.1 hl x (List.mem_of_getElem? hj)
  simp only [inRange, Bool.and_eq_true, decide_eq_true_eq] at hx
  exact off_calls G x fed hx.1 hx.2 A c gb fb _ hb hf (Kd.C_drewN hr q)
set_option maxHeartbeats 8000000 in
theorem check_depth.calls (A : Option Addr) (c : Nat) (G : List S24) (a0 a1 a2 a3 : Int) (A4 : Option Addr) (c4 : Nat) (l : List Int) (r : Bool) (w : World) (hr : Kd.C k24 w A G.length G) (_hc : G.length ≤ c)
    (hr4 : Kd.C (Kd.int .i64) w A4 l.length l) (_hc4 : l.length ≤ c4) (h : check_depth.f G a0 a1 a2 a3 l = some r) :
    Calls Try.prog 51 #[.slice A G.length c, .agg #[.int .u8 a0, .int .u8 a1, .int .i64 a2, .int .i64 a3, .slice A4 l.length c4]] w fun e w' => e = .returned (.bool r) ∧ Below w.heap.size w w' := by
  have hm : l.all (inRange G) = true ∧ depthB G a0 a3 l = r := by simpa [check_depth.f] using h
  obtain ⟨hall, rfl⟩ := hm
  clear h _hc _hc4
  have HALL := Aside0.mk hall
  have HR := Aside0.mk hr
  have HR4 := Aside0.mk hr4
  have HLEN : l.length ≤ 9223372036854775807 := hr4.2.1
  have HLEN2 : G.length ≤ 9223372036854775807 := hr.2.1
  clear hr hr4 hall
  have hHB := Aside0.mk (Below.refl w.heap.size w)
  have eg := enters_of Try.func76 (by kernel_rfl) rfl
  have KEY : ∀ fed : Int, ∀ W : World, W = ((w.alloc (.cells #[.slice A G.length c] 58)).alloc (.cells #[.int .u8 a0, .int .u8 a1, .int .i64 a2, .int .i64 a3, .slice A4 l.length c4] 24)).alloc (.cells #[.int .i64 fed] 3) →
      Calls Try.prog 75 #[.slice A4 l.length c4, .func (.func 76) #[] #[.pointer (some ⟨w.heap.size, 0, none⟩), .pointer (some ⟨w.heap.size + 1 + 1, 0, none⟩)]] W fun e w' => e = .returned (.bool (l.any (offDepth G fed))) ∧ ∃ q, w' = W.drewN q := by
    rintro fed W rfl
    exact contains_calls A4 c4 l 76 _ (offDepth G fed) eg _ (Kd.C_alloc (Kd.C_alloc (Kd.C_alloc HR4.out _) _) _) (Asks.off (A := A) (c := c) (w := w) fed HALL.out (by go_simp) (by go_simp) (Kd.C_alloc (Kd.C_alloc (Kd.C_alloc HR.out _) _) _))
  have HKEY := Aside0.mk KEY
  clear KEY eg
  by_cases k7 : a0 = 7
  · subst k7
    by_cases d0 : 0 ≤ a3
    · by_cases d3 : a3 ≤ 3
      · have HP := Aside0.mk (show depthB G 7 a3 l = !l.any (offDepth G (a3 - 1)) by
          have : wrap64 (a3 - 1) = a3 - 1 := IntWalk.wrap64_in _ ⟨by omega, by omega⟩
          simp [depthB, fedI, d0, d3, this])
        go_enter Try.func51, Try.ntmps51
        go_wp2_with (go_at_call 75; refine (HKEY.out _ _ rfl).mono ?_; rintro e w' ⟨rfl, q, rfl⟩)
        go_ret
        exact ⟨by rw [HP.out]; rfl, pw_below_drewN (below_alloc (below_alloc (below_alloc hHB.out _) _) _) _⟩
      · have d3' : 3 < a3 := by omega
        have HP := Aside0.mk (show depthB G 7 a3 l = false by simp [depthB, d3])
        go_enter Try.func51, Try.ntmps51
        go_wp2
        go_ret
        exact ⟨by rw [HP.out]; rfl, below_alloc (below_alloc (below_alloc hHB.out _) _) _⟩
    · have d0' : a3 < 0 := by omega
      have HP := Aside0.mk (show depthB G 7 a3 l = false by simp [depthB, d0])
      go_enter Try.func51, Try.ntmps51
      go_wp2
      go_ret
      exact ⟨by rw [HP.out]; rfl, below_alloc (below_alloc (below_alloc hHB.out _) _) _⟩
  by_cases k8 : a0 = 8
  · subst k8
    by_cases d0 : 0 ≤ a3
    · by_cases d3 : a3 ≤ 3
      · have HP := Aside0.mk (show depthB G 8 a3 l = !l.any (offDepth G (a3 + 1)) by
          have : wrap64 (a3 + 1) = a3 + 1 := IntWalk.wrap64_in _ ⟨by omega, by omega⟩
          simp [depthB, fedI, d0, d3, this])
        go_enter Try.func51, Try.ntmps51
        go_wp2_with (go_at_call 75; refine (HKEY.out _ _ rfl).mono ?_; rintro e w' ⟨rfl, q, rfl⟩)
        go_ret
        exact ⟨by rw [HP.out]; rfl, pw_below_drewN (below_alloc (below_alloc (below_alloc hHB.out _) _) _) _⟩
      · have d3' : 3 < a3 := by omega
        have HP := Aside0.mk (show depthB G 8 a3 l = false by simp [depthB, d3])
        go_enter Try.func51, Try.ntmps51
        go_wp2
        go_ret
        exact ⟨by rw [HP.out]; rfl, below_alloc (below_alloc (below_alloc hHB.out _) _) _⟩
    · have d0' : a3 < 0 := by omega
      have HP := Aside0.mk (show depthB G 8 a3 l = false by simp [depthB, d0])
      go_enter Try.func51, Try.ntmps51
      go_wp2
      go_ret
      exact ⟨by rw [HP.out]; rfl, below_alloc (below_alloc (below_alloc hHB.out _) _) _⟩
  by_cases k9 : a0 = 9
  · subst k9
    by_cases d1 : a3 < 1
    · have HP := Aside0.mk (show depthB G 9 a3 l = false by simp [depthB, d1])
      go_enter Try.func51, Try.ntmps51
      go_wp2
      go_ret
      exact ⟨by rw [HP.out]; rfl, below_alloc (below_alloc (below_alloc hHB.out _) _) _⟩
    · have d1' : 1 ≤ a3 := by omega
      have d0 : 0 ≤ a3 := by omega
      by_cases d3 : a3 ≤ 3
      · have HP := Aside0.mk (show depthB G 9 a3 l = !l.any (offDepth G a3) by simp [depthB, fedI, d0, d1, d3])
        go_enter Try.func51, Try.ntmps51
        go_wp2_with (go_at_call 75; refine (HKEY.out _ _ rfl).mono ?_; rintro e w' ⟨rfl, q, rfl⟩)
        go_ret
        exact ⟨by rw [HP.out]; rfl, pw_below_drewN (below_alloc (below_alloc (below_alloc hHB.out _) _) _) _⟩
      · have d3' : 3 < a3 := by omega
        have HP := Aside0.mk (show depthB G 9 a3 l = false by simp [depthB, d3])
        go_enter Try.func51, Try.ntmps51
        go_wp2
        go_ret
        exact ⟨by rw [HP.out]; rfl, below_alloc (below_alloc (below_alloc hHB.out _) _) _⟩
  by_cases k1 : a0 = 1
  · subst k1
    by_cases d1 : a3 = 0
    · subst d1
      have HP := Aside0.mk (show depthB G 1 0 l = !l.any (offDepth G 0) by simp [depthB, fedI])
      go_enter Try.func51, Try.ntmps51
      go_wp2_with (go_at_call 75; refine (HKEY.out _ _ rfl).mono ?_; rintro e w' ⟨rfl, q, rfl⟩)
      go_ret
      exact ⟨by rw [HP.out]; rfl, pw_below_drewN (below_alloc (below_alloc (below_alloc hHB.out _) _) _) _⟩
    · have d1b : (a3 != 0) = true := bne_iff_ne.2 d1
      have HP := Aside0.mk (show depthB G 1 a3 l = false by simp [depthB, d1])
      clear d1
      go_enter Try.func51, Try.ntmps51
      go_wp2
      go_ret
      exact ⟨by rw [HP.out]; rfl, below_alloc (below_alloc (below_alloc hHB.out _) _) _⟩
  by_cases k10 : a0 = 10
  · subst k10
    by_cases d1 : a3 = 0
    · subst d1
      have HP := Aside0.mk (show depthB G 10 0 l = !l.any (offDepth G 0) by simp [depthB, fedI])
      go_enter Try.func51, Try.ntmps51
      go_wp2_with (go_at_call 75; refine (HKEY.out _ _ rfl).mono ?_; rintro e w' ⟨rfl, q, rfl⟩)
      go_ret
      exact ⟨by rw [HP.out]; rfl, pw_below_drewN (below_alloc (below_alloc (below_alloc hHB.out _) _) _) _⟩
    · have d1b : (a3 != 0) = true := bne_iff_ne.2 d1
      have HP := Aside0.mk (show depthB G 10 a3 l = false by simp [depthB, d1])
      clear d1
      go_enter Try.func51, Try.ntmps51
      go_wp2
      go_ret
      exact ⟨by rw [HP.out]; rfl, below_alloc (below_alloc (below_alloc hHB.out _) _) _⟩
  have b7 : (a0 == 7) = false := beq_eq_false_iff_ne.2 k7
  have b8 : (a0 == 8) = false := beq_eq_false_iff_ne.2 k8
  have b9 : (a0 == 9) = false := beq_eq_false_iff_ne.2 k9
  have b1 : (a0 == 1) = false := beq_eq_false_iff_ne.2 k1
  have b10 : (a0 == 10) = false := beq_eq_false_iff_ne.2 k10
  have HF := Aside0.mk (show fedI a0 a3 = a3 by simp [fedI, k7, k8])
  clear k7 k8 k9 k1 k10
  by_cases d0 : 0 ≤ a3
  · by_cases d3 : a3 ≤ 3
    · have HP := Aside0.mk (show depthB G a0 a3 l = !l.any (offDepth G a3) by
        rw [depthB, HF.out]; simp [d0, d3, b9, b1, b10])
      go_enter Try.func51, Try.ntmps51
      go_wp2_with (go_at_call 75; refine (HKEY.out _ _ rfl).mono ?_; rintro e w' ⟨rfl, q, rfl⟩)
      go_ret
      exact ⟨by rw [HP.out]; rfl, pw_below_drewN (below_alloc (below_alloc (below_alloc hHB.out _) _) _) _⟩
    · have d3' : 3 < a3 := by omega
      have HP := Aside0.mk (show depthB G a0 a3 l = false by simp [depthB, d3])
      go_enter Try.func51, Try.ntmps51
      go_wp2
      go_ret
      exact ⟨by rw [HP.out]; rfl, below_alloc (below_alloc (below_alloc hHB.out _) _) _⟩
  · have d0' : a3 < 0 := by omega
    have HP := Aside0.mk (show depthB G a0 a3 l = false by simp [depthB, d0])
    go_enter Try.func51, Try.ntmps51
    go_wp2
    go_ret
    exact ⟨by rw [HP.out]; rfl, below_alloc (below_alloc (below_alloc hHB.out _) _) _⟩
end Go.Proofs.Ytcihpjkjodhdpaa.X
namespace Go.Proofs.Ytcihpjkjodhdpaa.X
open Go.RowKit Go.Proofs.YtcihpjkjodhdpaaW.PrintWords Go.Proofs.YtcihpjkjodhdpaaW.PrintLast Go.Proofs.YtcihpjkjodhdpaaW.PrintMore
attribute [local go_sem] max2_int min2_int max_two min_two
set_option linter.unusedVariables false
set_option linter.unusedSimpArgs false
def check_numbers_1.f (a0_0 : Int) (a0_1 : Int) (a0_2 : Int) (a0_3 : Int) (l0_4 : List Int) : Option (Bool) := if a0_1 ≤ 3 then (if a0_1 < 3 then (some true) else (some (decide (a0_2 > 0)))) else (some false)
set_option maxHeartbeats 8000000 in
set_option maxRecDepth 100000 in
theorem check_numbers_1.calls (a0_0 : Int) (a0_1 : Int) (a0_2 : Int) (a0_3 : Int) (A0_4 : Option Addr) (c0_4 : Nat) (l0_4 : List Int) (r : Bool) (w : World) (hr0_4 : Kd.C (Kd.int .i64) w A0_4 l0_4.length l0_4) (hc0_4 : l0_4.length ≤ c0_4) (h : check_numbers_1.f a0_0 a0_1 a0_2 a0_3 l0_4 = some r) :
    Calls Try.prog 68 #[.agg #[.int .u8 a0_0, .int .u8 a0_1, .int .i64 a0_2, .int .i64 a0_3, .slice A0_4 l0_4.length c0_4]] w fun e w' => e = .returned (.bool r) ∧ Below w.heap.size w w' := by
  have hu24 := Try.underlying24
  have HR0_4 := Aside0.mk hr0_4
  have HC0_4 := Aside0.mk hc0_4
  clear hr0_4 hc0_4
  have HB := Aside0.mk (Below.refl w.heap.size w)
  have H : (if a0_1 ≤ 3 then (if a0_1 < 3 then (some true) else (some (decide (a0_2 > 0)))) else (some false)) = some r := h
  clear h
  by_cases c2 : a0_1 ≤ 3
  · rw [if_pos c2] at H
    have c2b0 : decide (a0_1 ≤ 3) = true := decide_eq_true c2
    clear c2
    by_cases c3 : a0_1 < 3
    · rw [if_pos c3] at H
      have c3b0 : decide (a0_1 < 3) = true := decide_eq_true c3
      clear c3
      obtain rfl := Option.some.inj H
      go_enter Try.func68, Try.ntmps68
      go_wp2_with (first | ((with_reducible refine gate_dst (N := 1) rfl ?_); refine box_event ?hg (N := 1) ?hd (cs := #[.int .u8 a0_0, .int .u8 a0_1, .int .i64 a0_2, .int .i64 a0_3, .slice A0_4 l0_4.length c0_4]) (t := 24) ?hr ?_; (case hd => rfl); (case hg => rfl); (case hr => first | (go_simp; done) | (go_simp; rfl)); intro gb101 hg w4 hbox hb; have n0_ := Aside0.mk (below_step (by repeat (first | (with_reducible first | exact HB.out | apply below_alloc | apply pw_below_drewN | apply below_drew1) | exact HB.out)) hb); have n1_ := Aside0.mk (hbox); have n2_ := Aside0.mk ((by rw [hg]; exact (below_size (by repeat (first | (with_reducible first | exact HB.out | apply below_alloc | apply pw_below_drewN | apply below_drew1) | exact HB.out))) : w.heap.size ≤ gb101)); have n3_ := Aside0.mk ((by rw [hg]; exact (below_size (by repeat (first | (with_reducible first | exact HB.out | apply below_alloc | apply pw_below_drewN | apply below_drew1) | exact HB.out))) : w.heap.size ≤ gb101)); clear HB; have HB := n0_; have BK101 := n1_; have GW101 := n2_; have GE101 := n3_; clear n0_ n1_ n2_ n3_; clear hb hbox hg; have hcz5_0 : w4.cell? ⟨gb101, 0, none⟩ = some (.int .u8 a0_0) := (blk_cell BK101.out 0).trans rfl; have hcz5_1 : w4.cell? ⟨gb101, 1, none⟩ = some (.int .u8 a0_1) := (blk_cell BK101.out 1).trans rfl; have hcz5_2 : w4.cell? ⟨gb101, 2, none⟩ = some (.int .i64 a0_2) := (blk_cell BK101.out 2).trans rfl; have hcz5_3 : w4.cell? ⟨gb101, 3, none⟩ = some (.int .i64 a0_3) := (blk_cell BK101.out 3).trans rfl; have hcz5_4 : w4.cell? ⟨gb101, 4, none⟩ = some (.slice A0_4 l0_4.length c0_4) := (blk_cell BK101.out 4).trans rfl; have hfz5_0 := blk_frozen BK101.out 0; have hfz5_1 := blk_frozen BK101.out 1; have hfz5_2 := blk_frozen BK101.out 2; have hfz5_3 := blk_frozen BK101.out 3; have hfz5_4 := blk_frozen BK101.out 4))
      go_ret
      exact ⟨by first | rfl | (simp [errW_none, errW_some] <;> rfl) | (simp [*, errW_none, errW_some] <;> rfl), by repeat (first | (with_reducible first | exact HB.out | apply below_alloc | apply pw_below_drewN | apply below_drew1 | refine below_set ?_ GE101.out) | exact HB.out)⟩
    · rw [if_neg c3] at H
      have c3b0 : decide (a0_1 < 3) = false := decide_eq_false c3
      clear c3
      obtain rfl := Option.some.inj H
      go_enter Try.func68, Try.ntmps68
      go_wp2_with (first | ((with_reducible refine gate_dst (N := 1) rfl ?_); refine box_event ?hg (N := 1) ?hd (cs := #[.int .u8 a0_0, .int .u8 a0_1, .int .i64 a0_2, .int .i64 a0_3, .slice A0_4 l0_4.length c0_4]) (t := 24) ?hr ?_; (case hd => rfl); (case hg => rfl); (case hr => first | (go_simp; done) | (go_simp; rfl)); intro gb101 hg w6 hbox hb; have n0_ := Aside0.mk (below_step (by repeat (first | (with_reducible first | exact HB.out | apply below_alloc | apply pw_below_drewN | apply below_drew1) | exact HB.out)) hb); have n1_ := Aside0.mk (hbox); have n2_ := Aside0.mk ((by rw [hg]; exact (below_size (by repeat (first | (with_reducible first | exact HB.out | apply below_alloc | apply pw_below_drewN | apply below_drew1) | exact HB.out))) : w.heap.size ≤ gb101)); have n3_ := Aside0.mk ((by rw [hg]; exact (below_size (by repeat (first | (with_reducible first | exact HB.out | apply below_alloc | apply pw_below_drewN | apply below_drew1) | exact HB.out))) : w.heap.size ≤ gb101)); clear HB; have HB := n0_; have BK101 := n1_; have GW101 := n2_; have GE101 := n3_; clear n0_ n1_ n2_ n3_; clear hb hbox hg; have hcz7_0 : w6.cell? ⟨gb101, 0, none⟩ = some (.int .u8 a0_0) := (blk_cell BK101.out 0).trans rfl; have hcz7_1 : w6.cell? ⟨gb101, 1, none⟩ = some (.int .u8 a0_1) := (blk_cell BK101.out 1).trans rfl; have hcz7_2 : w6.cell? ⟨gb101, 2, none⟩ = some (.int .i64 a0_2) := (blk_cell BK101.out 2).trans rfl; have hcz7_3 : w6.cell? ⟨gb101, 3, none⟩ = some (.int .i64 a0_3) := (blk_cell BK101.out 3).trans rfl; have hcz7_4 : w6.cell? ⟨gb101, 4, none⟩ = some (.slice A0_4 l0_4.length c0_4) := (blk_cell BK101.out 4).trans rfl; have hfz7_0 := blk_frozen BK101.out 0; have hfz7_1 := blk_frozen BK101.out 1; have hfz7_2 := blk_frozen BK101.out 2; have hfz7_3 := blk_frozen BK101.out 3; have hfz7_4 := blk_frozen BK101.out 4))
      go_ret
      exact ⟨by first | rfl | (simp [errW_none, errW_some] <;> rfl) | (simp [*, errW_none, errW_some] <;> rfl), by repeat (first | (with_reducible first | exact HB.out | apply below_alloc | apply pw_below_drewN | apply below_drew1 | refine below_set ?_ GE101.out) | exact HB.out)⟩
  · rw [if_neg c2] at H
    have c2b0 : decide (a0_1 ≤ 3) = false := decide_eq_false c2
    clear c2
    obtain rfl := Option.some.inj H
    go_enter Try.func68, Try.ntmps68
    go_wp2_with (first | ((with_reducible refine gate_dst (N := 1) rfl ?_); refine box_event ?hg (N := 1) ?hd (cs := #[.int .u8 a0_0, .int .u8 a0_1, .int .i64 a0_2, .int .i64 a0_3, .slice A0_4 l0_4.length c0_4]) (t := 24) ?hr ?_; (case hd => rfl); (case hg => rfl); (case hr => first | (go_simp; done) | (go_simp; rfl)); intro gb101 hg w8 hbox hb; have n0_ := Aside0.mk (below_step (by repeat (first | (with_reducible first | exact HB.out | apply below_alloc | apply pw_below_drewN | apply below_drew1) | exact HB.out)) hb); have n1_ := Aside0.mk (hbox); have n2_ := Aside0.mk ((by rw [hg]; exact (below_size (by repeat (first | (with_reducible first | exact HB.out | apply below_alloc | apply pw_below_drewN | apply below_drew1) | exact HB.out))) : w.heap.size ≤ gb101)); have n3_ := Aside0.mk ((by rw [hg]; exact (below_size (by repeat (first | (with_reducible first | exact HB.out | apply below_alloc | apply pw_below_drewN | apply below_drew1) | exact HB.out))) : w.heap.size ≤ gb101)); clear HB; have HB := n0_; have BK101 := n1_; have GW101 := n2_; have GE101 := n3_; clear n0_ n1_ n2_ n3_; clear hb hbox hg; have hcz9_0 : w8.cell? ⟨gb101, 0, none⟩ = some (.int .u8 a0_0) := (blk_cell BK101.out 0).trans rfl; have hcz9_1 : w8.cell? ⟨gb101, 1, none⟩ = some (.int .u8 a0_1) := (blk_cell BK101.out 1).trans rfl; have hcz9_2 : w8.cell? ⟨gb101, 2, none⟩ = some (.int .i64 a0_2) := (blk_cell BK101.out 2).trans rfl; have hcz9_3 : w8.cell? ⟨gb101, 3, none⟩ = some (.int .i64 a0_3) := (blk_cell BK101.out 3).trans rfl; have hcz9_4 : w8.cell? ⟨gb101, 4, none⟩ = some (.slice A0_4 l0_4.length c0_4) := (blk_cell BK101.out 4).trans rfl; have hfz9_0 := blk_frozen BK101.out 0; have hfz9_1 := blk_frozen BK101.out 1; have hfz9_2 := blk_frozen BK101.out 2; have hfz9_3 := blk_frozen BK101.out 3; have hfz9_4 := blk_frozen BK101.out 4))
    go_ret
    exact ⟨by first | rfl | (simp [errW_none, errW_some] <;> rfl) | (simp [*, errW_none, errW_some] <;> rfl), by repeat (first | (with_reducible first | exact HB.out | apply below_alloc | apply pw_below_drewN | apply below_drew1 | refine below_set ?_ GE101.out) | exact HB.out)⟩
def check_numbers_2.f (a0_0 : Int) (a0_1 : Int) (a0_2 : Int) (a0_3 : Int) (l0_4 : List Int) : Option (Bool) := if a0_1 ≤ 2 then (if a0_1 = 1 then (some (decide (a0_2 > 0))) else (some true)) else (some false)
set_option maxHeartbeats 8000000 in
set_option maxRecDepth 100000 in
theorem check_numbers_2.calls (a0_0 : Int) (a0_1 : Int) (a0_2 : Int) (a0_3 : Int) (A0_4 : Option Addr) (c0_4 : Nat) (l0_4 : List Int) (r : Bool) (w : World) (hr0_4 : Kd.C (Kd.int .i64) w A0_4 l0_4.length l0_4) (hc0_4 : l0_4.length ≤ c0_4) (h : check_numbers_2.f a0_0 a0_1 a0_2 a0_3 l0_4 = some r) :
    Calls Try.prog 69 #[.agg #[.int .u8 a0_0, .int .u8 a0_1, .int .i64 a0_2, .int .i64 a0_3, .slice A0_4 l0_4.length c0_4]] w fun e w' => e = .returned (.bool r) ∧ Below w.heap.size w w' := by
  have hu24 := Try.underlying24
  have HR0_4 := Aside0.mk hr0_4
  have HC0_4 := Aside0.mk hc0_4
  clear hr0_4 hc0_4
  have HB := Aside0.mk (Below.refl w.heap.size w)
  have H : (if a0_1 ≤ 2 then (if a0_1 = 1 then (some (decide (a0_2 > 0))) else (some true)) else (some false)) = some r := h
  clear h
  by_cases c2 : a0_1 ≤ 2
  · rw [if_pos c2] at H
    have c2b0 : decide (a0_1 ≤ 2) = true := decide_eq_true c2
    clear c2
    by_cases c3 : a0_1 = 1
    · rw [if_pos c3] at H
      have c3b0 : (a0_1 == 1) = true := beq_iff_eq.mpr c3
      have c3b1 : (a0_1 != 1) = false := bne_eq_false_iff_eq.mpr c3
      clear c3
      obtain rfl := Option.some.inj H
      go_enter Try.func69, Try.ntmps69
      go_wp2_with (first | ((with_reducible refine gate_dst (N := 1) rfl ?_); refine box_event ?hg (N := 1) ?hd (cs := #[.int .u8 a0_0, .int .u8 a0_1, .int .i64 a0_2, .int .i64 a0_3, .slice A0_4 l0_4.length c0_4]) (t := 24) ?hr ?_; (case hd => rfl); (case hg => rfl); (case hr => first | (go_simp; done) | (go_simp; rfl)); intro gb102 hg w4 hbox hb; have n0_ := Aside0.mk (below_step (by repeat (first | (with_reducible first | exact HB.out | apply below_alloc | apply pw_below_drewN | apply below_drew1) | exact HB.out)) hb); have n1_ := Aside0.mk (hbox); have n2_ := Aside0.mk ((by rw [hg]; exact (below_size (by repeat (first | (with_reducible first | exact HB.out | apply below_alloc | apply pw_below_drewN | apply below_drew1) | exact HB.out))) : w.heap.size ≤ gb102)); have n3_ := Aside0.mk ((by rw [hg]; exact (below_size (by repeat (first | (with_reducible first | exact HB.out | apply below_alloc | apply pw_below_drewN | apply below_drew1) | exact HB.out))) : w.heap.size ≤ gb102)); clear HB; have HB := n0_; have BK102 := n1_; have GW102 := n2_; have GE102 := n3_; clear n0_ n1_ n2_ n3_; clear hb hbox hg; have hcz5_0 : w4.cell? ⟨gb102, 0, none⟩ = some (.int .u8 a0_0) := (blk_cell BK102.out 0).trans rfl; have hcz5_1 : w4.cell? ⟨gb102, 1, none⟩ = some (.int .u8 a0_1) := (blk_cell BK102.out 1).trans rfl; have hcz5_2 : w4.cell? ⟨gb102, 2, none⟩ = some (.int .i64 a0_2) := (blk_cell BK102.out 2).trans rfl; have hcz5_3 : w4.cell? ⟨gb102, 3, none⟩ = some (.int .i64 a0_3) := (blk_cell BK102.out 3).trans rfl; have hcz5_4 : w4.cell? ⟨gb102, 4, none⟩ = some (.slice A0_4 l0_4.length c0_4) := (blk_cell BK102.out 4).trans rfl; have hfz5_0 := blk_frozen BK102.out 0; have hfz5_1 := blk_frozen BK102.out 1; have hfz5_2 := blk_frozen BK102.out 2; have hfz5_3 := blk_frozen BK102.out 3; have hfz5_4 := blk_frozen BK102.out 4))
      go_ret
      exact ⟨by first | rfl | (simp [errW_none, errW_some] <;> rfl) | (simp [*, errW_none, errW_some] <;> rfl), by repeat (first | (with_reducible first | exact HB.out | apply below_alloc | apply pw_below_drewN | apply below_drew1 | refine below_set ?_ GE102.out) | exact HB.out)⟩
    · rw [if_neg c3] at H
      have c3b0 : (a0_1 == 1) = false := beq_eq_false_iff_ne.mpr c3
      have c3b1 : (a0_1 != 1) = true := bne_iff_ne.mpr c3
      obtain rfl := Option.some.inj H
      go_enter Try.func69, Try.ntmps69
      go_wp2_with (first | ((with_reducible refine gate_dst (N := 1) rfl ?_); refine box_event ?hg (N := 1) ?hd (cs := #[.int .u8 a0_0, .int .u8 a0_1, .int .i64 a0_2, .int .i64 a0_3, .slice A0_4 l0_4.length c0_4]) (t := 24) ?hr ?_; (case hd => rfl); (case hg => rfl); (case hr => first | (go_simp; done) | (go_simp; rfl)); intro gb102 hg w6 hbox hb; have n0_ := Aside0.mk (below_step (by repeat (first | (with_reducible first | exact HB.out | apply below_alloc | apply pw_below_drewN | apply below_drew1) | exact HB.out)) hb); have n1_ := Aside0.mk (hbox); have n2_ := Aside0.mk ((by rw [hg]; exact (below_size (by repeat (first | (with_reducible first | exact HB.out | apply below_alloc | apply pw_below_drewN | apply below_drew1) | exact HB.out))) : w.heap.size ≤ gb102)); have n3_ := Aside0.mk ((by rw [hg]; exact (below_size (by repeat (first | (with_reducible first | exact HB.out | apply below_alloc | apply pw_below_drewN | apply below_drew1) | exact HB.out))) : w.heap.size ≤ gb102)); clear HB; have HB := n0_; have BK102 := n1_; have GW102 := n2_; have GE102 := n3_; clear n0_ n1_ n2_ n3_; clear hb hbox hg; have hcz7_0 : w6.cell? ⟨gb102, 0, none⟩ = some (.int .u8 a0_0) := (blk_cell BK102.out 0).trans rfl; have hcz7_1 : w6.cell? ⟨gb102, 1, none⟩ = some (.int .u8 a0_1) := (blk_cell BK102.out 1).trans rfl; have hcz7_2 : w6.cell? ⟨gb102, 2, none⟩ = some (.int .i64 a0_2) := (blk_cell BK102.out 2).trans rfl; have hcz7_3 : w6.cell? ⟨gb102, 3, none⟩ = some (.int .i64 a0_3) := (blk_cell BK102.out 3).trans rfl; have hcz7_4 : w6.cell? ⟨gb102, 4, none⟩ = some (.slice A0_4 l0_4.length c0_4) := (blk_cell BK102.out 4).trans rfl; have hfz7_0 := blk_frozen BK102.out 0; have hfz7_1 := blk_frozen BK102.out 1; have hfz7_2 := blk_frozen BK102.out 2; have hfz7_3 := blk_frozen BK102.out 3; have hfz7_4 := blk_frozen BK102.out 4))
      go_ret
      exact ⟨by first | rfl | (simp [errW_none, errW_some] <;> rfl) | (simp [*, errW_none, errW_some] <;> rfl), by repeat (first | (with_reducible first | exact HB.out | apply below_alloc | apply pw_below_drewN | apply below_drew1 | refine below_set ?_ GE102.out) | exact HB.out)⟩
  · rw [if_neg c2] at H
    have c2b0 : decide (a0_1 ≤ 2) = false := decide_eq_false c2
    clear c2
    obtain rfl := Option.some.inj H
    go_enter Try.func69, Try.ntmps69
    go_wp2_with (first | ((with_reducible refine gate_dst (N := 1) rfl ?_); refine box_event ?hg (N := 1) ?hd (cs := #[.int .u8 a0_0, .int .u8 a0_1, .int .i64 a0_2, .int .i64 a0_3, .slice A0_4 l0_4.length c0_4]) (t := 24) ?hr ?_; (case hd => rfl); (case hg => rfl); (case hr => first | (go_simp; done) | (go_simp; rfl)); intro gb102 hg w8 hbox hb; have n0_ := Aside0.mk (below_step (by repeat (first | (with_reducible first | exact HB.out | apply below_alloc | apply pw_below_drewN | apply below_drew1) | exact HB.out)) hb); have n1_ := Aside0.mk (hbox); have n2_ := Aside0.mk ((by rw [hg]; exact (below_size (by repeat (first | (with_reducible first | exact HB.out | apply below_alloc | apply pw_below_drewN | apply below_drew1) | exact HB.out))) : w.heap.size ≤ gb102)); have n3_ := Aside0.mk ((by rw [hg]; exact (below_size (by repeat (first | (with_reducible first | exact HB.out | apply below_alloc | apply pw_below_drewN | apply below_drew1) | exact HB.out))) : w.heap.size ≤ gb102)); clear HB; have HB := n0_; have BK102 := n1_; have GW102 := n2_; have GE102 := n3_; clear n0_ n1_ n2_ n3_; clear hb hbox hg; have hcz9_0 : w8.cell? ⟨gb102, 0, none⟩ = some (.int .u8 a0_0) := (blk_cell BK102.out 0).trans rfl; have hcz9_1 : w8.cell? ⟨gb102, 1, none⟩ = some (.int .u8 a0_1) := (blk_cell BK102.out 1).trans rfl; have hcz9_2 : w8.cell? ⟨gb102, 2, none⟩ = some (.int .i64 a0_2) := (blk_cell BK102.out 2).trans rfl; have hcz9_3 : w8.cell? ⟨gb102, 3, none⟩ = some (.int .i64 a0_3) := (blk_cell BK102.out 3).trans rfl; have hcz9_4 : w8.cell? ⟨gb102, 4, none⟩ = some (.slice A0_4 l0_4.length c0_4) := (blk_cell BK102.out 4).trans rfl; have hfz9_0 := blk_frozen BK102.out 0; have hfz9_1 := blk_frozen BK102.out 1; have hfz9_2 := blk_frozen BK102.out 2; have hfz9_3 := blk_frozen BK102.out 3; have hfz9_4 := blk_frozen BK102.out 4))
    go_ret
    exact ⟨by first | rfl | (simp [errW_none, errW_some] <;> rfl) | (simp [*, errW_none, errW_some] <;> rfl), by repeat (first | (with_reducible first | exact HB.out | apply below_alloc | apply pw_below_drewN | apply below_drew1 | refine below_set ?_ GE102.out) | exact HB.out)⟩
def check_numbers_3.f (a0_0 : Int) (a0_1 : Int) (a0_2 : Int) (a0_3 : Int) (l0_4 : List Int) : Option (Bool) := if a0_1 ≤ 3 then (some (a0_2 == 0)) else (some false)
set_option maxHeartbeats 8000000 in
set_option maxRecDepth 100000 in
theorem check_numbers_3.calls (a0_0 : Int) (a0_1 : Int) (a0_2 : Int) (a0_3 : Int) (A0_4 : Option Addr) (c0_4 : Nat) (l0_4 : List Int) (r : Bool) (w : World) (hr0_4 : Kd.C (Kd.int .i64) w A0_4 l0_4.length l0_4) (hc0_4 : l0_4.length ≤ c0_4) (h : check_numbers_3.f a0_0 a0_1 a0_2 a0_3 l0_4 = some r) :
    Calls Try.prog 70 #[.agg #[.int .u8 a0_0, .int .u8 a0_1, .int .i64 a0_2, .int .i64 a0_3, .slice A0_4 l0_4.length c0_4]] w fun e w' => e = .returned (.bool r) ∧ Below w.heap.size w w' := by
  have hu24 := Try.underlying24
  have HR0_4 := Aside0.mk hr0_4
  have HC0_4 := Aside0.mk hc0_4
  clear hr0_4 hc0_4
  have HB := Aside0.mk (Below.refl w.heap.size w)
  have H : (if a0_1 ≤ 3 then (some (a0_2 == 0)) else (some false)) = some r := h
  clear h
  by_cases c2 : a0_1 ≤ 3
  · rw [if_pos c2] at H
    have c2b0 : decide (a0_1 ≤ 3) = true := decide_eq_true c2
    clear c2
    obtain rfl := Option.some.inj H
    go_enter Try.func70, Try.ntmps70
    go_wp2_with (first | ((with_reducible refine gate_dst (N := 1) rfl ?_); refine box_event ?hg (N := 1) ?hd (cs := #[.int .u8 a0_0, .int .u8 a0_1, .int .i64 a0_2, .int .i64 a0_3, .slice A0_4 l0_4.length c0_4]) (t := 24) ?hr ?_; (case hd => rfl); (case hg => rfl); (case hr => first | (go_simp; done) | (go_simp; rfl)); intro gb103 hg w3 hbox hb; have n0_ := Aside0.mk (below_step (by repeat (first | (with_reducible first | exact HB.out | apply below_alloc | apply pw_below_drewN | apply below_drew1) | exact HB.out)) hb); have n1_ := Aside0.mk (hbox); have n2_ := Aside0.mk ((by rw [hg]; exact (below_size (by repeat (first | (with_reducible first | exact HB.out | apply below_alloc | apply pw_below_drewN | apply below_drew1) | exact HB.out))) : w.heap.size ≤ gb103)); have n3_ := Aside0.mk ((by rw [hg]; exact (below_size (by repeat (first | (with_reducible first | exact HB.out | apply below_alloc | apply pw_below_drewN | apply below_drew1) | exact HB.out))) : w.heap.size ≤ gb103)); clear HB; have HB := n0_; have BK103 := n1_; have GW103 := n2_; have GE103 := n3_; clear n0_ n1_ n2_ n3_; clear hb hbox hg; have hcz4_0 : w3.cell? ⟨gb103, 0, none⟩ = some (.int .u8 a0_0) := (blk_cell BK103.out 0).trans rfl; have hcz4_1 : w3.cell? ⟨gb103, 1, none⟩ = some (.int .u8 a0_1) := (blk_cell BK103.out 1).trans rfl; have hcz4_2 : w3.cell? ⟨gb103, 2, none⟩ = some (.int .i64 a0_2) := (blk_cell BK103.out 2).trans rfl; have hcz4_3 : w3.cell? ⟨gb103, 3, none⟩ = some (.int .i64 a0_3) := (blk_cell BK103.out 3).trans rfl; have hcz4_4 : w3.cell? ⟨gb103, 4, none⟩ = some (.slice A0_4 l0_4.length c0_4) := (blk_cell BK103.out 4).trans rfl; have hfz4_0 := blk_frozen BK103.out 0; have hfz4_1 := blk_frozen BK103.out 1; have hfz4_2 := blk_frozen BK103.out 2; have hfz4_3 := blk_frozen BK103.out 3; have hfz4_4 := blk_frozen BK103.out 4))
    go_ret
    exact ⟨by first | rfl | (simp [errW_none, errW_some] <;> rfl) | (simp [*, errW_none, errW_some] <;> rfl), by repeat (first | (with_reducible first | exact HB.out | apply below_alloc | apply pw_below_drewN | apply below_drew1 | refine below_set ?_ GE103.out) | exact HB.out)⟩
  · rw [if_neg c2] at H
    have c2b0 : decide (a0_1 ≤ 3) = false := decide_eq_false c2
    clear c2
    obtain rfl := Option.some.inj H
    go_enter Try.func70, Try.ntmps70
    go_wp2_with (first | ((with_reducible refine gate_dst (N := 1) rfl ?_); refine box_event ?hg (N := 1) ?hd (cs := #[.int .u8 a0_0, .int .u8 a0_1, .int .i64 a0_2, .int .i64 a0_3, .slice A0_4 l0_4.length c0_4]) (t := 24) ?hr ?_; (case hd => rfl); (case hg => rfl); (case hr => first | (go_simp; done) | (go_simp; rfl)); intro gb103 hg w5 hbox hb; have n0_ := Aside0.mk (below_step (by repeat (first | (with_reducible first | exact HB.out | apply below_alloc | apply pw_below_drewN | apply below_drew1) | exact HB.out)) hb); have n1_ := Aside0.mk (hbox); have n2_ := Aside0.mk ((by rw [hg]; exact (below_size (by repeat (first | (with_reducible first | exact HB.out | apply below_alloc | apply pw_below_drewN | apply below_drew1) | exact HB.out))) : w.heap.size ≤ gb103)); have n3_ := Aside0.mk ((by rw [hg]; exact (below_size (by repeat (first | (with_reducible first | exact HB.out | apply below_alloc | apply pw_below_drewN | apply below_drew1) | exact HB.out))) : w.heap.size ≤ gb103)); clear HB; have HB := n0_; have BK103 := n1_; have GW103 := n2_; have GE103 := n3_; clear n0_ n1_ n2_ n3_; clear hb hbox hg; have hcz6_0 : w5.cell? ⟨gb103, 0, none⟩ = some (.int .u8 a0_0) := (blk_cell BK103.out 0).trans rfl; have hcz6_1 : w5.cell? ⟨gb103, 1, none⟩ = some (.int .u8 a0_1) := (blk_cell BK103.out 1).trans rfl; have hcz6_2 : w5.cell? ⟨gb103, 2, none⟩ = some (.int .i64 a0_2) := (blk_cell BK103.out 2).trans rfl; have hcz6_3 : w5.cell? ⟨gb103, 3, none⟩ = some (.int .i64 a0_3) := (blk_cell BK103.out 3).trans rfl; have hcz6_4 : w5.cell? ⟨gb103, 4, none⟩ = some (.slice A0_4 l0_4.length c0_4) := (blk_cell BK103.out 4).trans rfl; have hfz6_0 := blk_frozen BK103.out 0; have hfz6_1 := blk_frozen BK103.out 1; have hfz6_2 := blk_frozen BK103.out 2; have hfz6_3 := blk_frozen BK103.out 3; have hfz6_4 := blk_frozen BK103.out 4))
    go_ret
    exact ⟨by first | rfl | (simp [errW_none, errW_some] <;> rfl) | (simp [*, errW_none, errW_some] <;> rfl), by repeat (first | (with_reducible first | exact HB.out | apply below_alloc | apply pw_below_drewN | apply below_drew1 | refine below_set ?_ GE103.out) | exact HB.out)⟩
def check_numbers_4.f (a0_0 : Int) (a0_1 : Int) (a0_2 : Int) (a0_3 : Int) (l0_4 : List Int) : Option (Bool) := if a0_1 = 0 then (if a0_2 ≥ 1 then (some (decide (a0_2 ≤ 16))) else (some false)) else (some false)
set_option maxHeartbeats 8000000 in
set_option maxRecDepth 100000 in
theorem check_numbers_4.calls (a0_0 : Int) (a0_1 : Int) (a0_2 : Int) (a0_3 : Int) (A0_4 : Option Addr) (c0_4 : Nat) (l0_4 : List Int) (r : Bool) (w : World) (hr0_4 : Kd.C (Kd.int .i64) w A0_4 l0_4.length l0_4) (hc0_4 : l0_4.length ≤ c0_4) (h : check_numbers_4.f a0_0 a0_1 a0_2 a0_3 l0_4 = some r) :
    Calls Try.prog 71 #[.agg #[.int .u8 a0_0, .int .u8 a0_1, .int .i64 a0_2, .int .i64 a0_3, .slice A0_4 l0_4.length c0_4]] w fun e w' => e = .returned (.bool r) ∧ Below w.heap.size w w' := by
  have hu24 := Try.underlying24
  have HR0_4 := Aside0.mk hr0_4
  have HC0_4 := Aside0.mk hc0_4
  clear hr0_4 hc0_4
  have HB := Aside0.mk (Below.refl w.heap.size w)
  have H : (if a0_1 = 0 then (if a0_2 ≥ 1 then (some (decide (a0_2 ≤ 16))) else (some false)) else (some false)) = some r := h
  clear h
  by_cases c2 : a0_1 = 0
  · rw [if_pos c2] at H
    have c2b0 : (a0_1 == 0) = true := beq_iff_eq.mpr c2
    have c2b1 : (a0_1 != 0) = false := bne_eq_false_iff_eq.mpr c2
    clear c2
    by_cases c3 : a0_2 ≥ 1
    · rw [if_pos c3] at H
      have c3b0 : decide (1 ≤ a0_2) = true := decide_eq_true c3
      clear c3
      obtain rfl := Option.some.inj H
      go_enter Try.func71, Try.ntmps71
      go_wp2_with (first | ((with_reducible refine gate_dst (N := 1) rfl ?_); refine box_event ?hg (N := 1) ?hd (cs := #[.int .u8 a0_0, .int .u8 a0_1, .int .i64 a0_2, .int .i64 a0_3, .slice A0_4 l0_4.length c0_4]) (t := 24) ?hr ?_; (case hd => rfl); (case hg => rfl); (case hr => first | (go_simp; done) | (go_simp; rfl)); intro gb104 hg w4 hbox hb; have n0_ := Aside0.mk (below_step (by repeat (first | (with_reducible first | exact HB.out | apply below_alloc | apply pw_below_drewN | apply below_drew1) | exact HB.out)) hb); have n1_ := Aside0.mk (hbox); have n2_ := Aside0.mk ((by rw [hg]; exact (below_size (by repeat (first | (with_reducible first | exact HB.out | apply below_alloc | apply pw_below_drewN | apply below_drew1) | exact HB.out))) : w.heap.size ≤ gb104)); have n3_ := Aside0.mk ((by rw [hg]; exact (below_size (by repeat (first | (with_reducible first | exact HB.out | apply below_alloc | apply pw_below_drewN | apply below_drew1) | exact HB.out))) : w.heap.size ≤ gb104)); clear HB; have HB := n0_; have BK104 := n1_; have GW104 := n2_; have GE104 := n3_; clear n0_ n1_ n2_ n3_; clear hb hbox hg; have hcz5_0 : w4.cell? ⟨gb104, 0, none⟩ = some (.int .u8 a0_0) := (blk_cell BK104.out 0).trans rfl; have hcz5_1 : w4.cell? ⟨gb104, 1, none⟩ = some (.int .u8 a0_1) := (blk_cell BK104.out 1).trans rfl; have hcz5_2 : w4.cell? ⟨gb104, 2, none⟩ = some (.int .i64 a0_2) := (blk_cell BK104.out 2).trans rfl; have hcz5_3 : w4.cell? ⟨gb104, 3, none⟩ = some (.int .i64 a0_3) := (blk_cell BK104.out 3).trans rfl; have hcz5_4 : w4.cell? ⟨gb104, 4, none⟩ = some (.slice A0_4 l0_4.length c0_4) := (blk_cell BK104.out 4).trans rfl; have hfz5_0 := blk_frozen BK104.out 0; have hfz5_1 := blk_frozen BK104.out 1; have hfz5_2 := blk_frozen BK104.out 2; have hfz5_3 := blk_frozen BK104.out 3; have hfz5_4 := blk_frozen BK104.out 4))
      go_ret
      exact ⟨by first | rfl | (simp [errW_none, errW_some] <;> rfl) | (simp [*, errW_none, errW_some] <;> rfl), by repeat (first | (with_reducible first | exact HB.out | apply below_alloc | apply pw_below_drewN | apply below_drew1 | refine below_set ?_ GE104.out) | exact HB.out)⟩
    · rw [if_neg c3] at H
      have c3b0 : decide (1 ≤ a0_2) = false := decide_eq_false c3
      clear c3
      obtain rfl := Option.some.inj H
      go_enter Try.func71, Try.ntmps71
      go_wp2_with (first | ((with_reducible refine gate_dst (N := 1) rfl ?_); refine box_event ?hg (N := 1) ?hd (cs := #[.int .u8 a0_0, .int .u8 a0_1, .int .i64 a0_2, .int .i64 a0_3, .slice A0_4 l0_4.length c0_4]) (t := 24) ?hr ?_; (case hd => rfl); (case hg => rfl); (case hr => first | (go_simp; done) | (go_simp; rfl)); intro gb104 hg w6 hbox hb; have n0_ := Aside0.mk (below_step (by repeat (first | (with_reducible first | exact HB.out | apply below_alloc | apply pw_below_drewN | apply below_drew1) | exact HB.out)) hb); have n1_ := Aside0.mk (hbox); have n2_ := Aside0.mk ((by rw [hg]; exact (below_size (by repeat (first | (with_reducible first | exact HB.out | apply below_alloc | apply pw_below_drewN | apply below_drew1) | exact HB.out))) : w.heap.size ≤ gb104)); have n3_ := Aside0.mk ((by rw [hg]; exact (below_size (by repeat (first | (with_reducible first | exact HB.out | apply below_alloc | apply pw_below_drewN | apply below_drew1) | exact HB.out))) : w.heap.size ≤ gb104)); clear HB; have HB := n0_; have BK104 := n1_; have GW104 := n2_; have GE104 := n3_; clear n0_ n1_ n2_ n3_; clear hb hbox hg; have hcz7_0 : w6.cell? ⟨gb104, 0, none⟩ = some (.int .u8 a0_0) := (blk_cell BK104.out 0).trans rfl; have hcz7_1 : w6.cell? ⟨gb104, 1, none⟩ = some (.int .u8 a0_1) := (blk_cell BK104.out 1).trans rfl; have hcz7_2 : w6.cell? ⟨gb104, 2, none⟩ = some (.int .i64 a0_2) := (blk_cell BK104.out 2).trans rfl; have hcz7_3 : w6.cell? ⟨gb104, 3, none⟩ = some (.int .i64 a0_3) := (blk_cell BK104.out 3).trans rfl; have hcz7_4 : w6.cell? ⟨gb104, 4, none⟩ = some (.slice A0_4 l0_4.length c0_4) := (blk_cell BK104.out 4).trans rfl; have hfz7_0 := blk_frozen BK104.out 0; have hfz7_1 := blk_frozen BK104.out 1; have hfz7_2 := blk_frozen BK104.out 2; have hfz7_3 := blk_frozen BK104.out 3; have hfz7_4 := blk_frozen BK104.out 4))
      go_ret
      exact ⟨by first | rfl | (simp [errW_none, errW_some] <;> rfl) | (simp [*, errW_none, errW_some] <;> rfl), by repeat (first | (with_reducible first | exact HB.out | apply below_alloc | apply pw_below_drewN | apply below_drew1 | refine below_set ?_ GE104.out) | exact HB.out)⟩
  · rw [if_neg c2] at H
    have c2b0 : (a0_1 == 0) = false := beq_eq_false_iff_ne.mpr c2
    have c2b1 : (a0_1 != 0) = true := bne_iff_ne.mpr c2
    obtain rfl := Option.some.inj H
    go_enter Try.func71, Try.ntmps71
    go_wp2_with (first | ((with_reducible refine gate_dst (N := 1) rfl ?_); refine box_event ?hg (N := 1) ?hd (cs := #[.int .u8 a0_0, .int .u8 a0_1, .int .i64 a0_2, .int .i64 a0_3, .slice A0_4 l0_4.length c0_4]) (t := 24) ?hr ?_; (case hd => rfl); (case hg => rfl); (case hr => first | (go_simp; done) | (go_simp; rfl)); intro gb104 hg w8 hbox hb; have n0_ := Aside0.mk (below_step (by repeat (first | (with_reducible first | exact HB.out | apply below_alloc | apply pw_below_drewN | apply below_drew1) | exact HB.out)) hb); have n1_ := Aside0.mk (hbox); have n2_ := Aside0.mk ((by rw [hg]; exact (below_size (by repeat (first | (with_reducible first | exact HB.out | apply below_alloc | apply pw_below_drewN | apply below_drew1) | exact HB.out))) : w.heap.size ≤ gb104)); have n3_ := Aside0.mk ((by rw [hg]; exact (below_size (by repeat (first | (with_reducible first | exact HB.out | apply below_alloc | apply pw_below_drewN | apply below_drew1) | exact HB.out))) : w.heap.size ≤ gb104)); clear HB; have HB := n0_; have BK104 := n1_; have GW104 := n2_; have GE104 := n3_; clear n0_ n1_ n2_ n3_; clear hb hbox hg; have hcz9_0 : w8.cell? ⟨gb104, 0, none⟩ = some (.int .u8 a0_0) := (blk_cell BK104.out 0).trans rfl; have hcz9_1 : w8.cell? ⟨gb104, 1, none⟩ = some (.int .u8 a0_1) := (blk_cell BK104.out 1).trans rfl; have hcz9_2 : w8.cell? ⟨gb104, 2, none⟩ = some (.int .i64 a0_2) := (blk_cell BK104.out 2).trans rfl; have hcz9_3 : w8.cell? ⟨gb104, 3, none⟩ = some (.int .i64 a0_3) := (blk_cell BK104.out 3).trans rfl; have hcz9_4 : w8.cell? ⟨gb104, 4, none⟩ = some (.slice A0_4 l0_4.length c0_4) := (blk_cell BK104.out 4).trans rfl; have hfz9_0 := blk_frozen BK104.out 0; have hfz9_1 := blk_frozen BK104.out 1; have hfz9_2 := blk_frozen BK104.out 2; have hfz9_3 := blk_frozen BK104.out 3; have hfz9_4 := blk_frozen BK104.out 4))
    go_ret
    exact ⟨by first | rfl | (simp [errW_none, errW_some] <;> rfl) | (simp [*, errW_none, errW_some] <;> rfl), by repeat (first | (with_reducible first | exact HB.out | apply below_alloc | apply pw_below_drewN | apply below_drew1 | refine below_set ?_ GE104.out) | exact HB.out)⟩
end Go.Proofs.Ytcihpjkjodhdpaa.X
namespace Go.Proofs.Ytcihpjkjodhdpaa.X
set_option linter.unusedVariables false
set_option linter.unusedSimpArgs false
open Go.RowKit Go.Proofs.YtcihpjkjodhdpaaW.PrintWords Go.Proofs.YtcihpjkjodhdpaaW.PrintLast Go.Proofs.YtcihpjkjodhdpaaW.PrintMore
theorem heap_alloc_last (W : World) (o : Obj) : (W.alloc o).heap[W.heap.size]? = some o := by
  show (W.heap.push o)[W.heap.size]? = _
  simp
theorem set_alloc_last (W : World) (o o' : Obj) : ({ W.alloc o with heap := (W.alloc o).heap.setIfInBounds W.heap.size o' } : World) = W.alloc o' := by
  have h : (W.heap.push o).setIfInBounds W.heap.size o' = W.heap.push o' := by
    apply Array.ext_getElem?
    intro i
    rw [Array.getElem?_setIfInBounds]
    by_cases hi : W.heap.size = i
    · subst hi; simp
    · rw [if_neg hi]
      simp only [Array.getElem?_push]
      rw [if_neg (by omega), if_neg (by omega)]
  show ({ W.alloc o with heap := (W.heap.push o).setIfInBounds W.heap.size o' } : World) = _
  rw [h]
  rfl
theorem run_ins0 {P : Program} (mt kt et : TypeId) (hm : P.underlying mt = some (.map kt et)) (hk : P.underlying kt = some (.int .u8)) (w : World) (r : Nat) (es : Array MapEntry) (n : Nat) (k : Int) (v : Value)
    (hb : w.heap[r]? = some (.map es n)) (hf : Instr.findNow (.int .u8) (.int .u8 k) es.toList 0 = some none) :
    (Instr.mapUpdate mt (.map (some r)) (.int .u8 k) v).run P w = .ok () { w with heap := w.heap.setIfInBounds r (.map (es.push { key := .int .u8 k, val := v, born := n }) (n + 1)) } := by
  have hc : (Instr.checkKey false 10000 kt (.int .u8 k)).run P w = .ok () w := MapKept.run_checkKey (k := .int .u8 k) hk (by simp [MapKept.IsKey]) false 9999
  simp [Instr.mapUpdate, run_underlying hm, MapKept.run_getObj_map hb, hc, MapKept.run_findKey hk hf, MapKept.run_setObj_map _ hb, Result.andThen]
theorem run_ins {P : Program} (mt kt et : TypeId) (hm : P.underlying mt = some (.map kt et)) (hk : P.underlying kt = some (.int .u8)) (W : World) (es : Array MapEntry) (n : Nat) (k : Int) (v : Value)
    (hf : Instr.findNow (.int .u8) (.int .u8 k) es.toList 0 = some none) :
    (Instr.mapUpdate mt (.map (some W.heap.size)) (.int .u8 k) v).run P (W.alloc (.map es n)) = .ok () (W.alloc (.map (es.push ⟨.int .u8 k, v, n⟩) (n + 1))) := by
  rw [run_ins0 mt kt et hm hk _ _ es n k v (heap_alloc_last W (.map es n)) hf, set_alloc_last]
theorem run_find {P : Program} (mt kt et : TypeId) (hm : P.underlying mt = some (.map kt et)) (hk : P.underlying kt = some (.int .u8)) (W : World) (b : Nat) (es : Array MapEntry) (n : Nat) (k : Int) (v : Value) (i : Nat)
    (hb : W.heap[b]? = some (.map es n)) (hf : Instr.findNow (.int .u8) (.int .u8 k) es.toList 0 = some (some (i, v))) :
    (Instr.lookup mt (.map (some b)) (.int .u8 k) true).run P W = .ok (.tuple #[v, .bool true]) W := by
  have hc : (Instr.checkKey es.isEmpty 10000 kt (.int .u8 k)).run P W = .ok () W := MapKept.run_checkKey (k := .int .u8 k) hk (by simp [MapKept.IsKey]) _ 9999
  simp [Instr.lookup, run_underlying hm, MapKept.run_getObj_map hb, hc, MapKept.run_findKey hk hf, Result.andThen]
theorem run_miss {P : Program} (mt kt et : TypeId) (hm : P.underlying mt = some (.map kt et)) (hk : P.underlying kt = some (.int .u8)) (W : World) (b : Nat) (es : Array MapEntry) (n : Nat) (k : Int) (z : Value)
    (hz : (zeroValue et).run P W = .ok z W) (hb : W.heap[b]? = some (.map es n)) (hf : Instr.findNow (.int .u8) (.int .u8 k) es.toList 0 = some none) :
    (Instr.lookup mt (.map (some b)) (.int .u8 k) true).run P W = .ok (.tuple #[z, .bool false]) W := by
  have hc : (Instr.checkKey es.isEmpty 10000 kt (.int .u8 k)).run P W = .ok () W := MapKept.run_checkKey (k := .int .u8 k) hk (by simp [MapKept.IsKey]) _ 9999
  simp [Instr.lookup, run_underlying hm, MapKept.run_getObj_map hb, hc, MapKept.run_findKey hk hf, Result.andThen, hz]
def km1 : Array MapEntry := #[⟨.int .u8 2, .func (.func 68) #[] #[], 0⟩]
def km2 : Array MapEntry := #[⟨.int .u8 2, .func (.func 68) #[] #[], 0⟩, ⟨.int .u8 3, .func (.func 69) #[] #[], 1⟩]
def km3 : Array MapEntry := #[⟨.int .u8 2, .func (.func 68) #[] #[], 0⟩, ⟨.int .u8 3, .func (.func 69) #[] #[], 1⟩, ⟨.int .u8 5, .func (.func 70) #[] #[], 2⟩]
def km4 : Array MapEntry := #[⟨.int .u8 2, .func (.func 68) #[] #[], 0⟩, ⟨.int .u8 3, .func (.func 69) #[] #[], 1⟩, ⟨.int .u8 5, .func (.func 70) #[] #[], 2⟩, ⟨.int .u8 9, .func (.func 71) #[] #[], 3⟩]
def km5 : Array MapEntry := #[⟨.int .u8 2, .func (.func 68) #[] #[], 0⟩, ⟨.int .u8 3, .func (.func 69) #[] #[], 1⟩, ⟨.int .u8 5, .func (.func 70) #[] #[], 2⟩, ⟨.int .u8 9, .func (.func 71) #[] #[], 3⟩, ⟨.int .u8 1, .func (.func 72) #[] #[], 4⟩]
def km6 : Array MapEntry := #[⟨.int .u8 2, .func (.func 68) #[] #[], 0⟩, ⟨.int .u8 3, .func (.func 69) #[] #[], 1⟩, ⟨.int .u8 5, .func (.func 70) #[] #[], 2⟩, ⟨.int .u8 9, .func (.func 71) #[] #[], 3⟩, ⟨.int .u8 1, .func (.func 72) #[] #[], 4⟩, ⟨.int .u8 4, .func (.func 72) #[] #[], 5⟩]
def km7 : Array MapEntry := #[⟨.int .u8 2, .func (.func 68) #[] #[], 0⟩, ⟨.int .u8 3, .func (.func 69) #[] #[], 1⟩, ⟨.int .u8 5, .func (.func 70) #[] #[], 2⟩, ⟨.int .u8 9, .func (.func 71) #[] #[], 3⟩, ⟨.int .u8 1, .func (.func 72) #[] #[], 4⟩, ⟨.int .u8 4, .func (.func 72) #[] #[], 5⟩, ⟨.int .u8 6, .func (.func 72) #[] #[], 6⟩]
def km8 : Array MapEntry := #[⟨.int .u8 2, .func (.func 68) #[] #[], 0⟩, ⟨.int .u8 3, .func (.func 69) #[] #[], 1⟩, ⟨.int .u8 5, .func (.func 70) #[] #[], 2⟩, ⟨.int .u8 9, .func (.func 71) #[] #[], 3⟩, ⟨.int .u8 1, .func (.func 72) #[] #[], 4⟩, ⟨.int .u8 4, .func (.func 72) #[] #[], 5⟩, ⟨.int .u8 6, .func (.func 72) #[] #[], 6⟩, ⟨.int .u8 7, .func (.func 72) #[] #[], 7⟩]
def km9 : Array MapEntry := #[⟨.int .u8 2, .func (.func 68) #[] #[], 0⟩, ⟨.int .u8 3, .func (.func 69) #[] #[], 1⟩, ⟨.int .u8 5, .func (.func 70) #[] #[], 2⟩, ⟨.int .u8 9, .func (.func 71) #[] #[], 3⟩, ⟨.int .u8 1, .func (.func 72) #[] #[], 4⟩, ⟨.int .u8 4, .func (.func 72) #[] #[], 5⟩, ⟨.int .u8 6, .func (.func 72) #[] #[], 6⟩, ⟨.int .u8 7, .func (.func 72) #[] #[], 7⟩, ⟨.int .u8 8, .func (.func 72) #[] #[], 8⟩]
def km10 : Array MapEntry := #[⟨.int .u8 2, .func (.func 68) #[] #[], 0⟩, ⟨.int .u8 3, .func (.func 69) #[] #[], 1⟩, ⟨.int .u8 5, .func (.func 70) #[] #[], 2⟩, ⟨.int .u8 9, .func (.func 71) #[] #[], 3⟩, ⟨.int .u8 1, .func (.func 72) #[] #[], 4⟩, ⟨.int .u8 4, .func (.func 72) #[] #[], 5⟩, ⟨.int .u8 6, .func (.func 72) #[] #[], 6⟩, ⟨.int .u8 7, .func (.func 72) #[] #[], 7⟩, ⟨.int .u8 8, .func (.func 72) #[] #[], 8⟩, ⟨.int .u8 10, .func (.func 72) #[] #[], 9⟩]
theorem ins0 (W : World) : (Instr.mapUpdate 87 (.map (some W.heap.size)) (.int .u8 2) (.func (.func 68) #[] #[])).run Try.prog (W.alloc (.map #[] 0)) = .ok () (W.alloc (.map km1 1)) := run_ins 87 5 69 Try.underlying87 Try.underlying5 W #[] 0 2 _ rfl
theorem ins1 (W : World) : (Instr.mapUpdate 87 (.map (some W.heap.size)) (.int .u8 3) (.func (.func 69) #[] #[])).run Try.prog (W.alloc (.map km1 1)) = .ok () (W.alloc (.map km2 2)) := run_ins 87 5 69 Try.underlying87 Try.underlying5 W km1 1 3 _ rfl
theorem ins2 (W : World) : (Instr.mapUpdate 87 (.map (some W.heap.size)) (.int .u8 5) (.func (.func 70) #[] #[])).run Try.prog (W.alloc (.map km2 2)) = .ok () (W.alloc (.map km3 3)) := run_ins 87 5 69 Try.underlying87 Try.underlying5 W km2 2 5 _ rfl
theorem ins3 (W : World) : (Instr.mapUpdate 87 (.map (some W.heap.size)) (.int .u8 9) (.func (.func 71) #[] #[])).run Try.prog (W.alloc (.map km3 3)) = .ok () (W.alloc (.map km4 4)) := run_ins 87 5 69 Try.underlying87 Try.underlying5 W km3 3 9 _ rfl
theorem ins4 (W : World) : (Instr.mapUpdate 87 (.map (some W.heap.size)) (.int .u8 1) (.func (.func 72) #[] #[])).run Try.prog (W.alloc (.map km4 4)) = .ok () (W.alloc (.map km5 5)) := run_ins 87 5 69 Try.underlying87 Try.underlying5 W km4 4 1 _ rfl
theorem ins5 (W : World) : (Instr.mapUpdate 87 (.map (some W.heap.size)) (.int .u8 4) (.func (.func 72) #[] #[])).run Try.prog (W.alloc (.map km5 5)) = .ok () (W.alloc (.map km6 6)) := run_ins 87 5 69 Try.underlying87 Try.underlying5 W km5 5 4 _ rfl
theorem ins6 (W : World) : (Instr.mapUpdate 87 (.map (some W.heap.size)) (.int .u8 6) (.func (.func 72) #[] #[])).run Try.prog (W.alloc (.map km6 6)) = .ok () (W.alloc (.map km7 7)) := run_ins 87 5 69 Try.underlying87 Try.underlying5 W km6 6 6 _ rfl
theorem ins7 (W : World) : (Instr.mapUpdate 87 (.map (some W.heap.size)) (.int .u8 7) (.func (.func 72) #[] #[])).run Try.prog (W.alloc (.map km7 7)) = .ok () (W.alloc (.map km8 8)) := run_ins 87 5 69 Try.underlying87 Try.underlying5 W km7 7 7 _ rfl
theorem ins8 (W : World) : (Instr.mapUpdate 87 (.map (some W.heap.size)) (.int .u8 8) (.func (.func 72) #[] #[])).run Try.prog (W.alloc (.map km8 8)) = .ok () (W.alloc (.map km9 9)) := run_ins 87 5 69 Try.underlying87 Try.underlying5 W km8 8 8 _ rfl
theorem ins9 (W : World) : (Instr.mapUpdate 87 (.map (some W.heap.size)) (.int .u8 10) (.func (.func 72) #[] #[])).run Try.prog (W.alloc (.map km9 9)) = .ok () (W.alloc (.map km10 10)) := run_ins 87 5 69 Try.underlying87 Try.underlying5 W km9 9 10 _ rfl
set_option maxHeartbeats 4000000 in
theorem num_hit (a0 a1 a2 a3 : Int) (A : Option Addr) (c : Nat) (l : List Int) (r : Bool) (w : World) (f i : Nat) (hf : Instr.findNow (.int .u8) (.int .u8 a0) km10.toList 0 = some (some (i, .func (.func f) #[] #[])))
    (eg : ∀ args w, (callFunc f args).run Try.prog w = .ok (.enter f args) w)
    (hC : ∀ W, Below w.heap.size w W → Calls Try.prog f #[.agg #[.int .u8 a0, .int .u8 a1, .int .i64 a2, .int .i64 a3, .slice A l.length c]] W fun e w' => e = .returned (.bool r) ∧ Below W.heap.size W w') :
    Calls Try.prog 49 #[.agg #[.int .u8 a0, .int .u8 a1, .int .i64 a2, .int .i64 a3, .slice A l.length c]] w fun e w' => e = .returned (.bool r) ∧ Below w.heap.size w w' := by
  have m0 : (Instr.mapUpdate 87 (.map (some (w.heap.size + 1))) (.int .u8 2) (.func (.func 68) #[] #[])).run Try.prog ((w.alloc (.cells #[.int .u8 a0, .int .u8 a1, .int .i64 a2, .int .i64 a3, .slice A l.length c] 24)).alloc (.map #[] 0)) = .ok () ((w.alloc (.cells #[.int .u8 a0, .int .u8 a1, .int .i64 a2, .int .i64 a3, .slice A l.length c] 24)).alloc (.map km1 1)) := by simpa using ins0 (w.alloc (.cells #[.int .u8 a0, .int .u8 a1, .int .i64 a2, .int .i64 a3, .slice A l.length c] 24))
  have m1 : (Instr.mapUpdate 87 (.map (some (w.heap.size + 1))) (.int .u8 3) (.func (.func 69) #[] #[])).run Try.prog ((w.alloc (.cells #[.int .u8 a0, .int .u8 a1, .int .i64 a2, .int .i64 a3, .slice A l.length c] 24)).alloc (.map km1 1)) = .ok () ((w.alloc (.cells #[.int .u8 a0, .int .u8 a1, .int .i64 a2, .int .i64 a3, .slice A l.length c] 24)).alloc (.map km2 2)) := by simpa using ins1 (w.alloc (.cells #[.int .u8 a0, .int .u8 a1, .int .i64 a2, .int .i64 a3, .slice A l.length c] 24))
  have m2 : (Instr.mapUpdate 87 (.map (some (w.heap.size + 1))) (.int .u8 5) (.func (.func 70) #[] #[])).run Try.prog ((w.alloc (.cells #[.int .u8 a0, .int .u8 a1, .int .i64 a2, .int .i64 a3, .slice A l.length c] 24)).alloc (.map km2 2)) = .ok () ((w.alloc (.cells #[.int .u8 a0, .int .u8 a1, .int .i64 a2, .int .i64 a3, .slice A l.length c] 24)).alloc (.map km3 3)) := by simpa using ins2 (w.alloc (.cells #[.int .u8 a0, .int .u8 a1, .int .i64 a2, .int .i64 a3, .slice A l.length c] 24))
  have m3 : (Instr.mapUpdate 87 (.map (some (w.heap.size + 1))) (.int .u8 9) (.func (.func 71) #[] #[])).run Try.prog ((w.alloc (.cells #[.int .u8 a0, .int .u8 a1, .int .i64 a2, .int .i64 a3, .slice A l.length c] 24)).alloc (.map km3 3)) = .ok () ((w.alloc (.cells #[.int .u8 a0, .int .u8 a1, .int .i64 a2, .int .i64 a3, .slice A l.length c] 24)).alloc (.map km4 4)) := by simpa using ins3 (w.alloc (.cells #[.int .u8 a0, .int .u8 a1, .int .i64 a2, .int .i64 a3, .slice A l.length c] 24))
  have m4 : (Instr.mapUpdate 87 (.map (some (w.heap.size + 1))) (.int .u8 1) (.func (.func 72) #[] #[])).run Try.prog ((w.alloc (.cells #[.int .u8 a0, .int .u8 a1, .int .i64 a2, .int .i64 a3, .slice A l.length c] 24)).alloc (.map km4 4)) = .ok () ((w.alloc (.cells #[.int .u8 a0, .int .u8 a1, .int .i64 a2, .int .i64 a3, .slice A l.length c] 24)).alloc (.map km5 5)) := by simpa using ins4 (w.alloc (.cells #[.int .u8 a0, .int .u8 a1, .int .i64 a2, .int .i64 a3, .slice A l.length c] 24))
  have m5 : (Instr.mapUpdate 87 (.map (some (w.heap.size + 1))) (.int .u8 4) (.func (.func 72) #[] #[])).run Try.prog ((w.alloc (.cells #[.int .u8 a0, .int .u8 a1, .int .i64 a2, .int .i64 a3, .slice A l.length c] 24)).alloc (.map km5 5)) = .ok () ((w.alloc (.cells #[.int .u8 a0, .int .u8 a1, .int .i64 a2, .int .i64 a3, .slice A l.length c] 24)).alloc (.map km6 6)) := by simpa using ins5 (w.alloc (.cells #[.int .u8 a0, .int .u8 a1, .int .i64 a2, .int .i64 a3, .slice A l.length c] 24))
  have m6 : (Instr.mapUpdate 87 (.map (some (w.heap.size + 1))) (.int .u8 6) (.func (.func 72) #[] #[])).run Try.prog ((w.alloc (.cells #[.int .u8 a0, .int .u8 a1, .int .i64 a2, .int .i64 a3, .slice A l.length c] 24)).alloc (.map km6 6)) = .ok () ((w.alloc (.cells #[.int .u8 a0, .int .u8 a1, .int .i64 a2, .int .i64 a3, .slice A l.length c] 24)).alloc (.map km7 7)) := by simpa using ins6 (w.alloc (.cells #[.int .u8 a0, .int .u8 a1, .int .i64 a2, .int .i64 a3, .slice A l.length c] 24))
  have m7 : (Instr.mapUpdate 87 (.map (some (w.heap.size + 1))) (.int .u8 7) (.func (.func 72) #[] #[])).run Try.prog ((w.alloc (.cells #[.int .u8 a0, .int .u8 a1, .int .i64 a2, .int .i64 a3, .slice A l.length c] 24)).alloc (.map km7 7)) = .ok () ((w.alloc (.cells #[.int .u8 a0, .int .u8 a1, .int .i64 a2, .int .i64 a3, .slice A l.length c] 24)).alloc (.map km8 8)) := by simpa using ins7 (w.alloc (.cells #[.int .u8 a0, .int .u8 a1, .int .i64 a2, .int .i64 a3, .slice A l.length c] 24))
  have m8 : (Instr.mapUpdate 87 (.map (some (w.heap.size + 1))) (.int .u8 8) (.func (.func 72) #[] #[])).run Try.prog ((w.alloc (.cells #[.int .u8 a0, .int .u8 a1, .int .i64 a2, .int .i64 a3, .slice A l.length c] 24)).alloc (.map km8 8)) = .ok () ((w.alloc (.cells #[.int .u8 a0, .int .u8 a1, .int .i64 a2, .int .i64 a3, .slice A l.length c] 24)).alloc (.map km9 9)) := by simpa using ins8 (w.alloc (.cells #[.int .u8 a0, .int .u8 a1, .int .i64 a2, .int .i64 a3, .slice A l.length c] 24))
  have m9 : (Instr.mapUpdate 87 (.map (some (w.heap.size + 1))) (.int .u8 10) (.func (.func 72) #[] #[])).run Try.prog ((w.alloc (.cells #[.int .u8 a0, .int .u8 a1, .int .i64 a2, .int .i64 a3, .slice A l.length c] 24)).alloc (.map km9 9)) = .ok () ((w.alloc (.cells #[.int .u8 a0, .int .u8 a1, .int .i64 a2, .int .i64 a3, .slice A l.length c] 24)).alloc (.map km10 10)) := by simpa using ins9 (w.alloc (.cells #[.int .u8 a0, .int .u8 a1, .int .i64 a2, .int .i64 a3, .slice A l.length c] 24))
  have mk := @run_makeMap Try.prog
  have lk : (Instr.lookup 87 (.map (some (w.heap.size + 1))) (.int .u8 a0) true).run Try.prog ((w.alloc (.cells #[.int .u8 a0, .int .u8 a1, .int .i64 a2, .int .i64 a3, .slice A l.length c] 24)).alloc (.map km10 10)) = .ok (.tuple #[.func (.func f) #[] #[], .bool true]) ((w.alloc (.cells #[.int .u8 a0, .int .u8 a1, .int .i64 a2, .int .i64 a3, .slice A l.length c] 24)).alloc (.map km10 10)) :=
    run_find 87 5 69 Try.underlying87 Try.underlying5 _ _ km10 10 a0 _ i (by simpa using heap_alloc_last (w.alloc (.cells #[.int .u8 a0, .int .u8 a1, .int .i64 a2, .int .i64 a3, .slice A l.length c] 24)) (.map km10 10)) hf
  have HC := Aside0.mk hC
  have HHB := Aside0.mk (Below.refl w.heap.size w)
  clear hf hC
  go_enter Try.func49, Try.ntmps49
  go_wp2_with (go_at_fn f; refine (HC.out _ (below_alloc (below_alloc HHB.out _) _)).mono ?_; rintro e w' ⟨rfl, hb⟩; (have HD := Aside0.mk hb; clear hb))
  go_ret
  exact ⟨rfl, (below_alloc (below_alloc HHB.out _) _).trans (HD.out.mono (by simp; omega))⟩
set_option maxHeartbeats 4000000 in
theorem num_miss (a0 a1 a2 a3 : Int) (A : Option Addr) (c : Nat) (l : List Int) (w : World) (hf : Instr.findNow (.int .u8) (.int .u8 a0) km10.toList 0 = some none) :
    Calls Try.prog 49 #[.agg #[.int .u8 a0, .int .u8 a1, .int .i64 a2, .int .i64 a3, .slice A l.length c]] w fun e w' => e = .returned (.bool false) ∧ Below w.heap.size w w' := by
  have m0 : (Instr.mapUpdate 87 (.map (some (w.heap.size + 1))) (.int .u8 2) (.func (.func 68) #[] #[])).run Try.prog ((w.alloc (.cells #[.int .u8 a0, .int .u8 a1, .int .i64 a2, .int .i64 a3, .slice A l.length c] 24)).alloc (.map #[] 0)) = .ok () ((w.alloc (.cells #[.int .u8 a0, .int .u8 a1, .int .i64 a2, .int .i64 a3, .slice A l.length c] 24)).alloc (.map km1 1)) := by simpa using ins0 (w.alloc (.cells #[.int .u8 a0, .int .u8 a1, .int .i64 a2, .int .i64 a3, .slice A l.length c] 24))
  have m1 : (Instr.mapUpdate 87 (.map (some (w.heap.size + 1))) (.int .u8 3) (.func (.func 69) #[] #[])).run Try.prog ((w.alloc (.cells #[.int .u8 a0, .int .u8 a1, .int .i64 a2, .int .i64 a3, .slice A l.length c] 24)).alloc (.map km1 1)) = .ok () ((w.alloc (.cells #[.int .u8 a0, .int .u8 a1, .int .i64 a2, .int .i64 a3, .slice A l.length c] 24)).alloc (.map km2 2)) := by simpa using ins1 (w.alloc (.cells #[.int .u8 a0, .int .u8 a1, .int .i64 a2, .int .i64 a3, .slice A l.length c] 24))
  have m2 : (Instr.mapUpdate 87 (.map (some (w.heap.size + 1))) (.int .u8 5) (.func (.func 70) #[] #[])).run Try.prog ((w.alloc (.cells #[.int .u8 a0, .int .u8 a1, .int .i64 a2, .int .i64 a3, .slice A l.length c] 24)).alloc (.map km2 2)) = .ok () ((w.alloc (.cells #[.int .u8 a0, .int .u8 a1, .int .i64 a2, .int .i64 a3, .slice A l.length c] 24)).alloc (.map km3 3)) := by simpa using ins2 (w.alloc (.cells #[.int .u8 a0, .int .u8 a1, .int .i64 a2, .int .i64 a3, .slice A l.length c] 24))
  have m3 : (Instr.mapUpdate 87 (.map (some (w.heap.size + 1))) (.int .u8 9) (.func (.func 71) #[] #[])).run Try.prog ((w.alloc (.cells #[.int .u8 a0, .int .u8 a1, .int .i64 a2, .int .i64 a3, .slice A l.length c] 24)).alloc (.map km3 3)) = .ok () ((w.alloc (.cells #[.int .u8 a0, .int .u8 a1, .int .i64 a2, .int .i64 a3, .slice A l.length c] 24)).alloc (.map km4 4)) := by simpa using ins3 (w.alloc (.cells #[.int .u8 a0, .int .u8 a1, .int .i64 a2, .int .i64 a3, .slice A l.length c] 24))
  have m4 : (Instr.mapUpdate 87 (.map (some (w.heap.size + 1))) (.int .u8 1) (.func (.func 72) #[] #[])).run Try.prog ((w.alloc (.cells #[.int .u8 a0, .int .u8 a1, .int .i64 a2, .int .i64 a3, .slice A l.length c] 24)).alloc (.map km4 4)) = .ok () ((w.alloc (.cells #[.int .u8 a0, .int .u8 a1, .int .i64 a2, .int .i64 a3, .slice A l.length c] 24)).alloc (.map km5 5)) := by simpa using ins4 (w.alloc (.cells #[.int .u8 a0, .int .u8 a1, .int .i64 a2, .int .i64 a3, .slice A l.length c] 24))
  have m5 : (Instr.mapUpdate 87 (.map (some (w.heap.size + 1))) (.int .u8 4) (.func (.func 72) #[] #[])).run Try.prog ((w.alloc (.cells #[.int .u8 a0, .int .u8 a1, .int .i64 a2, .int .i64 a3, .slice A l.length c] 24)).alloc (.map km5 5)) = .ok () ((w.alloc (.cells #[.int .u8 a0, .int .u8 a1, .int .i64 a2, .int .i64 a3, .slice A l.length c] 24)).alloc (.map km6 6)) := by simpa using ins5 (w.alloc (.cells #[.int .u8 a0, .int .u8 a1, .int .i64 a2, .int .i64 a3, .slice A l.length c] 24))
  have m6 : (Instr.mapUpdate 87 (.map (some (w.heap.size + 1))) (.int .u8 6) (.func (.func 72) #[] #[])).run Try.prog ((w.alloc (.cells #[.int .u8 a0, .int .u8 a1, .int .i64 a2, .int .i64 a3, .slice A l.length c] 24)).alloc (.map km6 6)) = .ok () ((w.alloc (.cells #[.int .u8 a0, .int .u8 a1, .int .i64 a2, .int .i64 a3, .slice A l.length c] 24)).alloc (.map km7 7)) := by simpa using ins6 (w.alloc (.cells #[.int .u8 a0, .int .u8 a1, .int .i64 a2, .int .i64 a3, .slice A l.length c] 24))
  have m7 : (Instr.mapUpdate 87 (.map (some (w.heap.size + 1))) (.int .u8 7) (.func (.func 72) #[] #[])).run Try.prog ((w.alloc (.cells #[.int .u8 a0, .int .u8 a1, .int .i64 a2, .int .i64 a3, .slice A l.length c] 24)).alloc (.map km7 7)) = .ok () ((w.alloc (.cells #[.int .u8 a0, .int .u8 a1, .int .i64 a2, .int .i64 a3, .slice A l.length c] 24)).alloc (.map km8 8)) := by simpa using ins7 (w.alloc (.cells #[.int .u8 a0, .int .u8 a1, .int .i64 a2, .int .i64 a3, .slice A l.length c] 24))
  have m8 : (Instr.mapUpdate 87 (.map (some (w.heap.size + 1))) (.int .u8 8) (.func (.func 72) #[] #[])).run Try.prog ((w.alloc (.cells #[.int .u8 a0, .int .u8 a1, .int .i64 a2, .int .i64 a3, .slice A l.length c] 24)).alloc (.map km8 8)) = .ok () ((w.alloc (.cells #[.int .u8 a0, .int .u8 a1, .int .i64 a2, .int .i64 a3, .slice A l.length c] 24)).alloc (.map km9 9)) := by simpa using ins8 (w.alloc (.cells #[.int .u8 a0, .int .u8 a1, .int .i64 a2, .int .i64 a3, .slice A l.length c] 24))
  have m9 : (Instr.mapUpdate 87 (.map (some (w.heap.size + 1))) (.int .u8 10) (.func (.func 72) #[] #[])).run Try.prog ((w.alloc (.cells #[.int .u8 a0, .int .u8 a1, .int .i64 a2, .int .i64 a3, .slice A l.length c] 24)).alloc (.map km9 9)) = .ok () ((w.alloc (.cells #[.int .u8 a0, .int .u8 a1, .int .i64 a2, .int .i64 a3, .slice A l.length c] 24)).alloc (.map km10 10)) := by simpa using ins9 (w.alloc (.cells #[.int .u8 a0, .int .u8 a1, .int .i64 a2, .int .i64 a3, .slice A l.length c] 24))
  have mk := @run_makeMap Try.prog
  have hz : ∀ W, (zeroValue 69).run Try.prog W = .ok .nilFunc W := fun _ => by kernel_rfl
  have lk : (Instr.lookup 87 (.map (some (w.heap.size + 1))) (.int .u8 a0) true).run Try.prog ((w.alloc (.cells #[.int .u8 a0, .int .u8 a1, .int .i64 a2, .int .i64 a3, .slice A l.length c] 24)).alloc (.map km10 10)) = .ok (.tuple #[.nilFunc, .bool false]) ((w.alloc (.cells #[.int .u8 a0, .int .u8 a1, .int .i64 a2, .int .i64 a3, .slice A l.length c] 24)).alloc (.map km10 10)) :=
    run_miss 87 5 69 Try.underlying87 Try.underlying5 _ _ km10 10 a0 .nilFunc (hz _) (by simpa using heap_alloc_last (w.alloc (.cells #[.int .u8 a0, .int .u8 a1, .int .i64 a2, .int .i64 a3, .slice A l.length c] 24)) (.map km10 10)) hf
  have HHB := Aside0.mk (Below.refl w.heap.size w)
  clear hf hz
  go_enter Try.func49, Try.ntmps49
  go_wp2
  go_ret
  exact ⟨rfl, below_alloc (below_alloc HHB.out _) _⟩
def numB (k a b : Int) : Bool :=
  if k = 2 then decide (a ≤ 3) && (decide (a < 3) || decide (0 < b))
  else if k = 3 then decide (a ≤ 2) && (a != 1 || decide (0 < b))
  else if k = 5 then decide (a ≤ 3) && b == 0
  else if k = 9 then a == 0 && decide (1 ≤ b) && decide (b ≤ 16)
  else decide (k = 1 ∨ k = 4 ∨ k = 6 ∨ k = 7 ∨ k = 8 ∨ k = 10) && (a == 0 && b == 0)
def check_numbers.f (a0 a1 a2 _a3 : Int) (_l : List Int) : Option Bool := some (numB a0 a1 a2)
theorem plain_f (a0 a1 a2 a3 : Int) (l : List Int) : check_plain.f a0 a1 a2 a3 l = some (a1 == 0 && a2 == 0) := by
  unfold check_plain.f
  by_cases h : a1 = 0 <;> simp [h]
theorem check_numbers.calls (a0 a1 a2 a3 : Int) (A : Option Addr) (c : Nat) (l : List Int) (r : Bool) (w : World) (hr : Kd.C (Kd.int .i64) w A l.length l) (hc : l.length ≤ c) (h : check_numbers.f a0 a1 a2 a3 l = some r) :
    Calls Try.prog 49 #[.agg #[.int .u8 a0, .int .u8 a1, .int .i64 a2, .int .i64 a3, .slice A l.length c]] w fun e w' => e = .returned (.bool r) ∧ Below w.heap.size w w' := by
  have hm : r = numB a0 a1 a2 := by simpa [check_numbers.f] using h.symm
  subst hm
  clear h
  by_cases k2 : a0 = 2
  · subst k2
    refine num_hit 2 a1 a2 a3 A c l _ w 68 0 rfl (enters_of Try.func68 (by kernel_rfl) rfl) fun W hb => check_numbers_1.calls 2 a1 a2 a3 A c l _ W (Kd.C_below hr hb) hc ?_
    unfold check_numbers_1.f numB
    by_cases h1 : a1 ≤ 3 <;> by_cases h2 : a1 < 3 <;> simp [h1, h2]
  by_cases k3 : a0 = 3
  · subst k3
    refine num_hit 3 a1 a2 a3 A c l _ w 69 1 rfl (enters_of Try.func69 (by kernel_rfl) rfl) fun W hb => check_numbers_2.calls 3 a1 a2 a3 A c l _ W (Kd.C_below hr hb) hc ?_
    unfold check_numbers_2.f numB
    by_cases h1 : a1 ≤ 2 <;> by_cases h2 : a1 = 1 <;> simp [h1, h2]
  by_cases k5 : a0 = 5
  · subst k5
    refine num_hit 5 a1 a2 a3 A c l _ w 70 2 rfl (enters_of Try.func70 (by kernel_rfl) rfl) fun W hb => check_numbers_3.calls 5 a1 a2 a3 A c l _ W (Kd.C_below hr hb) hc ?_
    unfold check_numbers_3.f numB
    by_cases h1 : a1 ≤ 3 <;> simp [h1]
  by_cases k9 : a0 = 9
  · subst k9
    refine num_hit 9 a1 a2 a3 A c l _ w 71 3 rfl (enters_of Try.func71 (by kernel_rfl) rfl) fun W hb => check_numbers_4.calls 9 a1 a2 a3 A c l _ W (Kd.C_below hr hb) hc ?_
    unfold check_numbers_4.f numB
    by_cases h1 : a1 = 0 <;> by_cases h2 : a2 ≥ 1 <;> simp [h1, h2]
  by_cases k1 : a0 = 1
  · subst k1
    exact num_hit 1 a1 a2 a3 A c l _ w 72 4 rfl (enters_of Try.func72 (by kernel_rfl) rfl) fun W hb => check_plain.calls 1 a1 a2 a3 A c l _ W (Kd.C_below hr hb) hc (by rw [plain_f]; rfl)
  by_cases k4 : a0 = 4
  · subst k4
    exact num_hit 4 a1 a2 a3 A c l _ w 72 5 rfl (enters_of Try.func72 (by kernel_rfl) rfl) fun W hb => check_plain.calls 4 a1 a2 a3 A c l _ W (Kd.C_below hr hb) hc (by rw [plain_f]; rfl)
  by_cases k6 : a0 = 6
  · subst k6
    exact num_hit 6 a1 a2 a3 A c l _ w 72 6 rfl (enters_of Try.func72 (by kernel_rfl) rfl) fun W hb => check_plain.calls 6 a1 a2 a3 A c l _ W (Kd.C_below hr hb) hc (by rw [plain_f]; rfl)
  by_cases k7 : a0 = 7
  · subst k7
    exact num_hit 7 a1 a2 a3 A c l _ w 72 7 rfl (enters_of Try.func72 (by kernel_rfl) rfl) fun W hb => check_plain.calls 7 a1 a2 a3 A c l _ W (Kd.C_below hr hb) hc (by rw [plain_f]; rfl)
  by_cases k8 : a0 = 8
  · subst k8
    exact num_hit 8 a1 a2 a3 A c l _ w 72 8 rfl (enters_of Try.func72 (by kernel_rfl) rfl) fun W hb => check_plain.calls 8 a1 a2 a3 A c l _ W (Kd.C_below hr hb) hc (by rw [plain_f]; rfl)
  by_cases k10 : a0 = 10
  · subst k10
    exact num_hit 10 a1 a2 a3 A c l _ w 72 9 rfl (enters_of Try.func72 (by kernel_rfl) rfl) fun W hb => check_plain.calls 10 a1 a2 a3 A c l _ W (Kd.C_below hr hb) hc (by rw [plain_f]; rfl)
  have hz : numB a0 a1 a2 = false := by simp [numB, k2, k3, k5, k9, k1, k4, k6, k7, k8, k10]
  rw [hz]
  refine num_miss a0 a1 a2 a3 A c l w ?_
  simp [km10, Instr.findNow, Instr.sameNow, beq_eq_false_iff_ne.2 k2, beq_eq_false_iff_ne.2 k3, beq_eq_false_iff_ne.2 k5, beq_eq_false_iff_ne.2 k9, beq_eq_false_iff_ne.2 k1, beq_eq_false_iff_ne.2 k4, beq_eq_false_iff_ne.2 k6, beq_eq_false_iff_ne.2 k7, beq_eq_false_iff_ne.2 k8, beq_eq_false_iff_ne.2 k10]
end Go.Proofs.Ytcihpjkjodhdpaa.X
namespace Go.Proofs.Ytcihpjkjodhdpaa.X
set_option linter.unusedVariables false
set_option linter.unusedSimpArgs false
open Go.RowKit Go.Proofs.YtcihpjkjodhdpaaW.PrintWords Go.Proofs.YtcihpjkjodhdpaaW.PrintLast Go.Proofs.YtcihpjkjodhdpaaW.PrintMore
def modI (n b : Int) : Int := if Int.tmod n b < 0 then wrap64 (Int.tmod n b + b) else Int.tmod n b
def mapF (a b : Int) (x : S36) : S36 :=
  if a = 0 then ⟨x.f0, wrap64 (x.f1 + b)⟩ else if a = 1 then ⟨x.f0, wrap64 (x.f1 * b)⟩ else if a = 2 then ⟨x.f1, x.f0⟩ else ⟨modI x.f1 b, x.f1⟩
def recV (x : S36) : Value := .agg #[.int .i64 x.f0, .int .i64 x.f1]
set_option maxHeartbeats 4000000 in
theorem maps_1_calls (a0 a1 a2 a3 : Int) (A : Option Addr) (c n : Nat) (x : S36) (gb : Nat) (w : World) (hb : w.heap[gb]? = some (.cells #[.int .u8 a0, .int .u8 a1, .int .i64 a2, .int .i64 a3, .slice A n c] 24 (0, 0))) (hz : a1 = 0 ∨ a1 = 1 ∨ a1 = 2 ∨ a2 ≠ 0) :
    Calls Try.prog 53 #[recV x, .pointer (some ⟨gb, 0, none⟩)] w fun e w' => e = .returned (.tuple #[recV (mapF a1 a2 x), .bool true]) ∧ Below w.heap.size w w' := by
  have hlt : gb < w.heap.size := (Array.getElem?_eq_some_iff.1 hb).1
  have c1 : w.cell? ⟨gb, 1, none⟩ = some (.int .u8 a1) := by simp [World.cell?, hb]
  have c2 : w.cell? ⟨gb, 2, none⟩ = some (.int .i64 a2) := by simp [World.cell?, hb]
  have hHB := Aside0.mk (Below.refl w.heap.size w)
  clear hb
  obtain ⟨x0, x1⟩ := x
  unfold recV
  by_cases k0 : a1 = 0
  · subst k0
    go_enter Try.func53, Try.ntmps53
    go_wp2
    refine bodyPost_ret (results_ct rfl _ _ (w.heap.size + 1) 36 #[.int .i64 x0, .int .i64 (wrap64 (x1 + a2))] (0, 0) _ rfl (by first | (go_simp; done) | (simpa using heap_alloc_last (w.alloc _) _)) Try.underlying36 rfl (by kernel_rfl)) rfl ?_
    exact ⟨by rfl, by repeat (first | exact hHB.out | apply below_alloc | refine below_set ?_ (by first | exact Nat.le_refl _ | (simp; done) | (simp; omega)))⟩
  by_cases k1 : a1 = 1
  · subst k1
    go_enter Try.func53, Try.ntmps53
    go_wp2
    refine bodyPost_ret (results_ct rfl _ _ (w.heap.size + 1) 36 #[.int .i64 x0, .int .i64 (wrap64 (x1 * a2))] (0, 0) _ rfl (by first | (go_simp; done) | (simpa using heap_alloc_last (w.alloc _) _)) Try.underlying36 rfl (by kernel_rfl)) rfl ?_
    exact ⟨by rfl, by repeat (first | exact hHB.out | apply below_alloc | refine below_set ?_ (by first | exact Nat.le_refl _ | (simp; done) | (simp; omega)))⟩
  by_cases k2 : a1 = 2
  · subst k2
    go_enter Try.func53, Try.ntmps53
    go_wp2
    refine bodyPost_ret (results_ct rfl _ _ (w.heap.size + 1) 36 #[.int .i64 x1, .int .i64 x0] (0, 0) _ rfl (by first | (go_simp; done) | (simpa using heap_alloc_last (w.alloc _) _)) Try.underlying36 rfl (by kernel_rfl)) rfl ?_
    exact ⟨by rfl, by repeat (first | exact hHB.out | apply below_alloc | refine below_set ?_ (by first | exact Nat.le_refl _ | (simp; done) | (simp; omega)))⟩
  have hz2 : a2 ≠ 0 := by rcases hz with h | h | h | h <;> first | exact absurd h (by assumption) | exact h
  clear hz
  have b0 : (a1 == 0) = false := beq_eq_false_iff_ne.2 k0
  have b1 : (a1 == 1) = false := beq_eq_false_iff_ne.2 k1
  have b2 : (a1 == 2) = false := beq_eq_false_iff_ne.2 k2
  have HF := Aside0.mk (show mapF a1 a2 ⟨x0, x1⟩ = ⟨modI x1 a2, x1⟩ by simp [mapF, k0, k1, k2])
  clear k0 k1 k2
  by_cases hn : Int.tmod x1 a2 < 0
  · have HM := Aside0.mk (show modI x1 a2 = wrap64 (Int.tmod x1 a2 + a2) by simp [modI, hn])
    go_enter Try.func53, Try.ntmps53
    go_wp2
    refine bodyPost_ret (results_ct rfl _ _ (w.heap.size + 1) 36 #[.int .i64 (wrap64 (Int.tmod x1 a2 + a2)), .int .i64 x1] (0, 0) _ rfl (by first | (go_simp; done) | (simpa using heap_alloc_last (w.alloc _) _)) Try.underlying36 rfl (by kernel_rfl)) rfl ?_
    exact ⟨by (rw [HF.out, HM.out]; rfl), by repeat (first | exact hHB.out | apply below_alloc | refine below_set ?_ (by first | exact Nat.le_refl _ | (simp; done) | (simp; omega)))⟩
  · have HM := Aside0.mk (show modI x1 a2 = Int.tmod x1 a2 by simp [modI, hn])
    have hn' : 0 ≤ Int.tmod x1 a2 := by omega
    clear hn
    go_enter Try.func53, Try.ntmps53
    go_wp2
    refine bodyPost_ret (results_ct rfl _ _ (w.heap.size + 1) 36 #[.int .i64 (Int.tmod x1 a2), .int .i64 x1] (0, 0) _ rfl (by first | (go_simp; done) | (simpa using heap_alloc_last (w.alloc _) _)) Try.underlying36 rfl (by kernel_rfl)) rfl ?_
    exact ⟨by (rw [HF.out, HM.out]; rfl), by repeat (first | exact hHB.out | apply below_alloc | refine below_set ?_ (by first | exact Nat.le_refl _ | (simp; done) | (simp; omega)))⟩
end Go.Proofs.Ytcihpjkjodhdpaa.X
namespace Go.Proofs.Ytcihpjkjodhdpaa.X
set_option linter.unusedVariables false
set_option linter.unusedSimpArgs false
open Go.RowKit Go.Proofs.YtcihpjkjodhdpaaW.PrintWords Go.Proofs.YtcihpjkjodhdpaaW.PrintLast Go.Proofs.YtcihpjkjodhdpaaW.PrintMore
def outL (p : S36 → S36 × Bool) (l : List S36) : List S36 := l.filterMap fun x => if (p x).2 = true then some (p x).1 else none
theorem outL_take (p : S36 → S36 × Bool) (l : List S36) (k : Nat) (x : S36) (h : l[k]? = some x) : outL p (l.take (k + 1)) = outL p (l.take k) ++ if (p x).2 = true then [(p x).1] else [] := by
  unfold outL
  rw [List.take_add_one, h]
  simp only [Option.toList_some, List.filterMap_append]
  congr 1
  by_cases e : (p x).2 = true <;> simp [e]
theorem outL_length (p : S36 → S36 × Bool) (l : List S36) : (outL p l).length ≤ l.length := List.length_filterMap_le _ _
def Does (g : Nat) (lb : Array Value) (p : S36 → S36 × Bool) (l : List S36) (w : World) : Prop :=
  ∀ (j : Nat) (x : S36), l[j]? = some x → ∀ W, Below w.heap.size w W → Calls Try.prog g (#[.agg #[.int .i64 x.f0, .int .i64 x.f1]] ++ lb) W fun e w' => e = .returned (.tuple #[.agg #[.int .i64 (p x).1.f0, .int .i64 (p x).1.f1], .bool (p x).2]) ∧ Below W.heap.size W w'
set_option maxHeartbeats 8000000 in
set_option maxRecDepth 100000 in
theorem each_calls (A : Option Addr) (c : Nat) (l : List S36) (g : Nat) (lb : Array Value) (p : S36 → S36 × Bool) (eg : ∀ args w, (callFunc g args).run Try.prog w = .ok (.enter g args) w) (w : World)
    (hr : Kd.C k36 w A l.length l) (hl : l.length ≤ 1000000) (hp : Does g lb p l w) :
    Calls Try.prog 52 #[.slice A l.length c, .func (.func g) #[] lb] w fun e w' => ∃ v, e = .returned v ∧ Kd.R k36 36 w' w.heap.size (fun _ => True) v (outL p l) ∧ Below w.heap.size w w' := by
  have hu36 := Try.underlying36
  have HR := Aside0.mk hr
  have HP := Aside0.mk hp
  have HL : l.length ≤ 9223372036854775807 := hr.2.1
  have HLL := Aside0.mk hl
  clear hr hp hl
  go_enter Try.func52, Try.ntmps52
  go_wp2
  go_loopg [5, 12] l.length (fun gg v5 v12 wr => ∃ kk : Nat, kk ≤ l.length ∧ l.length - kk ≤ gg ∧ v12 = .int .i64 kk ∧ Aside0 (Kd.R k36 36 wr w.heap.size (fun _ => True) v5 (outL p (l.take kk))) ∧ Aside0 (Below w.heap.size w wr))
  case atStart => exact ⟨0, Nat.zero_le _, by omega, rfl, ⟨Kd.R_nil _ _ _ _ _⟩, ⟨Below.refl _ _⟩⟩
  case round =>
    obtain ⟨kk, hkk, hg, rfl, HO, HB⟩ := hrel
    by_cases hlt : kk < l.length
    · have hltz : (kk : Int) < (l.length : Int) := by omega
      obtain ⟨ad, eA, q0, q1⟩ := at_T36 (Kd.C_below HR.out HB.out) (kk : Int) (by omega) hltz
      simp only [Int.toNat_natCast] at q0 q1
      have hx : l[kk]? = some (rd_T36 l (kk : Int)) := by simp [rd_T36, List.getD_eq_getElem?_getD, hlt]
      have hcall := HP.out kk _ hx
      have HS := Aside0.mk (outL_take p l kk _ hx)
      have HLN := Aside0.mk (Nat.le_trans (outL_length p (l.take kk)) (by rw [List.length_take]; omega : (l.take kk).length ≤ kk))
      clear hx
      generalize outL p (l.take kk) = out at HO HS HLN
      generalize rd_T36 l (kk : Int) = x at q0 q1 hcall HS
      generalize p x = y at hcall HS
      obtain ⟨⟨y0, y1⟩, yb⟩ := y
      obtain ⟨x0, x1⟩ := x
      have HC := Aside0.mk hcall
      clear hcall
      subst eA
      cases yb with
      | true =>
        go_wp2_with (first | (go_at_fn g; refine (HC.out _ (below_alloc HB.out _)).mono ?_; rintro e w1 ⟨rfl, hb⟩; have HB1 := Aside0.mk (below_step (below_alloc HB.out _) hb); have HO1 := Aside0.mk (Kd.R_below (Kd.R_alloc HO.out _) hb); clear hb; clear HO; clear HB) | ((with_reducible refine gate_builtin (b := .append) (xs := #[.tmp 23, .tmp 25]) rfl ?_); at_builtin; refine Kd.R_append k36 (w0 := w) w.heap.size rfl (.tmp 23) (.tmp 25) 28 36 (.agg #[(.int .i64 0), (.int .i64 0)]) 16 rfl Try.underlying28 info36 rfl (by decide) (by omega) u5 out (⟨y0, y1⟩ : S36) [.int .i64 y0, .int .i64 y1] (fun _ => True) (fun _ => False) rfl (by first | rfl | (show Value.slice (some ⟨w1.heap.size + 1, 0, none⟩) 1 1 = Value.slice (some ⟨(w1.heap.push _).size, 0, none⟩) 1 1; rw [Array.size_push])) ?aP (fun _ hk => hk.elim) ?aF ?aO ?aB ?aS ?aL ?_; (case aP => exact k36_mkM _ _ _ (⟨y0, y1⟩ : S36)); (case aB => exact (by repeat (first | (with_reducible first | exact HB1.out | apply below_alloc | apply pw_below_drewN | apply below_drew1) | exact HB1.out))); (case aF => exact (fun _ _ => trivial)); (case aO => exact (by (with_reducible repeat (first | apply Kd.R_alloc | apply Kd.R_drewN | apply Kd.R_drew)); exact HO1.out)); (case aS => exact (below_size (by repeat (first | (with_reducible first | exact HB1.out | apply below_alloc | apply pw_below_drewN | apply below_drew1) | exact HB1.out)))); (case aL => have := HLN.out; have := HLL.out; omega); intro v115 w13 ho hb hg hat; have HB2 := Aside0.mk hb; have HO2 := Aside0.mk ho; clear ho hb hg hat))
        go_roundg (l.length - (kk + 1))
        case measure => omega
        case rel =>
          exact ⟨kk + 1, by omega, by omega, by go_num, ⟨by rw [HS.out]; exact HO2.out⟩, ⟨HB2.out⟩⟩
      | false =>
        go_wp2_with (go_at_fn g; refine (HC.out _ (below_alloc HB.out _)).mono ?_; rintro e w1 ⟨rfl, hb⟩; have HB1 := Aside0.mk (below_step (below_alloc HB.out _) hb); have HO1 := Aside0.mk (Kd.R_below (Kd.R_alloc HO.out _) hb); clear hb; clear HO; clear HB)
        go_roundg (l.length - (kk + 1))
        case measure => omega
        case rel =>
          exact ⟨kk + 1, by omega, by omega, by go_num, ⟨by rw [HS.out]; simpa using Kd.R_alloc HO1.out _⟩, ⟨below_alloc HB1.out _⟩⟩
    · have hk : kk = l.length := by omega
      have HK := Aside0.mk hk
      clear hk
      have hltz : ¬ (kk : Int) < (l.length : Int) := by omega
      go_wp2
      go_ret
      refine ⟨_, rfl, ?_, HB.out⟩
      have h1 := HO.out
      rw [HK.out, List.take_length] at h1
      exact h1
end Go.Proofs.Ytcihpjkjodhdpaa.X
namespace Go.Proofs.Ytcihpjkjodhdpaa.X
set_option linter.unusedVariables false
set_option linter.unusedSimpArgs false
open Go.RowKit Go.Proofs.YtcihpjkjodhdpaaW.PrintWords Go.Proofs.YtcihpjkjodhdpaaW.PrintLast Go.Proofs.YtcihpjkjodhdpaaW.PrintMore
theorem k36_ofK {w W : World} {base : Nat} {ok : Nat → Prop} {x : S36} {cs : List Value} (h : k36.K w x cs) : k36.M W base ok x cs := by
  rw [k36_open h]
  exact k36_mkM _ _ _ x
theorem own_form {w : World} {base : Nat} {ok : Nat → Prop} {v : Value} {xs : List S36} (h : Kd.R k36 36 w base ok v xs) (hn : 0 < xs.length) :
    ∃ g c, v = .slice (some ⟨g, 0, none⟩) xs.length c ∧ xs.length ≤ c ∧ c ≤ 9223372036854775807 := by
  obtain ⟨_, inner, ⟨_, h2⟩, _⟩ := h
  rcases h2 with ⟨_, h0⟩ | ⟨g, cap, cur, rfl, _, _, hl, hm, _⟩
  · omega
  · exact ⟨g, cap, rfl, hl, by unfold maxLen at hm; omega⟩
set_option maxHeartbeats 4000000 in
set_option maxRecDepth 100000 in
theorem grow_nil (n : Nat) (hn : n ≤ 1000000) (w : World) :
    Calls Try.prog 63 #[.slice none 0 0, .int .i64 (n : Int)] w fun e w' => ∃ v, e = .returned v ∧ Kd.R k36 36 w' w.heap.size (fun _ => True) v [] ∧ Below w.heap.size w w' := by
  have hHB := Aside0.mk (Below.refl w.heap.size w)
  by_cases h0 : n = 0
  · subst h0
    go_enter Try.func63, Try.ntmps63
    go_wp2
    go_ret
    exact ⟨_, rfl, Kd.R_nil _ _ _ _ _, hHB.out⟩
  · have hpos : (0 : Int) < (n : Int) := by omega
    have hwr : wrap64 (n : Int) = (n : Int) := by unfold wrap64; omega
    have hneg : ¬ ((n : Int) < 0) := by omega
    go_enter Try.func63, Try.ntmps63
    go_wp2_with ((with_reducible refine gate_builtin (b := .append) (xs := #[.tmp 20, .tmp 21]) rfl ?_); at_builtin; refine Kd.R_append_zeros k36 (w0 := w) w.heap.size rfl (.tmp 20) (.tmp 21) 28 3 36 (.agg #[.int .i64 0, .int .i64 0]) 16 rfl Try.underlying28 Try.underlying3 info36 rfl (by decide) (by omega) (.slice none 0 0) ([] : List S36) ⟨0, 0⟩ (kx := .i64) (n : Int) (fun _ => True) rfl rfl (k36_mkM _ _ _ (⟨0, 0⟩ : S36)) (fun _ _ => trivial) (Kd.R_nil _ _ _ _ _) (by omega) hHB.out (Nat.le_refl _) (by simp only [List.length_nil, Int.toNat_natCast]; omega) ?_; intro v1 w1 hR hB _ _; obtain ⟨g, c, hv, hlc, hcm⟩ := own_form hR (by simp; omega); simp only [List.nil_append, List.length_replicate, Int.toNat_natCast] at hv hlc; subst hv; have HR := Aside0.mk hR; have HB := Aside0.mk hB; clear hR hB)
    go_ret
    exact ⟨_, rfl, by simpa using Kd.R_take HR.out (Nat.zero_le _), HB.out⟩
theorem flat_take (L : List (List S36)) (k : Nat) (x : List S36) (h : L[k]? = some x) : (L.take (k + 1)).flatten = (L.take k).flatten ++ x := by
  rw [List.take_add_one, h]
  simp
theorem flat_le (L : List (List S36)) (k : Nat) : (L.take k).flatten.length ≤ L.flatten.length := by
  have h : L.flatten = (L.take k).flatten ++ (L.drop k).flatten := by rw [← List.flatten_append, List.take_append_drop]
  rw [h, List.length_append]
  omega
end Go.Proofs.Ytcihpjkjodhdpaa.X
namespace Go.Proofs.Ytcihpjkjodhdpaa.X
set_option linter.unusedVariables false
set_option linter.unusedSimpArgs false
open Go.RowKit Go.Proofs.YtcihpjkjodhdpaaW.PrintWords Go.Proofs.YtcihpjkjodhdpaaW.PrintLast Go.Proofs.YtcihpjkjodhdpaaW.PrintMore
set_option maxHeartbeats 400000 in
set_option maxRecDepth 100000 in
theorem concat_calls (A : Option Addr) (c : Nat) (L : List (List S36)) (w : World) (hr : Kd.C (Kd.slice 36 k36) w A L.length L) (hl : L.flatten.length ≤ 1000000) :
    Calls Try.prog 46 #[.slice A L.length c] w fun e w' => ∃ v, e = .returned v ∧ Kd.R k36 36 w' w.heap.size (fun _ => True) v L.flatten ∧ Below w.heap.size w w' := by
  have HR := Aside0.mk hr
  have HL : L.length ≤ 9223372036854775807 := hr.2.1
  have HLL := Aside0.mk hl
  obtain ⟨F, hF⟩ : ∃ F : Nat → Nat, ∀ k, F k = (L.take k).flatten.length := ⟨_, fun _ => rfl⟩
  have HGR := Aside0.mk (grow_nil (F L.length) (by rw [hF, List.take_length]; exact hl))
  have HF := Aside0.mk hF
  have hF0 : F 0 = 0 := by rw [hF]; simp
  clear hr hl hF
  go_enter Try.func46, Try.ntmps46
  go_wp2
  go_loopg [3, 11] L.length (fun gg v3 v11 wr => ∃ kk : Nat, kk ≤ L.length ∧ L.length - kk ≤ gg ∧ v11 = .int .i64 kk ∧ v3 = .int .i64 (F kk : Nat) ∧ Aside0 (Below w.heap.size w wr))
  case atStart => exact ⟨0, Nat.zero_le _, by omega, rfl, by rw [hF0]; rfl, ⟨Below.refl _ _⟩⟩
  case round =>
    obtain ⟨kk, hkk, hg, rfl, rfl, HB⟩ := hrel
    by_cases hlt : kk < L.length
    · have hltz : (kk : Int) < (L.length : Int) := by omega
      obtain ⟨ad, A0, c0, eA, q0, hc0, hr0⟩ := at_L2 (Kd.C_below HR.out HB.out) (kk : Int) (by omega) hltz
      simp only [Int.toNat_natCast] at q0
      have hx : L[kk]? = some (rd_L2 L (kk : Int)) := by simp [rd_L2, List.getD_eq_getElem?_getD, hlt]
      have hf := flat_take L kk _ hx
      have hfl := flat_le L (kk + 1)
      have hs := congrArg List.length hf
      rw [List.length_append, ← HF.out, ← HF.out] at hs
      rw [← HF.out] at hfl
      generalize rd_L2 L (kk : Int) = x at q0 hc0 hr0 hf hs hx
      have HS := Aside0.mk hs
      have hb2 : (F kk : Int) + (x.length : Int) ≤ 1000000 := by have := HLL.out; omega
      clear hx hf hfl hs hr0 hc0
      generalize F kk = m at HS hb2
      have hneg : ¬ ((m : Int) + (x.length : Int) < 0) := by omega
      subst eA
      go_wp2
      go_roundg (L.length - (kk + 1))
      case measure => omega
      case rel => exact ⟨kk + 1, by omega, by omega, by go_num, by rw [HS.out]; go_num, HB⟩
    · have hk : kk = L.length := by omega
      have hltz : ¬ (kk : Int) < (L.length : Int) := by omega
      rw [hk]
      clear hk hF0
      go_wp2_with (go_at_call 63; refine (HGR.out _).mono ?_; rintro e w1 ⟨v, rfl, ho, hb⟩; have HO := Aside0.mk (Kd.R_lower ho HB.out.size); have HB1 := Aside0.mk (below_step HB.out hb); clear ho hb HB)
      go_loopg [6, 27] L.length (fun gg v6 v27 wr2 => ∃ kk : Nat, kk ≤ L.length ∧ L.length - kk ≤ gg ∧ v27 = .int .i64 kk ∧ Aside0 (Kd.R k36 36 wr2 w.heap.size (fun _ => True) v6 (L.take kk).flatten) ∧ Aside0 (Below w.heap.size w wr2))
      case atStart => exact ⟨0, Nat.zero_le _, by omega, rfl, ⟨by simpa using HO.out⟩, HB1⟩
      case round =>
        clear HO HB1
        obtain ⟨k2, hk2, hg2, rfl, HO, HB⟩ := hrel
        by_cases hlt2 : k2 < L.length
        · have hltz2 : (k2 : Int) < (L.length : Int) := by omega
          obtain ⟨ad, A0, c0, eA, q0, hc0, hr0⟩ := at_L2 (Kd.C_below HR.out HB.out) (k2 : Int) (by omega) hltz2
          simp only [Int.toNat_natCast] at q0
          have hx : L[k2]? = some (rd_L2 L (k2 : Int)) := by simp [rd_L2, List.getD_eq_getElem?_getD, hlt2]
          have hf := flat_take L k2 _ hx
          have hfl := flat_le L (k2 + 1)
          have hs := congrArg List.length hf
          rw [List.length_append] at hs
          generalize rd_L2 L (k2 : Int) = x at q0 hc0 hr0 hf hs hx
          have HS := Aside0.mk hf
          have HB2 := Aside0.mk (show ((L.take k2).flatten.length + x.length) * 16 ≤ 140737488355328 by have := HLL.out; omega)
          have HR0 := Aside0.mk hr0
          clear hx hf hfl hs hr0 hc0
          generalize (L.take k2).flatten = out at HS HB2 HO
          subst eA
          go_wp2_with ((with_reducible refine gate_builtin (b := .append) (xs := #[.tmp 31, .tmp 32]) rfl ?_); at_builtin; refine Kd.R_append_rows k36 (Rr := k36.K _) (w0 := w) w.heap.size rfl (.tmp 31) (.tmp 32) 28 36 (.agg #[.int .i64 0, .int .i64 0]) 16 rfl Try.underlying28 info36 rfl (by decide) (by omega) _ out x A0 _ c0 (fun _ => True) (fun _ => False) rfl rfl HO.out HR0.out (fun x cs hx => ?aK) (fun _ hk => hk.elim) (fun _ _ => trivial) HB.out (below_size HB.out) HB2.out ?_; (case aK => exact k36_ofK hx); intro v1 w1 ho hb _ _; have HO1 := Aside0.mk ho; have HB1 := Aside0.mk hb; clear ho hb)
          go_roundg (L.length - (k2 + 1))
          case measure => omega
          case rel => exact ⟨k2 + 1, by omega, by omega, by go_num, ⟨by rw [HS.out]; exact HO1.out⟩, HB1⟩
        · have hk : k2 = L.length := by omega
          have HK := Aside0.mk hk
          clear hk
          have hltz2 : ¬ (k2 : Int) < (L.length : Int) := by omega
          go_wp2
          go_ret
          refine ⟨_, rfl, ?_, HB.out⟩
          have h1 := HO.out
          rw [HK.out, List.take_length] at h1
          exact h1
end Go.Proofs.Ytcihpjkjodhdpaa.X
namespace Go.Proofs.Ytcihpjkjodhdpaa.X
set_option linter.unusedVariables false
set_option linter.unusedSimpArgs false
open Go.Sort (grow alloc_eq_grow grow_grow)
open Go.RowKit Go.Proofs.YtcihpjkjodhdpaaW.PrintWords Go.Proofs.YtcihpjkjodhdpaaW.PrintLast Go.Proofs.YtcihpjkjodhdpaaW.PrintMore
def cR (a b : Int) : Int := if a < b then -1 else if b < a then 1 else 0
def cmpR (x y : S36) : Int := if cR x.f0 y.f0 ≠ 0 then cR x.f0 y.f0 else cR x.f1 y.f1
theorem nan_f (a : Int) : cmp_isNaN_int64.f a = some false := by simp [cmp_isNaN_int64.f]
theorem compare_f (a b : Int) : cmp_Compare_int64.f a b = some (cR a b) := by
  unfold cmp_Compare_int64.f cR
  rw [nan_f, nan_f]
  simp only [Option.bind_some, Bool.false_eq_true, if_false]
  by_cases h : a < b
  · simp [h]
  · by_cases h2 : b < a <;> simp [h, h2]
theorem or_f (a b : Int) : cmp_Or_int.f 4 [a, b] = some (if a ≠ 0 then a else b) := by
  by_cases h : a = 0
  · by_cases h2 : b = 0
    · subst h; subst h2; simp [cmp_Or_int.f, cmp_Or_int.l0, rd, wrap64]
    · subst h; simp [cmp_Or_int.f, cmp_Or_int.l0, rd, h2, wrap64]
  · simp [cmp_Or_int.f, cmp_Or_int.l0, rd, h]
theorem reads2 (W : World) (a b : Int) : Kd.C (Kd.int .i64) (W.alloc (.cells #[.int .i64 a, .int .i64 b] 3)) (some ⟨W.heap.size, 0, none⟩) ([a, b] : List Int).length [a, b] := by
  refine ⟨rfl, by simp, fun _ => ⟨_, rfl, fun j p hj => ⟨[.int .i64 p], rfl, rfl, fun i u hu => ?_⟩⟩⟩
  match i, hu with
  | 0, hu =>
    match j, hj with
    | 0, hj =>
      simp at hj hu; subst hj; subst hu
      rw [add_plain]
      simp [Kd.int, Kd.scalar, go_sem]
    | 1, hj =>
      simp at hj hu; subst hj; subst hu
      rw [add_plain]
      simp [Kd.int, Kd.scalar, go_sem]
    | j + 2, hj => simp at hj
  | i + 1, hu => simp at hu
def SP (w : World) (x0 x1 y0 y1 : Int) : World → Prop := fun W => W.cell? ⟨w.heap.size, 0, none⟩ = some (.int .i64 x0) ∧ W.cell? ⟨w.heap.size, 1, none⟩ = some (.int .i64 x1) ∧ W.cell? ⟨w.heap.size + 1, 0, none⟩ = some (.int .i64 y0) ∧ W.cell? ⟨w.heap.size + 1, 1, none⟩ = some (.int .i64 y1) ∧ ∃ q os, W = grow (w.drewN q) os
theorem SP_drawn {w : World} {x0 x1 y0 y1 : Int} (W W' : World) (h : SP w x0 x1 y0 y1 W) (hd : Drawn0 W W') : SP w x0 x1 y0 y1 W' := by
  obtain ⟨⟨n, rfl⟩⟩ := hd
  obtain ⟨h0, h1, h2, h3, q, os, rfl⟩ := h
  exact ⟨h0, h1, h2, h3, q + n, os, by simp [grow, World.drewN, Nat.add_assoc]⟩
theorem SP_alloc {w : World} {x0 x1 y0 y1 : Int} (W : World) (o : Obj) (h : SP w x0 x1 y0 y1 W) : SP w x0 x1 y0 y1 (W.alloc o) := by
  obtain ⟨h0, h1, h2, h3, q, os, rfl⟩ := h
  have hb := below_alloc (Below.refl (grow (w.drewN q) os).heap.size (grow (w.drewN q) os)) o
  exact ⟨pw_cell_below hb h0, pw_cell_below hb h1, pw_cell_below hb h2, pw_cell_below hb h3, q, os ++ #[o], by rw [alloc_eq_grow, grow_grow]⟩
set_option maxHeartbeats 8000000 in
set_option maxRecDepth 100000 in
theorem compare_lays (x y : S36) (w : World) :
    Calls Try.prog 48 #[.agg #[.int .i64 x.f0, .int .i64 x.f1], .agg #[.int .i64 y.f0, .int .i64 y.f1]] w fun e w' => e = .returned (.int .i64 (cmpR x y)) ∧ ∃ q os, w' = grow (w.drewN q) os := by
  obtain ⟨x0, x1⟩ := x
  obtain ⟨y0, y1⟩ := y
  show Calls Try.prog 48 #[.agg #[.int .i64 x0, .int .i64 x1], .agg #[.int .i64 y0, .int .i64 y1]] w _
  have HC0 := Aside0.mk (fun W => cmp_Compare_int64.calls x0 y0 _ W (compare_f x0 y0))
  have HC1 := Aside0.mk (fun W => cmp_Compare_int64.calls x1 y1 _ W (compare_f x1 y1))
  have hS0 : SP w x0 x1 y0 y1 (((w.alloc (.cells #[.int .i64 x0, .int .i64 x1] 36)).alloc (.cells #[.int .i64 y0, .int .i64 y1] 36)).drew) := by
    refine ⟨by go_simp, by go_simp, by go_simp, by go_simp, 1, #[.cells #[.int .i64 x0, .int .i64 x1] 36, .cells #[.int .i64 y0, .int .i64 y1] 36], ?_⟩
    rw [alloc_eq_grow, alloc_eq_grow, grow_grow]
    rfl
  have KS := SP_drawn (w := w) (x0 := x0) (x1 := x1) (y0 := y0) (y1 := y1)
  have KA := fun W => SP_alloc (w := w) (x0 := x0) (x1 := x1) (y0 := y0) (y1 := y1) W (.cells #[.int .i64 (cR x0 y0), .int .i64 (cR x1 y1)] 3)
  have HR := Aside0.mk (show cmpR ⟨x0, x1⟩ ⟨y0, y1⟩ = if cR x0 y0 ≠ 0 then cR x0 y0 else cR x1 y1 from rfl)
  have HO := Aside0.mk (fun W => cmp_Or_int.calls 4 _ 2 [cR x0 y0, cR x1 y1] _ _ (reads2 W (cR x0 y0) (cR x1 y1)) (by simp) (or_f (cR x0 y0) (cR x1 y1)))
  generalize cR x0 y0 = c0 at HC0 HO HR KA
  generalize cR x1 y1 = c1 at HC1 HO HR KA
  generalize (if c0 ≠ 0 then c0 else c1) = r at HO HR
  go_enter Try.func48, Try.ntmps48
  go_wp2
  refine start_ (n := 13) (S := SP w x0 x1 y0 y1) (ds := []) #[false, false, false, false, false, false, false, false, false, false, false, false, false] (by kernel_rfl) rfl rfl hS0 (fun hHeld => ?_)
  refine with_tabW value_Compare.tab1 value_Compare.bits1 (fun HT_ HW_ => ?_)
  clear hS0
  generalize World.drew _ = w0 at hHeld ⊢
  refine pure_ (i := 0) (N := (some 5)) (v := ?_) (a' := ?_) #[true, false, false, false, false, false, false, false, false, false, false, false, false] rfl rfl (any_of HT_.out (by kernel_rfl)) (fun _ _ _ h => h) (Or.inl ⟨by rfl, ?_⟩) ?_ ?_
  rotate_left
  · intro w'
    go_simp
    (try with_reducible rfl)
  rotate_left
  · simp only [Act.put, List.setIfInBounds_toArray, List.set_cons_zero, List.set_cons_succ, i64_w, i32_w]
    rfl
  refine take_ (i := 1) (N := (some 6)) (v := ?_) (a' := ?_) #[true, true, false, false, false, false, false, false, false, false, false, false, false] rfl rfl (take_ofW HT_.out HW_.out (by kernel_rfl)) (fun _ _ _ h => h) (Or.inl ⟨by rfl, ?_⟩) hHeld ?_ ?_
  rotate_left
  · rintro w' ⟨sx0, sx1, sx2, sx3, _⟩
    go_simp
    (try with_reducible rfl)
  rotate_left
  · simp only [Act.put, List.setIfInBounds_toArray, List.set_cons_zero, List.set_cons_succ, i64_w, i32_w]
    rfl
  refine pure_ (i := 2) (N := (some 7)) (v := ?_) (a' := ?_) #[true, true, true, false, false, false, false, false, false, false, false, false, false] rfl rfl (any_of HT_.out (by kernel_rfl)) (fun _ _ _ h => h) (Or.inl ⟨by rfl, ?_⟩) ?_ ?_
  rotate_left
  · intro w'
    go_simp
    (try with_reducible rfl)
  rotate_left
  · simp only [Act.put, List.setIfInBounds_toArray, List.set_cons_zero, List.set_cons_succ, i64_w, i32_w]
    rfl
  refine take_ (i := 3) (N := (some 8)) (v := ?_) (a' := ?_) #[true, true, true, true, false, false, false, false, false, false, false, false, false] rfl rfl (take_ofW HT_.out HW_.out (by kernel_rfl)) (fun _ _ _ h => h) (Or.inl ⟨by rfl, ?_⟩) hHeld ?_ ?_
  rotate_left
  · rintro w' ⟨sx0, sx1, sx2, sx3, _⟩
    go_simp
    (try with_reducible rfl)
  rotate_left
  · simp only [Act.put, List.setIfInBounds_toArray, List.set_cons_zero, List.set_cons_succ, i64_w, i32_w]
    rfl
  refine pure_ (i := 5) (N := (some 10)) (v := ?_) (a' := ?_) #[true, true, true, true, false, true, false, false, false, false, false, false, false] rfl rfl (any_of HT_.out (by kernel_rfl)) (fun _ _ _ h => h) (Or.inl ⟨by rfl, ?_⟩) ?_ ?_
  rotate_left
  · intro w'
    go_simp
    (try with_reducible rfl)
  rotate_left
  · simp only [Act.put, List.setIfInBounds_toArray, List.set_cons_zero, List.set_cons_succ, i64_w, i32_w]
    rfl
  refine take_ (i := 6) (N := (some 11)) (v := ?_) (a' := ?_) #[true, true, true, true, false, true, true, false, false, false, false, false, false] rfl rfl (take_ofW HT_.out HW_.out (by kernel_rfl)) (fun _ _ _ h => h) (Or.inl ⟨by rfl, ?_⟩) hHeld ?_ ?_
  rotate_left
  · rintro w' ⟨sx0, sx1, sx2, sx3, _⟩
    go_simp
    (try with_reducible rfl)
  rotate_left
  · simp only [Act.put, List.setIfInBounds_toArray, List.set_cons_zero, List.set_cons_succ, i64_w, i32_w]
    rfl
  refine pure_ (i := 7) (N := (some 12)) (v := ?_) (a' := ?_) #[true, true, true, true, false, true, true, true, false, false, false, false, false] rfl rfl (any_of HT_.out (by kernel_rfl)) (fun _ _ _ h => h) (Or.inl ⟨by rfl, ?_⟩) ?_ ?_
  rotate_left
  · intro w'
    go_simp
    (try with_reducible rfl)
  rotate_left
  · simp only [Act.put, List.setIfInBounds_toArray, List.set_cons_zero, List.set_cons_succ, i64_w, i32_w]
    rfl
  refine take_ (i := 8) (N := (some 13)) (v := ?_) (a' := ?_) #[true, true, true, true, false, true, true, true, true, false, false, false, false] rfl rfl (take_ofW HT_.out HW_.out (by kernel_rfl)) (fun _ _ _ h => h) (Or.inl ⟨by rfl, ?_⟩) hHeld ?_ ?_
  rotate_left
  · rintro w' ⟨sx0, sx1, sx2, sx3, _⟩
    go_simp
    (try with_reducible rfl)
  rotate_left
  · simp only [Act.put, List.setIfInBounds_toArray, List.set_cons_zero, List.set_cons_succ, i64_w, i32_w]
    rfl
  refine one_ (i := 4) (N := (some 9)) #[true, true, true, true, true, true, true, true, true, false, false, false, false] rfl rfl (one_of HT_.out (by kernel_rfl)) (by decide) (fun K hK => ?_)
  refine call_ 67 #[.int .i64 x0, .int .i64 y0] (by rfl) rfl (by go_simp) ?_
  refine (HC0.out _).mono ?_
  rintro e w1 ⟨rfl, hd⟩
  refine ⟨_, rfl, ?_⟩
  refine hK.out _ _ (KS _ _ hHeld hd) (fun hHeld => ?_)
  clear hK K
  refine norm_ (a' := ?_) ?_ ?_
  rotate_left
  · simp only [Act.put, List.setIfInBounds_toArray, List.set_cons_zero, List.set_cons_succ, i64_w, i32_w]
    rfl
  refine one_ (i := 9) (N := (some 14)) #[true, true, true, true, true, true, true, true, true, true, false, false, false] rfl rfl (one_of HT_.out (by kernel_rfl)) (by decide) (fun K hK => ?_)
  refine call_ 67 #[.int .i64 x1, .int .i64 y1] (by rfl) rfl (by go_simp) ?_
  refine (HC1.out _).mono ?_
  rintro e w1 ⟨rfl, hd⟩
  refine ⟨_, rfl, ?_⟩
  refine hK.out _ _ (KS _ _ hHeld hd) (fun hHeld => ?_)
  clear hK K
  refine norm_ (a' := ?_) ?_ ?_
  rotate_left
  · simp only [Act.put, List.setIfInBounds_toArray, List.set_cons_zero, List.set_cons_succ, i64_w, i32_w]
    rfl
  refine one_ (i := 10) (N := (some 15)) #[true, true, true, true, true, true, true, true, true, true, true, false, false] rfl rfl (one_of HT_.out (by kernel_rfl)) (by decide) (fun K hK => ?_)
  refine value_ (w1 := ?_) (v := ?_) (by rfl) rfl ?_ ?_
  rotate_left 2
  · go_simp
    constructor
    · rfl
    · rfl
  refine hK.out _ _ (KA _ hHeld) (fun hHeld => ?_)
  clear hK K
  refine norm_ (a' := ?_) ?_ ?_
  rotate_left
  · simp only [Act.put, List.setIfInBounds_toArray, List.set_cons_zero, List.set_cons_succ, i64_w, i32_w]
    rfl
  refine one_ (i := 11) (N := (some 16)) #[true, true, true, true, true, true, true, true, true, true, true, true, false] rfl rfl (one_of HT_.out (by kernel_rfl)) (by decide) (fun K hK => ?_)
  refine call_ 66 #[.slice (some ⟨w1.heap.size, 0, none⟩) 2 2] (by rfl) rfl (by go_simp) ?_
  refine (HO.out w1).mono ?_
  rintro e w2 ⟨rfl, hd⟩
  refine ⟨_, rfl, ?_⟩
  refine hK.out _ _ (KS _ _ hHeld hd) (fun hHeld => ?_)
  clear hK K
  refine norm_ (a' := ?_) ?_ ?_
  rotate_left
  · simp only [Act.put, List.setIfInBounds_toArray, List.set_cons_zero, List.set_cons_succ, i64_w, i32_w]
    rfl
  refine pure_ (i := 12) (N := (some 4)) (v := ?_) (a' := ?_) #[true, true, true, true, true, true, true, true, true, true, true, true, true] rfl rfl (any_of HT_.out (by kernel_rfl)) (fun _ _ _ h => h) (Or.inl ⟨by rfl, ?_⟩) ?_ ?_
  rotate_left
  · intro w'
    go_simp
    (try with_reducible rfl)
  rotate_left
  · simp only [Act.put, List.setIfInBounds_toArray, List.set_cons_zero, List.set_cons_succ, i64_w, i32_w]
    rfl
  refine done_ (done_of HT_.out (by kernel_rfl)) ?_
  go_wp2
  go_ret
  exact ⟨by rw [HR.out]; rfl, hHeld.2.2.2.2⟩
end Go.Proofs.Ytcihpjkjodhdpaa.X
namespace Go.Proofs.Ytcihpjkjodhdpaa.X
set_option linter.unusedVariables false
set_option linter.unusedSimpArgs false
open Go.Shelf
open Go.Sort (grow heap_grow_old SWO putRow putCells mapBlock onCells Holds flatK HoldsK get_flatK size_flatK putRowK)
open Go.RowKit Go.Proofs.YtcihpjkjodhdpaaW.PrintWords Go.Proofs.YtcihpjkjodhdpaaW.PrintLast Go.Proofs.YtcihpjkjodhdpaaW.PrintMore
def sortR_ren : Go.Shelf.Ren := ⟨fun | 6 => 47 | 15 => 65 | 14 => 64 | 28 => 85 | 29 => 86 | 20 => 77 | 21 => 78 | 22 => 79 | 23 => 80 | 24 => 81 | 25 => 82 | 26 => 83 | 27 => 84 | 46 => 89 | 47 => 90 | 48 => 91 | 49 => 92 | 50 => 93 | 57 => 94 | n => n, fun | 22 => 28 | 24 => 36 | 25 => 68 | 3 => 3 | 39 => 84 | 0 => 0 | 53 => 101 | 55 => 103 | 4 => 4 | 46 => 94 | 45 => 93 | 50 => 98 | 5 => 5 | 9 => 9 | 66 => 106 | 70 => 110 | 76 => 112 | 77 => 113 | n => n, fun | n => n⟩
theorem sortR : Go.Proofs.SlLaysF0.n6 Try.prog sortR_ren := {
  mixed := by kernel_rfl,
  f6 := ⟨Try.f47.name, by decide, Try.func47.trans (congrArg some (by kernel_rfl))⟩,
  f14 := ⟨Try.f64.name, by decide, Try.func64.trans (congrArg some (by kernel_rfl))⟩,
  f15 := Try.func65.trans (congrArg some (by kernel_rfl)),
  f20 := ⟨Try.f77.name, by decide, Try.func77.trans (congrArg some (by kernel_rfl))⟩,
  f21 := ⟨Try.f78.name, by decide, Try.func78.trans (congrArg some (by kernel_rfl))⟩,
  f22 := ⟨Try.f79.name, by decide, Try.func79.trans (congrArg some (by kernel_rfl))⟩,
  f23 := ⟨Try.f80.name, by decide, Try.func80.trans (congrArg some (by kernel_rfl))⟩,
  f24 := ⟨Try.f81.name, by decide, Try.func81.trans (congrArg some (by kernel_rfl))⟩,
  f25 := ⟨Try.f82.name, by decide, Try.func82.trans (congrArg some (by kernel_rfl))⟩,
  f26 := ⟨Try.f83.name, by decide, Try.func83.trans (congrArg some (by kernel_rfl))⟩,
  f27 := ⟨Try.f84.name, by decide, Try.func84.trans (congrArg some (by kernel_rfl))⟩,
  f28 := Try.func85.trans (congrArg some (by kernel_rfl)),
  f29 := Try.func86.trans (congrArg some (by kernel_rfl)),
  f46 := ⟨Try.f89.name, by decide, Try.func89.trans (congrArg some (by kernel_rfl))⟩,
  f47 := Try.func90.trans (congrArg some (by kernel_rfl)),
  f48 := Try.func91.trans (congrArg some (by kernel_rfl)),
  f49 := ⟨Try.f92.name, by decide, Try.func92.trans (congrArg some (by kernel_rfl))⟩,
  f50 := ⟨Try.f93.name, by decide, Try.func93.trans (congrArg some (by kernel_rfl))⟩,
  f57 := ⟨Try.f94.name, by decide, Try.func94.trans (congrArg some (by kernel_rfl))⟩,
  t0 := Try.underlying0,
  a0 := Try.isAgg0,
  z0 := Try.sizeOf0,
  v0 := Try.zeroValue0,
  t3 := Try.underlying3,
  a3 := Try.isAgg3,
  z3 := Try.sizeOf3,
  v3 := Try.zeroValue3,
  t4 := Try.underlying4,
  a4 := Try.isAgg4,
  z4 := Try.sizeOf4,
  v4 := Try.zeroValue4,
  t5 := Try.underlying5,
  a5 := Try.isAgg5,
  z5 := Try.sizeOf5,
  v5 := Try.zeroValue5,
  t9 := Try.underlying9,
  a9 := Try.isAgg9,
  z9 := Try.sizeOf9,
  v9 := Try.zeroValue9,
  t22 := Try.underlying28,
  a22 := Try.isAgg28,
  z22 := Try.sizeOf28,
  v22 := Try.zeroValue28,
  t25 := Try.underlying68,
  a25 := Try.isAgg68,
  z25 := Try.sizeOf68,
  v25 := Try.zeroValue68,
  t39 := Try.underlying84,
  a39 := Try.isAgg84,
  z39 := Try.sizeOf84,
  v39 := Try.zeroValue84,
  t45 := Try.underlying93,
  a45 := Try.isAgg93,
  z45 := Try.sizeOf93,
  v45 := Try.zeroValue93,
  t46 := Try.underlying94,
  a46 := Try.isAgg94,
  z46 := Try.sizeOf94,
  v46 := Try.zeroValue94,
  t50 := Try.underlying98,
  a50 := Try.isAgg98,
  z50 := Try.sizeOf98,
  v50 := Try.zeroValue98,
  t53 := Try.underlying101,
  a53 := Try.isAgg101,
  z53 := Try.sizeOf101,
  v53 := Try.zeroValue101,
  t55 := Try.underlying103,
  a55 := Try.isAgg103,
  z55 := Try.sizeOf103,
  v55 := Try.zeroValue103,
  t66 := Try.underlying106,
  a66 := Try.isAgg106,
  z66 := Try.sizeOf106,
  v66 := Try.zeroValue106,
  t70 := Try.underlying110,
  a70 := Try.isAgg110,
  z70 := Try.sizeOf110,
  v70 := Try.zeroValue110,
  t76 := Try.underlying112,
  a76 := Try.isAgg112,
  z76 := Try.sizeOf112,
  v76 := Try.zeroValue112,
  t77 := Try.underlying113,
  a77 := Try.isAgg113,
  z77 := Try.sizeOf113,
  v77 := Try.zeroValue113 }
instance inhabitedS36 : Inhabited S36 := ⟨z36⟩
def encR (x : S36) : List Value := [.int .i64 x.f0, .int .i64 x.f1]
theorem cR_lt (a b : Int) : cR a b < 0 ↔ a < b := by
  unfold cR
  by_cases h : a < b
  · simp [h]
  · by_cases h2 : b < a <;> simp [h, h2]
theorem cR_ne (a b : Int) : cR a b ≠ 0 ↔ a ≠ b := by
  unfold cR
  by_cases h : a < b
  · simp [h]; omega
  · by_cases h2 : b < a <;> simp [h, h2] <;> omega
theorem ltOf_cmpR (x y : S36) : ltOf cmpR x y = decide (x.f0 < y.f0 ∨ (x.f0 = y.f0 ∧ x.f1 < y.f1)) := by
  unfold ltOf cmpR
  by_cases h : x.f0 = y.f0
  · have h1 : ¬ (cR x.f0 y.f0 ≠ 0) := fun h2 => (cR_ne _ _).1 h2 h
    rw [if_neg h1]
    simp [cR_lt, h]
  · rw [if_pos ((cR_ne _ _).2 h)]
    simp [cR_lt, h]
theorem swoR : SWO (ltOf cmpR) where
  irrefl x := by rw [ltOf_cmpR]; simp
  trans x y z h1 h2 := by
    rw [ltOf_cmpR, decide_eq_true_eq] at *
    omega
  ntrans x y z h1 h2 := by
    rw [ltOf_cmpR, decide_eq_false_iff_not] at *
    omega
theorem totR (x y : S36) (h1 : ltOf cmpR x y = false) (h2 : ltOf cmpR y x = false) : x = y := by
  rw [ltOf_cmpR, decide_eq_false_iff_not] at h1 h2
  obtain ⟨x0, x1⟩ := x
  obtain ⟨y0, y1⟩ := y
  simp only at h1 h2
  have e0 : x0 = y0 := by omega
  have e1 : x1 = y1 := by omega
  rw [e0, e1]
def srt (l : List S36) : List S36 := l.mergeSort fun x y => !(ltOf cmpR) y x
theorem srt_length (l : List S36) : (srt l).length = l.length := List.length_mergeSort _
theorem srt_nil : srt [] = [] := by simp [srt]
theorem flat_encR_length (l : List S36) : (l.flatMap encR).length = l.length * 2 := by
  induction l with
  | nil => rfl
  | cons x r ih => simp only [List.flatMap_cons, List.length_append, ih, encR, List.length_cons, List.length_nil]; omega
theorem flat_encR_get (l : List S36) : ∀ (j : Nat), j < l.length * 2 → (l.flatMap encR)[j]? = (encR (l.getD (j / 2) z36))[j % 2]? := by
  induction l with
  | nil => intro j hj; simp at hj
  | cons x r ih =>
    intro j hj
    simp only [List.flatMap_cons]
    by_cases h : j < 2
    · rw [List.getElem?_append_left (by simpa [encR] using h)]
      have : j / 2 = 0 := by omega
      have h2 : j % 2 = j := by omega
      rw [this, h2]
      rfl
    · rw [List.getElem?_append_right (by simp [encR]; omega)]
      have hl : (encR x).length = 2 := rfl
      rw [hl, ih (j - 2) (by simp at hj; omega)]
      have e1 : j / 2 = (j - 2) / 2 + 1 := by omega
      have e2 : (j - 2) % 2 = j % 2 := by omega
      rw [e1, e2]
      rfl
theorem flatK_encR (l : List S36) : (flatK encR 2 l.toArray).toList = l.flatMap encR := by
  apply List.ext_getElem?
  intro j
  by_cases hj : j < l.length * 2
  · rw [flat_encR_get l j hj, Array.getElem?_toList]
    have hs : j < (flatK encR 2 l.toArray).size := by simpa using hj
    rw [Array.getElem?_eq_getElem hs, ← getElem!_pos (flatK encR 2 l.toArray) j hs, get_flatK encR 2 l.toArray j (by simpa using hj)]
    have hd : j / 2 < l.length := by omega
    have e : l.toArray[j / 2]! = l.getD (j / 2) z36 := by simp [hd]
    rw [e]
    have hm : j % 2 < (encR (l.getD (j / 2) z36)).length := by simp only [encR, List.length_cons, List.length_nil]; omega
    rw [List.getElem?_eq_getElem hm, getElem!_pos (encR (l.getD (j / 2) z36)) (j % 2) hm]
  · rw [List.getElem?_eq_none (by simp; omega), List.getElem?_eq_none (by rw [flat_encR_length]; omega)]
theorem reps_encR (W : World) (base : Nat) (ok : Nat → Prop) (l : List S36) : Reps (k36.M W base ok) 2 l (l.flatMap encR) := by
  refine ⟨flat_encR_length l, fun j p hj => ?_⟩
  have hlt : j < l.length := (List.getElem?_eq_some_iff.1 hj).1
  have e : ((l.flatMap encR).drop (j * 2)).take 2 = encR p := by
    apply List.ext_getElem?
    intro i
    by_cases hi : i < 2
    · rw [List.getElem?_take_of_lt hi, List.getElem?_drop, flat_encR_get l _ (by omega)]
      have e1 : (j * 2 + i) / 2 = j := by omega
      have e2 : (j * 2 + i) % 2 = i := by omega
      rw [e1, e2, List.getD_eq_getElem?_getD, hj]
      rfl
    · rw [List.getElem?_take_eq_none (by omega), List.getElem?_eq_none (by simp [encR]; omega)]
  rw [e]
  exact k36_mkM _ _ _ p
theorem reps_inner {W : World} {base : Nat} {ok : Nat → Prop} {l : List S36} {inner : List Value} (h : Reps (k36.M W base ok) 2 l inner) : inner = l.flatMap encR := by
  obtain ⟨hl, h2⟩ := h
  apply List.ext_getElem?
  intro j
  by_cases hj : j < l.length * 2
  · rw [flat_encR_get l j hj]
    have hd : j / 2 < l.length := by omega
    have h3 := h2 (j / 2) _ (List.getElem?_eq_getElem hd)
    have h4 := k36_openM h3
    have e : ((inner.drop (j / 2 * 2)).take 2)[j % 2]? = inner[j]? := by
      rw [List.getElem?_take_of_lt (by omega), List.getElem?_drop]
      congr 1
      omega
    rw [← e, h4, List.getD_eq_getElem?_getD, List.getElem?_eq_getElem hd]
    rfl
  · rw [List.getElem?_eq_none (by omega), List.getElem?_eq_none (by rw [flat_encR_length]; omega)]
theorem heap_sortedV {w : World} {g n : Nat} {os : Array Obj} {cur : Array Value} {e : TypeId} {fr : Nat × Nat} (F : Array Value) (hb : w.heap[g]? = some (.cells cur e fr)) :
    (grow (putRow id (Go.Sort.ahead w n) g 0 F) os).heap[g]? = some (.cells (putCells id 0 F cur) e fr) := by
  have hg : g < w.heap.size := (Array.getElem?_eq_some_iff.1 hb).1
  rw [heap_grow_old _ _ (by simpa using hg)]
  simp [putRow, mapBlock, Go.Sort.ahead, Array.getElem?_modify, hb, onCells]
theorem grownBy_sortedV {w : World} {g n : Nat} {os : Array Obj} (F : Array Value) : w.grownBy (grow (putRow id (Go.Sort.ahead w n) g 0 F) os) (some g) := by
  refine ⟨rfl, rfl, rfl, by simp, fun k hk hne => ?_⟩
  rw [heap_grow_old _ _ (by simpa using hk)]
  have : g ≠ k := fun e => hne (by rw [e])
  simp [putRow, mapBlock, Go.Sort.ahead, Array.getElem?_modify, this]
theorem take_putCellsV (cur F : Array Value) (h : F.size ≤ cur.size) : (putCells id 0 F cur).toList.take F.size = F.toList := by
  apply List.ext_getElem?
  intro j
  by_cases hj : j < F.size
  · rw [List.getElem?_take_of_lt hj, Array.getElem?_toList, Array.getElem?_toList]
    simp [putCells, hj, show j < cur.size by omega]
  · rw [List.getElem?_take_eq_none (by omega), List.getElem?_eq_none (by simp; omega)]
theorem cmpLaysR (blk off size : Nat) (w : World) : CmpLays Try.prog 48 #[] encR 2 cmpR blk off size w := fun _ _ _ _ x y => compare_lays x y _
theorem sort_calls (v : Value) (xs : List S36) (base : Nat) (W : World) (h : Kd.R k36 36 W base (fun _ => True) v xs) (hl : xs.length ≤ 1000000) :
    Calls Try.prog 47 #[v, .func (.func 48) #[] #[]] W fun e w' => e = .returned (.tuple #[]) ∧ Kd.R k36 36 w' base (fun _ => True) v (srt xs) ∧ W.grownBy w' v.ownBlock := by
  by_cases h0 : xs.length = 0
  · obtain ⟨A, c, rfl⟩ := Kd.R_slice h
    rw [h0]
    have e : xs = [] := List.length_eq_zero_iff.1 h0
    refine (AnyF.slices_SortFunc_none (P := Try.prog) (ρ := sortR_ren) { sortR with } A c (.func (.func 48) #[] #[]) W).mono ?_
    rintro e1 w' ⟨he, rfl⟩
    refine ⟨he, ?_, ⟨rfl, rfl, rfl, Nat.le_refl _, fun _ _ _ => rfl⟩⟩
    rw [e, srt_nil]
    rw [h0, e] at h
    exact h
  · obtain ⟨_, inner, hown, hr⟩ := h
    have hin := reps_inner hr
    subst hin
    obtain ⟨hlen, h2⟩ := hown
    rcases h2 with ⟨_, h0'⟩ | ⟨g, cap, cur, rfl, hg, hb, hlc, hcm, hsz, htk⟩
    · exact absurd h0' h0
    simp only [show k36.sz = 2 from rfl] at hsz htk
    have hblk : g < W.heap.size := (Array.getElem?_eq_some_iff.1 hb).1
    have hH : HoldsK encR 2 W g 0 xs.toArray := by
      intro j hj
      have hj' : j < xs.length * 2 := by simpa using hj
      refine ⟨?_, by simp [World.frozen?, hb]⟩
      have h1 : (cur.toList.take (xs.length * 2))[j]? = (xs.flatMap encR)[j]? := by rw [htk]
      rw [List.getElem?_take_of_lt hj', ← flatK_encR, Array.getElem?_toList, Array.getElem?_toList, Array.getElem?_eq_getElem hj] at h1
      simp only [World.cell?, hb, Nat.zero_add, Option.isSome_none, Bool.false_eq_true, if_false]
      rw [h1, getElem!_pos _ j hj]
      rfl
    have eg : ∀ args w, (callFunc 48 args).run Try.prog w = .ok (.enter 48 args) w := enters_of Try.func48 (by kernel_rfl) rfl
    have hcon := AnyQ.slices_SortFunc_total sortR 2 Try.isAgg36 Try.sizeOf36 encR (fun _ => rfl) (fun x v hv => by simp [encR] at hv; rcases hv with rfl | rfl <;> rfl) cmpR swoR 48 #[] g 0 cap xs.toArray W eg (cmpLaysR g 0 xs.toArray.size W) hH hblk (by simp; omega) totR
    change Calls Try.prog 47 #[.slice (some ⟨g, 0, none⟩) xs.length cap, _] _ _ at hcon
    refine hcon.mono ?_
    rintro e w' ⟨he, n, os, rfl⟩
    have hs : (xs.toArray.toList.mergeSort fun x y => !(ltOf cmpR) y x).toArray = (srt xs).toArray := rfl
    rw [hs]
    refine ⟨he, ⟨fun _ _ => trivial, (srt xs).flatMap encR, ⟨by rw [flat_encR_length]; rfl, .inr ⟨g, cap, _, ?_, hg, heap_sortedV _ hb, ?_, hcm, ?_, ?_⟩⟩, reps_encR _ _ _ _⟩, grownBy_sortedV _⟩
    · rw [srt_length]
    · rw [srt_length]; exact hlc
    · simp [putCells, hsz]; rfl
    · have e1 : (flatK encR 2 (srt xs).toArray).size = (srt xs).length * 2 := by simp
      show (putCells id 0 (flatK encR 2 (srt xs).toArray) cur).toList.take ((srt xs).length * 2) = _
      rw [← e1, take_putCellsV _ _ (by rw [e1, srt_length, hsz]; exact Nat.mul_le_mul_right _ hlc), flatK_encR]
set_option maxHeartbeats 4000000 in
set_option maxRecDepth 100000 in
theorem add_calls (A : Option Addr) (c : Nat) (L : List (List S36)) (w : World) (hr : Kd.C (Kd.slice 36 k36) w A L.length L) (hl : L.flatten.length ≤ 1000000) :
    Calls Try.prog 21 #[.slice A L.length c] w fun e w' => ∃ v, e = .returned v ∧ Kd.R k36 36 w' w.heap.size (fun _ => True) v (srt L.flatten) ∧ Below w.heap.size w w' := by
  have HC := Aside0.mk (concat_calls A c L w hr hl)
  have HL := Aside0.mk hl
  clear hr hl
  generalize L.flatten = xs at HC HL
  go_enter Try.func21, Try.ntmps21
  go_wp2_with (first | (go_at_call 46; refine HC.out.mono ?_; rintro e w1 ⟨v, rfl, ho, hb⟩; have HO := Aside0.mk ho; have HB := Aside0.mk hb; clear ho hb) | (go_at_call 47; refine (sort_calls _ xs _ _ HO.out HL.out).mono ?_; rintro e w2 ⟨rfl, ho, hg⟩; have HO2 := Aside0.mk ho; have HB2 := Aside0.mk (HB.out.grown hg HB.out.size (Kd.R_base HO.out)); clear ho hg))
  go_ret
  exact ⟨_, rfl, HO2.out, HB2.out⟩
theorem reads_one (W : World) (A : Option Addr) (n c : Nat) (l : List S36) (hn : l.length = n) (hr : Kd.C k36 W A l.length l) (hc : l.length ≤ c) :
    Kd.C (Kd.slice 36 k36) (W.alloc (.cells #[.slice A n c] 28)) (some ⟨W.heap.size, 0, none⟩) ([l] : List (List S36)).length [l] := by
  subst hn
  refine ⟨rfl, by simp, fun _ => ⟨_, rfl, fun j p hj => ⟨[.slice A p.length c], rfl, ?_, fun i u hu => ?_⟩⟩⟩
  · match j, hj with
    | 0, hj =>
      simp at hj; subst hj
      exact ⟨A, c, rfl, hc, Kd.C_alloc hr _⟩
    | j + 1, hj => simp at hj
  · match j, hj with
    | 0, hj =>
      simp at hj; subst hj
      match i, hu with
      | 0, hu =>
        simp at hu; subst hu
        rw [add_plain]
        simp [Kd.slice, go_sem]
      | i + 1, hu => simp at hu
    | j + 1, hj => simp at hj
set_option maxHeartbeats 4000000 in
set_option maxRecDepth 100000 in
theorem sorted_calls (A : Option Addr) (c : Nat) (l : List S36) (w : World) (hr : Kd.C k36 w A l.length l) (hc : l.length ≤ c) (hl : l.length ≤ 1000000) :
    Calls Try.prog 32 #[.slice A l.length c] w fun e w' => ∃ v, e = .returned v ∧ Kd.R k36 36 w' w.heap.size (fun _ => True) v (srt l) ∧ Below w.heap.size w w' := by
  have HC := Aside0.mk (add_calls (some ⟨w.heap.size, 0, none⟩) 1 [l] _ (reads_one w A l.length c l rfl hr hc) (by simpa using hl))
  have hHB := Aside0.mk (below_alloc (Below.refl w.heap.size w) (.cells #[.slice A l.length c] 28))
  have e : ([l] : List (List S36)).flatten = l := by simp
  rw [e] at HC
  clear hr hc hl e
  go_enter Try.func32, Try.ntmps32
  go_wp2_with (go_at_call 21; refine HC.out.mono ?_; rintro e w1 ⟨v, rfl, ho, hb⟩; have HO := Aside0.mk (Kd.R_lower ho hHB.out.size); have HB := Aside0.mk (below_step hHB.out hb); clear ho hb)
  go_ret
  exact ⟨_, rfl, HO.out, HB.out⟩
set_option maxHeartbeats 4000000 in
set_option maxRecDepth 100000 in
theorem passes_calls (a0 a1 a2 a3 : Int) (A4 : Option Addr) (n4 c4 : Nat) (A : Option Addr) (c : Nat) (L : List (List S36)) (w : World) (hr : Kd.C (Kd.slice 36 k36) w A L.length L) (hl : L.flatten.length ≤ 1000000) :
    Calls Try.prog 31 #[.agg #[.int .u8 a0, .int .u8 a1, .int .i64 a2, .int .i64 a3, .slice A4 n4 c4], .slice A L.length c] w fun e w' => ∃ v, e = .returned v ∧ Kd.R k36 36 w' w.heap.size (fun _ => True) v (srt L.flatten) ∧ Below w.heap.size w w' := by
  have hHB := Aside0.mk (below_alloc (Below.refl w.heap.size w) (.cells #[.int .u8 a0, .int .u8 a1, .int .i64 a2, .int .i64 a3, .slice A4 n4 c4] 24))
  have HC := Aside0.mk (add_calls A c L _ (Kd.C_below hr hHB.out) hl)
  clear hr hl
  generalize srt L.flatten = xs at HC ⊢
  go_enter Try.func31, Try.ntmps31
  go_wp2_with (go_at_call 21; refine HC.out.mono ?_; rintro e w1 ⟨v, rfl, ho, hb⟩; have HO := Aside0.mk (Kd.R_lower ho hHB.out.size); have HB := Aside0.mk (below_step hHB.out hb); clear ho hb)
  go_ret
  exact ⟨_, rfl, HO.out, HB.out⟩
end Go.Proofs.Ytcihpjkjodhdpaa.X
namespace Go.Proofs.Ytcihpjkjodhdpaa.X
set_option linter.unusedVariables false
set_option linter.unusedSimpArgs false
open Go.RowKit Go.Maps Go.Proofs.YtcihpjkjodhdpaaW.PrintWords Go.Proofs.YtcihpjkjodhdpaaW.PrintLast Go.Proofs.YtcihpjkjodhdpaaW.PrintMore
def redV (a : Int) (ok : Bool) (old v : Int) : Int := if a = 1 then wrap64 (old + 1) else if ok = false then v else if a = 0 then wrap64 (old + v) else if a = 2 then mn old v else mx old v
def redStep (a : Int) (f : Int → Option Int) (x : S36) : Int → Option Int := fun k => if k = x.f0 then some (redV a (f x.f0).isSome ((f x.f0).getD 0) x.f1) else f k
def redS (a : Int) (l : List S36) : Int → Option Int := l.foldl (redStep a) (fun _ => none)
theorem redS_take (a : Int) (l : List S36) (k : Nat) (x : S36) (h : l[k]? = some x) : redS a (l.take (k + 1)) = redStep a (redS a (l.take k)) x := by
  unfold redS
  rw [List.take_add_one, h]
  simp
def MapIs (D : DataW Unit) (f : Int → Option Int) : Prop :=
  Maps.IsMap D ∧ ∀ k, Maps.has D (.int .i64 k) = (f k).isSome ∧ ∀ v, f k = some v → ∀ z, D.atKey (.int .i64 k) z = .lit (.int .i64 v)
theorem MapIs.start : MapIs (.map []) (fun _ => none) := ⟨Maps.isMap_empty, fun k => ⟨rfl, fun v h => by cases h⟩⟩
theorem MapIs.val {D : DataW Unit} {f : Int → Option Int} (h : MapIs D f) {k c : Int} (hat : D.atKey (.int .i64 k) (.lit (.int .i64 0)) = .lit (.int .i64 c)) : c = (f k).getD 0 := by
  obtain ⟨h1, h2⟩ := h.2 k
  cases e : f k with
  | none =>
    rw [e] at h1
    rw [Maps.atKey_of_not_has h1] at hat
    simp at hat
    simp [hat]
  | some v =>
    rw [h2 v e] at hat
    simp at hat
    simp [hat]
theorem MapIs.there {D : DataW Unit} {f : Int → Option Int} (h : MapIs D f) {k c : Int} (hat : ∀ z, D.atKey (.int .i64 k) z = .lit (.int .i64 c)) : f k = some c := by
  obtain ⟨h1, h2⟩ := h.2 k
  cases e : f k with
  | none =>
    rw [e] at h1
    have h3 := hat (.lit (.int .i64 (c + 1)))
    rw [Maps.atKey_of_not_has h1] at h3
    simp at h3
    omega
  | some v =>
    have h3 := hat .nil
    rw [h2 v e] at h3
    simp at h3
    rw [h3]
theorem int_ne {a b : Int} (h : a ≠ b) : (Lit.int .i64 a) ≠ (Lit.int .i64 b) := fun e => h (by injection e)
theorem MapIs.put {D : DataW Unit} {f : Int → Option Int} (h : MapIs D f) (k0 v0 : Int) : MapIs (D.put (.int .i64 k0) (.lit (.int .i64 v0))) (fun k => if k = k0 then some v0 else f k) := by
  refine ⟨h.1.put _ _, fun k => ?_⟩
  by_cases e : k = k0
  · subst e
    refine ⟨by rw [Maps.has_put_same (k := .int .i64 k) h.1 trivial]; simp, fun v hv z => ?_⟩
    rw [Maps.atKey_put_same (k := .int .i64 k) h.1 trivial]
    simp at hv
    rw [hv]
  · refine ⟨by rw [Maps.has_put_other (int_ne e), (h.2 k).1]; simp [e], fun v hv z => ?_⟩
    rw [Maps.atKey_put_other (int_ne e)]
    simp [e] at hv
    exact (h.2 k).2 v hv z
def OutIs (f : Int → Option Int) (left : Lit → Bool) (out : List S36) : Prop :=
  (out.map S36.f0).Nodup ∧ ∀ x : S36, x ∈ out ↔ (f x.f0 = some x.f1 ∧ left (.int .i64 x.f0) = false)
theorem OutIs.start {D : DataW Unit} {f : Int → Option Int} (h : MapIs D f) : OutIs f (Maps.has D) [] := by
  refine ⟨by simp, fun x => ⟨fun hx => by simp at hx, fun ⟨h1, h2⟩ => ?_⟩⟩
  rw [(h.2 x.f0).1, h1] at h2
  cases h2
theorem sameKey_int (a b : Int) : (Lit.int .i64 a).sameKey (.int .i64 b) = decide (a = b) := by
  by_cases e : a = b
  · subst e; simp [Lit.sameKey]
  · rw [Maps.sameKey_ne (int_ne e)]; simp [e]
theorem OutIs.step {f : Int → Option Int} {left : Lit → Bool} {out : List S36} (h : OutIs f left out) {k c : Int} (hl : left (.int .i64 k) = true) (hf : f k = some c) :
    OutIs f (fun z => left z && !z.sameKey (.int .i64 k)) (out ++ [⟨k, c⟩]) := by
  refine ⟨?_, fun x => ?_⟩
  · rw [List.map_append, List.nodup_append]
    refine ⟨h.1, by simp, fun a ha b hb e => ?_⟩
    obtain ⟨y, hy, rfl⟩ := List.mem_map.1 ha
    simp at hb
    have h2 := ((h.2 y).1 hy).2
    rw [e, hb, hl] at h2
    cases h2
  · rw [List.mem_append, h.2 x, List.mem_singleton]
    simp only [sameKey_int]
    by_cases e : x.f0 = k
    · constructor
      · rintro (⟨h1, h2⟩ | rfl)
        · rw [e, hl] at h2; cases h2
        · exact ⟨hf, by simp⟩
      · rintro ⟨h1, _⟩
        right
        obtain ⟨x0, x1⟩ := x
        simp only at e h1
        subst e
        rw [hf] at h1
        injection h1 with h1
        rw [h1]
    · constructor
      · rintro (⟨h1, h2⟩ | rfl)
        · exact ⟨h1, by simp [h2]⟩
        · exact absurd rfl e
      · rintro ⟨h1, h2⟩
        left
        refine ⟨h1, ?_⟩
        simpa [e] using h2
theorem law2 : Maps.Keyed Try.prog 2 := Maps.int_keyed Try.underlying2
theorem zero2 (w : World) : (zeroValue 2).run Try.prog w = .ok (.int .i64 0) w := by kernel_rfl
theorem owns_size {w : World} {b n : Nat} {D : DataW Unit} (h : w.ownsMap Try.prog 2 (plainElem Try.prog 2) b n D) : Maps.size D ≤ n := by
  obtain ⟨es, clock, _, _, hs, rfl⟩ := h
  rw [Maps.size_eq, length_sorted]
  simpa using hs
def wf36 (x : S36) : Prop := (Lit.int .i64 x.f0).wf = true ∧ (Lit.int .i64 x.f1).wf = true
end Go.Proofs.Ytcihpjkjodhdpaa.X
namespace Go.Proofs.Ytcihpjkjodhdpaa.X
set_option linter.unusedVariables false
set_option linter.unusedSimpArgs false
open Go.RowKit Go.Maps Go.Proofs.YtcihpjkjodhdpaaW.PrintWords Go.Proofs.YtcihpjkjodhdpaaW.PrintLast Go.Proofs.YtcihpjkjodhdpaaW.PrintMore
attribute [local go_sem] max2_int min2_int max_two min_two
def RedAt (w wr : World) (nd : Array Value) (kk : Nat) (f : Int → Option Int) : Prop :=
  ∃ D : DataW Unit, wr.ownsMap Try.prog 2 (plainElem Try.prog 2) (w.heap.size + 1) kk D ∧ MapIs D f ∧ wr.heap[w.heap.size]? = some (.cells nd 24 (0, 0)) ∧ Below w.heap.size w wr
theorem RedAt.step {w wr w1 : World} {nd : Array Value} {kk : Nat} {f : Int → Option Int} {D : DataW Unit} {a : Int} {x : S36} {c : Int} {o : Obj} {v : Int}
    (hM : MapIs D f) (hb : wr.heap[w.heap.size]? = some (.cells nd 24 (0, 0))) (hB : Below w.heap.size w wr) (hsz : w.heap.size + 1 < wr.heap.size)
    (hat : D.atKey (.int .i64 x.f0) (.lit (.int .i64 0)) = .lit (.int .i64 c)) (hv : v = redV a (Maps.has D (.int .i64 x.f0)) c x.f1)
    (h1 : w1.ownsMap Try.prog 2 (plainElem Try.prog 2) (w.heap.size + 1) (kk + 1) (D.put (.int .i64 x.f0) (.lit (.int .i64 v)))) (hg : (wr.alloc o).grownBy w1 (some (w.heap.size + 1))) : RedAt w w1 nd (kk + 1) (redStep a f x) := by
  have e : redStep a f x = fun k => if k = x.f0 then some v else f k := by
    funext k
    unfold redStep
    rw [hv, hM.val hat, (hM.2 x.f0).1]
  refine ⟨_, h1, by rw [e]; exact hM.put _ _, ?_, ?_⟩
  · exact (hg.block _ (by simp; omega) (by simp)).trans (blk_alloc hb o)
  · exact (below_alloc hB o).grown hg (by simp; omega) (fun k hk => by injection hk with hk; omega)
theorem R36_other {w w1 : World} {base : Nat} {v : Value} {xs : List S36} (h : Kd.R k36 36 w base (fun _ => True) v xs) {row : Option Nat} (hg : w.grownBy w1 row) (hne : v.ownBlock = none ∨ v.ownBlock ≠ row) : Kd.R k36 36 w1 base (fun _ => True) v xs :=
  ⟨fun _ _ => trivial, (h.2.other hg hne).imp_ (fun p c hp => by rw [k36_openM hp]; exact k36_mkM _ _ _ p)⟩
theorem row_ne_iter' {w : World} {base b r n cnt : Nat} {D : DataW Unit} {left : Lit → Bool} {v : Value} {xs : List S36} (h : Kd.R k36 36 w base (fun _ => True) v xs) (hr : w.ranges Try.prog 2 (plainElem Try.prog 2) b r n D left cnt) : some r ≠ v.ownBlock := by
  obtain ⟨inner, hown⟩ := Kd.R_own h
  exact row_ne_iter hown hr
theorem row_ne_map' {w : World} {base b n : Nat} {D : DataW Unit} {v : Value} {xs : List S36} (h : Kd.R k36 36 w base (fun _ => True) v xs) (hm : w.ownsMap Try.prog 2 (plainElem Try.prog 2) b n D) : some b ≠ v.ownBlock := by
  obtain ⟨inner, hown⟩ := Kd.R_own h
  obtain ⟨es, clock, hb, _⟩ := hm
  intro e
  obtain ⟨cells, hc⟩ := own_typed hown b e.symm
  rw [hb] at hc
  cases hc
theorem wf_mn {a b : Int} (ha : (Lit.int .i64 a).wf = true) (hb : (Lit.int .i64 b).wf = true) : (Lit.int .i64 (if b < a then b else a)).wf = true := by split <;> assumption
theorem wf_mx {a b : Int} (ha : (Lit.int .i64 a).wf = true) (hb : (Lit.int .i64 b).wf = true) : (Lit.int .i64 (if a < b then b else a)).wf = true := by split <;> assumption
set_option maxHeartbeats 2000000 in
set_option maxRecDepth 100000 in
theorem reduces_calls (a0 a1 a2 a3 : Int) (A4 : Option Addr) (n4 c4 : Nat) (A : Option Addr) (c : Nat) (L : List (List S36)) (w : World) (hr : Kd.C (Kd.slice 36 k36) w A L.length L) (h1 : 1 ≤ L.length) (hl : (rd_L2 L 0).length ≤ 1000000) (hwf : ∀ x ∈ rd_L2 L 0, wf36 x) :
    Calls Try.prog 29 #[.agg #[.int .u8 a0, .int .u8 a1, .int .i64 a2, .int .i64 a3, .slice A4 n4 c4], .slice A L.length c] w fun e w' => ∃ v out, e = .returned v ∧ Kd.R k36 36 w' w.heap.size (fun _ => True) v out ∧ Below w.heap.size w w' ∧
      OutIs (redS a1 (rd_L2 L 0)) (fun _ => false) out ∧ out.length ≤ (rd_L2 L 0).length := by
  have HLEN : L.length ≤ 9223372036854775807 := hr.2.1
  obtain ⟨ad, A0, c0, eA, q0, hc0, hr0⟩ := at_L2 hr 0 (by omega) (by omega)
  subst eA
  simp only [Int.toNat_zero] at q0
  have e0 : ad.add 0 = ad := by simp [Addr.add]
  rw [e0] at q0
  clear e0
  have h1z : (0 : Int) < (L.length : Int) := by omega
  generalize rd_L2 L 0 = l at q0 hc0 hr0 hl hwf ⊢
  have HR := Aside0.mk hr0
  have HW := Aside0.mk hwf
  have HLL := Aside0.mk hl
  have HL9 : l.length ≤ 9223372036854775807 := by omega
  have hHB := Aside0.mk (Below.refl w.heap.size w)
  obtain ⟨nd, hnd⟩ : ∃ nd : Array Value, nd = #[.int .u8 a0, .int .u8 a1, .int .i64 a2, .int .i64 a3, .slice A4 n4 c4] := ⟨_, rfl⟩
  have HND := Aside0.mk hnd
  have e1 : (w.alloc (.cells #[.int .u8 a0, .int .u8 a1, .int .i64 a2, .int .i64 a3, .slice A4 n4 c4] 24)).heap.size = w.heap.size + 1 := by simp
  have HS0 : Aside0 (RedAt w ((w.alloc (.cells #[.int .u8 a0, .int .u8 a1, .int .i64 a2, .int .i64 a3, .slice A4 n4 c4] 24)).alloc (.map #[] 0)) nd 0 (redS a1 (l.take 0))) :=
    ⟨.map [], e1 ▸ World.ownsMap_made _ _ _ _, MapIs.start, blk_alloc (by rw [hnd]; simpa using heap_alloc_last w _) _, below_alloc (below_alloc hHB.out _) _⟩
  have HSZ0 : w.heap.size + 1 < ((w.alloc (.cells #[.int .u8 a0, .int .u8 a1, .int .i64 a2, .int .i64 a3, .slice A4 n4 c4] 24)).alloc (.map #[] 0)).heap.size := by simp
  have q1 := ((below_alloc (below_alloc hHB.out (.cells #[.int .u8 a0, .int .u8 a1, .int .i64 a2, .int .i64 a3, .slice A4 n4 c4] 24)) (.map #[] 0)).cell (World.block_lt_of_cell? w _ q0)).trans q0
  have hmm := @run_makeMap Try.prog
  clear hr hr0 hl hwf hc0 q0 hnd e1
  go_enter Try.func29, Try.ntmps29
  go_wp2
  go_loopg [18] l.length (fun gg v18 wr => ∃ kk : Nat, kk ≤ l.length ∧ l.length - kk ≤ gg ∧ v18 = .int .i64 kk ∧ Aside0 (RedAt w wr nd kk (redS a1 (l.take kk))) ∧ w.heap.size + 1 < wr.heap.size)
  case atStart => exact ⟨0, Nat.zero_le _, by omega, rfl, HS0, HSZ0⟩
  case round =>
    clear HS0 HSZ0 q1
    obtain ⟨kk, hkk, hg, rfl, HAT, hsz⟩ := hrel
    by_cases hlt : kk < l.length
    · have hltz : (kk : Int) < (l.length : Int) := by omega
      obtain ⟨D, hown, hM, hb, hB⟩ := HAT.out
      clear HAT
      obtain ⟨ad2, eA, q0, q1⟩ := at_T36 (Kd.C_below HR.out hB) (kk : Int) (by omega) hltz
      simp only [Int.toNat_natCast] at q0 q1
      have hx : l[kk]? = some (rd_T36 l (kk : Int)) := by simp [rd_T36, List.getD_eq_getElem?_getD, hlt]
      have hs := redS_take a1 l kk _ hx
      have hwx := HW.out _ (List.mem_of_getElem? hx)
      generalize rd_T36 l (kk : Int) = x at q0 q1 hs hwx
      have HST := Aside0.mk hs
      have HB := Aside0.mk hB
      have HM := Aside0.mk hM
      have HBX := Aside0.mk hb
      have HOWN := Aside0.mk hown
      have hkey : keyOf Try.prog 2 (.int .i64 x.f0) = some (.int .i64 x.f0) := Maps.keyOf_int_mk Try.underlying2 hwx.1
      have HWX := Aside0.mk hwx
      have hca : wr.cell? ⟨w.heap.size, 1, none⟩ = some (.int .u8 a1) := by rw [blk_cell hb 1, HND.out]; rfl
      clear hs hx hB hM hb hown hwx
      subst eA
      obtain ⟨x0, x1⟩ := x
      simp only at q0 q1 hkey
      have hcA := pw_cell_below (below_alloc (Below.refl wr.heap.size wr) (.cells #[.int .i64 x0, .int .i64 x1] 36)) hca
      clear hca
      obtain ⟨ok, hok⟩ : ∃ ok, ok = Maps.has D (.int .i64 x0) := ⟨_, rfl⟩
      have HOK := Aside0.mk hok
      have hok' := hok.symm
      clear hok
      by_cases k1 : a1 = 1
      · subst k1
        go_wp2_with (first | (at_lookup; refine wpList_lookup_own_ok_int _ rfl _ _ 73 rfl 2 2 .i64 law2 Try.underlying73 Try.underlying2 (zero2 _) (w.heap.size + 1) kk D rfl (HOWN.out.alloc _) _ _ rfl hkey ?_; rw [← HOK.out]; intro c hat hwc; have HAT := Aside0.mk hat; have HWC := Aside0.mk hwc; clear hat hwc) | (at_mapUpdate; refine wpList_mapUpdate_own _ rfl _ _ _ 73 rfl 2 2 law2 Try.underlying73 _ (w.heap.size + 1) kk D rfl (HOWN.out.alloc _) (by unfold maxLen; omega) _ _ _ rfl rfl hkey _ [] (plainElem_int Try.underlying2 (wrap64_wf _)) ?_; intro w1 hown1 hgrow1; have HOWN1 := Aside0.mk hown1; have HGR := Aside0.mk hgrow1; clear hown1 hgrow1))
        go_roundg (l.length - (kk + 1))
        case measure => omega
        case rel => exact ⟨kk + 1, by omega, by omega, by go_num, ⟨by rw [HST.out]; exact RedAt.step (x := ⟨x0, x1⟩) HM.out HBX.out HB.out hsz HAT.out (by rw [← HOK.out]; simp [redV]) HOWN1.out HGR.out⟩, by have := HGR.out.size; simp at this; omega⟩
      have b1 : (a1 == 1) = false := beq_eq_false_iff_ne.2 k1
      have K1 := Aside0.mk k1
      clear k1
      cases ok with
      | false =>
        go_wp2_with (first | (at_lookup; refine wpList_lookup_own_ok_int _ rfl _ _ 73 rfl 2 2 .i64 law2 Try.underlying73 Try.underlying2 (zero2 _) (w.heap.size + 1) kk D rfl (HOWN.out.alloc _) _ _ rfl hkey ?_; rw [← HOK.out]; intro c hat hwc; have HAT := Aside0.mk hat; have HWC := Aside0.mk hwc; clear hat hwc) | (at_mapUpdate; refine wpList_mapUpdate_own _ rfl _ _ _ 73 rfl 2 2 law2 Try.underlying73 _ (w.heap.size + 1) kk D rfl (HOWN.out.alloc _) (by unfold maxLen; omega) _ _ _ rfl rfl hkey _ [] (plainElem_int Try.underlying2 HWX.out.2) ?_; intro w1 hown1 hgrow1; have HOWN1 := Aside0.mk hown1; have HGR := Aside0.mk hgrow1; clear hown1 hgrow1))
        go_roundg (l.length - (kk + 1))
        case measure => omega
        case rel => exact ⟨kk + 1, by omega, by omega, by go_num, ⟨by rw [HST.out]; exact RedAt.step (x := ⟨x0, x1⟩) HM.out HBX.out HB.out hsz HAT.out (by rw [← HOK.out]; simp [redV, K1.out]) HOWN1.out HGR.out⟩, by have := HGR.out.size; simp at this; omega⟩
      | true =>
        by_cases k0 : a1 = 0
        · subst k0
          go_wp2_with (first | (at_lookup; refine wpList_lookup_own_ok_int _ rfl _ _ 73 rfl 2 2 .i64 law2 Try.underlying73 Try.underlying2 (zero2 _) (w.heap.size + 1) kk D rfl (HOWN.out.alloc _) _ _ rfl hkey ?_; rw [← HOK.out]; intro c hat hwc; have HAT := Aside0.mk hat; have HWC := Aside0.mk hwc; clear hat hwc) | (at_mapUpdate; refine wpList_mapUpdate_own _ rfl _ _ _ 73 rfl 2 2 law2 Try.underlying73 _ (w.heap.size + 1) kk D rfl (HOWN.out.alloc _) (by unfold maxLen; omega) _ _ _ rfl rfl hkey _ [] (plainElem_int Try.underlying2 (wrap64_wf _)) ?_; intro w1 hown1 hgrow1; have HOWN1 := Aside0.mk hown1; have HGR := Aside0.mk hgrow1; clear hown1 hgrow1))
          go_roundg (l.length - (kk + 1))
          case measure => omega
          case rel => exact ⟨kk + 1, by omega, by omega, by go_num, ⟨by rw [HST.out]; exact RedAt.step (x := ⟨x0, x1⟩) HM.out HBX.out HB.out hsz HAT.out (by rw [← HOK.out]; simp [redV]) HOWN1.out HGR.out⟩, by have := HGR.out.size; simp at this; omega⟩
        have b0 : (a1 == 0) = false := beq_eq_false_iff_ne.2 k0
        have K0 := Aside0.mk k0
        clear k0
        by_cases k2 : a1 = 2
        · subst k2
          go_wp2_with (first | (at_lookup; refine wpList_lookup_own_ok_int _ rfl _ _ 73 rfl 2 2 .i64 law2 Try.underlying73 Try.underlying2 (zero2 _) (w.heap.size + 1) kk D rfl (HOWN.out.alloc _) _ _ rfl hkey ?_; rw [← HOK.out]; intro c hat hwc; have HAT := Aside0.mk hat; have HWC := Aside0.mk hwc; clear hat hwc) | (at_mapUpdate; refine wpList_mapUpdate_own _ rfl _ _ _ 73 rfl 2 2 law2 Try.underlying73 _ (w.heap.size + 1) kk D rfl (HOWN.out.alloc _) (by unfold maxLen; omega) _ _ _ rfl rfl hkey _ [] (plainElem_int Try.underlying2 (wf_mn HWC.out HWX.out.2)) ?_; intro w1 hown1 hgrow1; have HOWN1 := Aside0.mk hown1; have HGR := Aside0.mk hgrow1; clear hown1 hgrow1))
          all_goals go_roundg (l.length - (kk + 1))
          all_goals first | omega | exact ⟨kk + 1, by omega, by omega, by go_num, ⟨by rw [HST.out]; exact RedAt.step (x := ⟨x0, x1⟩) HM.out HBX.out HB.out hsz HAT.out (by rw [← HOK.out]; simp [redV, mn]) HOWN1.out HGR.out⟩, by have := HGR.out.size; simp at this; omega⟩
        have b2 : (a1 == 2) = false := beq_eq_false_iff_ne.2 k2
        have K2 := Aside0.mk k2
        clear k2
        go_wp2_with (first | (at_lookup; refine wpList_lookup_own_ok_int _ rfl _ _ 73 rfl 2 2 .i64 law2 Try.underlying73 Try.underlying2 (zero2 _) (w.heap.size + 1) kk D rfl (HOWN.out.alloc _) _ _ rfl hkey ?_; rw [← HOK.out]; intro c hat hwc; have HAT := Aside0.mk hat; have HWC := Aside0.mk hwc; clear hat hwc) | (at_mapUpdate; refine wpList_mapUpdate_own _ rfl _ _ _ 73 rfl 2 2 law2 Try.underlying73 _ (w.heap.size + 1) kk D rfl (HOWN.out.alloc _) (by unfold maxLen; omega) _ _ _ rfl rfl hkey _ [] (plainElem_int Try.underlying2 (wf_mx HWC.out HWX.out.2)) ?_; intro w1 hown1 hgrow1; have HOWN1 := Aside0.mk hown1; have HGR := Aside0.mk hgrow1; clear hown1 hgrow1))
        all_goals go_roundg (l.length - (kk + 1))
        all_goals first | omega | exact ⟨kk + 1, by omega, by omega, by go_num, ⟨by rw [HST.out]; exact RedAt.step (x := ⟨x0, x1⟩) HM.out HBX.out HB.out hsz HAT.out (by rw [← HOK.out]; simp [redV, mx, K0.out, K1.out, K2.out]) HOWN1.out HGR.out⟩, by have := HGR.out.size; simp at this; omega⟩
    · have hk : kk = l.length := by omega
      have hltz : ¬ (kk : Int) < (l.length : Int) := by omega
      obtain ⟨D, hown, hM, hb, hB⟩ := HAT.out
      rw [hk, List.take_length] at hM
      rw [hk] at hown
      clear HAT hk hb
      have HB := Aside0.mk hB
      have HM := Aside0.mk hM
      have HOWN := Aside0.mk hown
      have HSD := Aside0.mk (owns_size hown)
      clear hB hM hown
      go_wp2_with (at_range; refine wpList_range_own _ rfl _ 73 rfl 2 2 law2 Try.underlying73 _ (w.heap.size + 1) l.length _ rfl HOWN.out ?_; intro w0 hrg0 hg0 hs0; have HRG0 := Aside0.mk hrg0; have HG0 := Aside0.mk hg0; clear hrg0 hg0)
      try go_frame
      obtain ⟨wo, rfl⟩ : ∃ wo : World, wo = wr := ⟨_, rfl⟩
      go_loopg [10] l.length (fun gg v10 wr2 => ∃ (left : Lit → Bool) (cnt : Nat) (out : List S36), cnt ≤ gg ∧ out.length + cnt ≤ l.length ∧ Aside0 (wr2.ranges Try.prog 2 (plainElem Try.prog 2) (w.heap.size + 1) wo.heap.size l.length D left cnt) ∧ Aside0 (Kd.R k36 36 wr2 w.heap.size (fun _ => True) v10 out) ∧ Aside0 (OutIs (redS a1 l) left out) ∧ Aside0 (Below w.heap.size w wr2))
      case atStart => exact ⟨_, _, [], HSD.out, by simpa using HSD.out, HRG0, ⟨Kd.R_nil _ _ _ _ _⟩, ⟨OutIs.start HM.out⟩, ⟨HB.out.grown HG0.out HB.out.size (fun k hk => by cases hk)⟩⟩
      case round =>
        clear HRG0 HG0 HB
        obtain ⟨left, cnt, out, hcg, hcl, HRG, HO, HOUT, HB⟩ := hrel
        go_wp2_with (first
          | (at_next; refine wpList_next_ranges_ii _ rfl _ rfl 2 2 .i64 .i64 law2 Try.underlying2 Try.underlying2 (w.heap.size + 1) wo.heap.size l.length _ _ _ rfl HRG.out ?_ ?_)
          | go_in)
        · intro hc0 hl0
          have HL0 := Aside0.mk hl0
          have hcl2 : out.length ≤ l.length := by omega
          clear hl0 hcl
          go_wp2
          go_ret
          refine ⟨_, out, rfl, HO.out, HB.out, ?_, hcl2⟩
          have e : left = fun _ => false := funext HL0.out
          have h := HOUT.out
          rw [e] at h
          exact h
        · intro x c w1 cnt1 hwx hwc hlx hat hrg1 hlt1 hg1 hs1 hen
          have HST := Aside0.mk (HOUT.out.step hlx (HM.out.there hat))
          have HO1 := Aside0.mk (R36_other HO.out hg1 (.inr (row_ne_iter' HO.out HRG.out).symm))
          have HB1 := Aside0.mk (HB.out.grown hg1 HB.out.size (fun k hk => by injection hk with hk; omega))
          have HRG1 := Aside0.mk hrg1
          have hcl2 : (out.length + 1) + cnt1 ≤ l.length := by omega
          have HAL := Aside0.mk (show (out.length + 1) * 16 ≤ 140737488355328 by have := HLL.out; omega)
          clear HO HB HRG HOUT hat hrg1 hg1 hlx hcl hs1
          go_wp2_with ((with_reducible refine gate_builtin (b := .append) (xs := #[.tmp 83, .tmp 87]) rfl ?_); at_builtin; refine Kd.R_append k36 (w0 := w) w.heap.size rfl (.tmp 83) (.tmp 87) 28 36 (.agg #[(.int .i64 0), (.int .i64 0)]) 16 rfl Try.underlying28 info36 rfl (by decide) (by omega) _ out (⟨x, c⟩ : S36) [.int .i64 x, .int .i64 c] (fun _ => True) (fun _ => False) rfl rfl ?aP (fun _ hk => hk.elim) ?aF ?aO ?aB ?aS ?aL ?_; (case aP => exact k36_mkM _ _ _ (⟨x, c⟩ : S36)); (case aB => exact HB1.out); (case aF => exact (fun _ _ => trivial)); (case aO => exact HO1.out); (case aS => exact (below_size HB1.out)); (case aL => exact HAL.out); intro v115 w13 ho hb hg hat2; have HB2 := Aside0.mk hb; have HO2 := Aside0.mk ho; have HG2 := Aside0.mk hg; clear ho hb hg hat2)
          go_roundg cnt1
          case measure => omega
          case rel => exact ⟨_, cnt1, out ++ [⟨x, c⟩], Nat.le_refl _, by simpa using hcl2, ⟨HRG1.out.kept HG2.out (row_ne_map' HO1.out HRG1.out.owns) (row_ne_iter' HO1.out HRG1.out)⟩, HO2, HST, HB2⟩
end Go.Proofs.Ytcihpjkjodhdpaa.X
