/- A part of the proof. -/
import Derived.Test.YtnjlonenckifpaaCN3
namespace Go.Proofs.Ytnjlonenckifpaa.X
set_option linter.unusedVariables false
set_option linter.unusedSimpArgs false
open Go.RowKit Go.Proofs.YtnjlonenckifpaaW.PrintWords Go.Proofs.YtnjlonenckifpaaW.PrintLast Go.Proofs.YtnjlonenckifpaaW.PrintMore
def placesL (n : Nat) : List Int := (List.range n).map fun j : Nat => (j : Int)
def backB (G : List S39) (least : Int) (M : Nat → Nat → Bool) (i : Nat) (x : Int) : Bool := (rd_T39 G x).f3 == least && (M i x.toNat && M x.toNat i)
def stuckAt (G : List S39) (least : Nat) (i : Nat) : Bool := (placesL G.length).any (backB G (least : Int) (waysM G (least : Int)) i)
def stepS (G : List S39) (a : Nat) (least : Nat) : Nat := ((List.range a).find? (stuckAt G least)).getD a
def stuckN (G : List S39) : Nat := (List.range 4).foldl (stepS G) G.length
def check_stuck.f (G : List S39) : Option Int := if small G = true then some (stuckN G : Int) else none
theorem places_l0 (n : Nat) (hn : n ≤ 64) : ∀ (d k q : Nat), q + d = n → d < k → check_places.l0 k (placesL q) (n : Int) (q : Int) = some (placesL n)
  | 0, k, q, hq, hk => by
    obtain ⟨k, rfl⟩ : ∃ m, k = m + 1 := ⟨k - 1, by omega⟩
    obtain rfl : q = n := by omega
    rw [check_places.l0, if_neg (by omega)]
  | d + 1, k, q, hq, hk => by
    obtain ⟨k, rfl⟩ : ∃ m, k = m + 1 := ⟨k - 1, by omega⟩
    rw [check_places.l0, if_pos (by omega), if_pos (by simp [placesL]; omega), wrap_small (by omega) (by omega)]
    have := places_l0 n hn d k (q + 1) (by omega) (by omega)
    rw [show placesL q ++ [(q : Int)] = placesL (q + 1) by simp [placesL, List.range_succ], show ((q : Int) + 1) = ((q + 1 : Nat) : Int) by omega]
    exact this
theorem places_tells (G : List S39) (hn : G.length ≤ 64) : ∃ k, check_places.f k G = some (placesL G.length) :=
  ⟨G.length + 1, by have := places_l0 G.length hn G.length (G.length + 1) 0 (by omega) (by omega); simpa [check_places.f, placesL] using this⟩
theorem placesL_mem {n : Nat} {x : Int} (h : x ∈ placesL n) : ∃ j : Nat, j < n ∧ x = (j : Int) := by
  simp only [placesL, List.mem_map, List.mem_range] at h
  obtain ⟨j, h1, rfl⟩ := h
  exact ⟨j, h1, rfl⟩
set_option maxHeartbeats 4000000 in
set_option maxRecDepth 100000 in
theorem back_calls (A : Option Addr) (c : Nat) (G : List S39) (least : Int) (base mb gb lb tb ib : Nat) (R : Nat → Nat) (M : Nat → Nat → Bool) (i j : Nat) (hn : G.length ≤ 64) (hi : i < G.length) (hj : j < G.length) (w : World)
    (hr : Kd.C k39 w A G.length G) (hg : Var w gb (.slice A G.length c) 23) (hl : Var w lb (.int .i64 least) 3) (ht : Var w tb (.slice (some ⟨mb, 0, none⟩) G.length G.length) 58) (hib : Var w ib (.int .i64 (i : Int)) 3)
    (hm : Mat w base mb G.length G.length R M) :
    Calls Try.prog 46 #[.int .i64 (j : Int), .pointer (some ⟨gb, 0, none⟩), .pointer (some ⟨lb, 0, none⟩), .pointer (some ⟨tb, 0, none⟩), .pointer (some ⟨ib, 0, none⟩)] w fun e w' => e = .returned (.bool (backB G least M i (j : Int))) ∧ ∃ q', w' = w.drewN q' := by
  have hj0 : (0 : Int) ≤ (j : Int) := by omega
  have hj1 : (j : Int) < (G.length : Int) := by omega
  have hi0 : (0 : Int) ≤ (i : Int) := by omega
  have hi1 : (i : Int) < (G.length : Int) := by omega
  have hlen : G.length ≤ 9223372036854775807 := by omega
  obtain ⟨ad, A4, c4, eA, -, -, -, q3, -⟩ := at_T39 hr (j : Int) (by omega) hj1
  subst eA
  simp only [Int.toNat_natCast] at q3
  have v1 := hg.cell
  have v2 := hl.cell
  have v3 := ht.cell
  have v4 := hib.cell
  have o1 := hm.ocell i hi hi
  have o2 := hm.ocell j hj hj
  have e1 := hm.cell i j hi hj
  have e2 := hm.cell j i hj hi
  have HP := Aside0.mk (show backB G least M i (j : Int) = ((rd_T39 G (j : Int)).f3 == least && (M i j && M j i)) by simp [backB])
  generalize (rd_T39 G (j : Int)).f3 = d at q3 HP
  generalize M i j = mij at e1 HP
  generalize M j i = mji at e2 HP
  clear hr hg hl ht hib hm
  by_cases hd : d = least
  · have hdb : (d == least) = true := beq_iff_eq.2 hd
    rw [hdb] at HP
    clear hd
    cases mij with
    | true =>
      go_enter Try.func46, Try.ntmps46
      go_wp2
      go_quiet (fail)
      go_wp2
      go_ret
      exact ⟨by rw [HP.out]; rfl, _, rfl⟩
    | false =>
      go_enter Try.func46, Try.ntmps46
      go_wp2
      go_quiet (fail)
      go_wp2
      go_ret
      exact ⟨by rw [HP.out]; rfl, _, rfl⟩
  · have hdb : (d == least) = false := beq_eq_false_iff_ne.2 hd
    rw [hdb] at HP
    clear hd
    go_enter Try.func46, Try.ntmps46
    go_wp2
    go_quiet (fail)
    go_wp2
    go_ret
    exact ⟨by rw [HP.out]; rfl, _, rfl⟩
theorem scan_step {p : Nat → Bool} {k : Nat} (h : ∀ j, j < k → p j = false) (hk : p k = false) : ∀ j, j < k + 1 → p j = false := fun j hj => by
  by_cases e : j = k
  · rw [e]; exact hk
  · exact h j (by omega)
theorem stepS_found {G : List S39} {a least i : Nat} (hi : i < a) (h : stuckAt G least i = true) (hb : ∀ j, j < i → stuckAt G least j = false) : stepS G a least = i := by
  rw [stepS, find_range_some hi h hb]; rfl
theorem stepS_none {G : List S39} {a least : Nat} (hb : ∀ j, j < a → stuckAt G least j = false) : stepS G a least = a := by
  rw [stepS, find_range_none hb]; rfl
theorem below_at2 {w W W' : World} {q : Nat} (h : W' = W.drewN q) (k : Below w.heap.size w W) : Below w.heap.size w W' := by rw [h]; exact pw_below_drewN k q
theorem Asks.back {A : Option Addr} {c : Nat} {G : List S39} {least : Int} {base mb gb lb tb ib : Nat} {R : Nat → Nat} {M : Nat → Nat → Bool} {i : Nat} {w W : World} (hr : Kd.C k39 w A G.length G) (hb : Below w.heap.size w W)
    (hg : Var W gb (.slice A G.length c) 23) (hl : Var W lb (.int .i64 least) 3) (ht : Var W tb (.slice (some ⟨mb, 0, none⟩) G.length G.length) 58) (hib : Var W ib (.int .i64 (i : Int)) 3) (hm : Mat W base mb G.length G.length R M) (hn : G.length ≤ 64) (hi : i < G.length) :
    Asks 46 #[.pointer (some ⟨gb, 0, none⟩), .pointer (some ⟨lb, 0, none⟩), .pointer (some ⟨tb, 0, none⟩), .pointer (some ⟨ib, 0, none⟩)] (backB G least M i) (placesL G.length) W := fun q x hx n => by
  obtain ⟨j, hj, rfl⟩ := placesL_mem (List.mem_of_getElem? hx)
  exact back_calls A c G least base mb gb lb tb ib R M i j hn hi hj _ (Kd.C_drewN (Kd.C_below hr hb) n) (hg.drewN n) (hl.drewN n) (ht.drewN n) (hib.drewN n) (hm.drewN n)
set_option maxHeartbeats 8000000 in
set_option maxRecDepth 100000 in
theorem check_stuck.calls (A : Option Addr) (c : Nat) (G : List S39) (r : Int) (w : World) (hr : Kd.C k39 w A G.length G) (hc : G.length ≤ c) (h : check_stuck.f G = some r) :
    Calls Try.prog 31 #[.slice A G.length c] w fun e w' => e = .returned (.int .i64 r) ∧ Below w.heap.size w w' := by
  have hm : small G = true ∧ (stuckN G : Int) = r := by simpa [check_stuck.f] using h
  obtain ⟨hs, rfl⟩ := hm
  clear h
  have hn : G.length ≤ 64 := by simp [small] at hs; exact hs.1
  obtain ⟨kp, hkp⟩ := places_tells G hn
  have HKP := Aside0.mk hkp
  have HS := Aside0.mk hs
  have HR := Aside0.mk hr
  have HC := Aside0.mk hc
  clear hr hs hc hkp
  have HB0 := Aside0.mk (Below.refl w.heap.size w)
  have eg := enters_of Try.func46 (by kernel_rfl) rfl
  go_enter Try.func31, Try.ntmps31
  go_wp2
  go_loopg [3, 10] 4 (fun gg v3 v10 wr => ∃ a L : Nat, v3 = .int .i64 a ∧ v10 = .int .i64 L ∧ L ≤ 4 ∧ 4 - L ≤ gg ∧ a ≤ G.length ∧ Aside0 ((List.range L).foldl (stepS G) G.length = a) ∧ Aside0 (Var wr w.heap.size (.slice A G.length c) 23) ∧ Aside0 (Below w.heap.size w wr))
  case atStart => exact ⟨G.length, 0, rfl, rfl, by omega, by omega, Nat.le_refl _, ⟨rfl⟩, ⟨⟨heap_alloc_last w _⟩⟩, ⟨below_alloc HB0.out _⟩⟩
  case round =>
    obtain ⟨a, L, rfl, rfl, hL, hgL, ha, HA, HV, HB⟩ := hrel
    by_cases hlt : L < 4
    · have hltz : (L : Int) < 4 := by omega
      have HN := Aside0.mk (fold_range_succ (stepS G) G.length L)
      have v1 := HV.out.cell
      have l1 := HV.out.lt
      have HV1 := Aside0.mk (HV.out.alloc (.cells #[.int .i64 (L : Int)] 3))
      have HB1 := Aside0.mk (below_alloc HB.out (.cells #[.int .i64 (L : Int)] 3))
      have HL1 := Aside0.mk (show Var (wr.alloc (.cells #[.int .i64 (L : Int)] 3)) wr.heap.size (.int .i64 (L : Int)) 3 from ⟨heap_alloc_last wr _⟩)
      clear HV HB
      go_wp2_with (go_at_call 45; go_must (refine (ways_calls A c G (L : Int) _ (Kd.C_below HR.out HB1.out) HC.out HS.out).mono ?_; rintro e w6 ⟨mb, R, rfl, hm, hb⟩; (have HM6 := Aside0.mk hm); (have HV6 := Aside0.mk (HV1.out.below hb)); (have HL6 := Aside0.mk (HL1.out.below hb)); (have HB6 := Aside0.mk (below_then HB1.out HB1.out.size hb)); clear hm hb))
      have HMX := Aside0.mk (HM6.out.alloc (.cells #[.slice (some ⟨mb, 0, none⟩) G.length G.length] 58))
      have HVX := Aside0.mk (HV6.out.alloc (.cells #[.slice (some ⟨mb, 0, none⟩) G.length G.length] 58))
      have HLX := Aside0.mk (HL6.out.alloc (.cells #[.slice (some ⟨mb, 0, none⟩) G.length G.length] 58))
      have HTX := Aside0.mk (show Var (w6.alloc (.cells #[.slice (some ⟨mb, 0, none⟩) G.length G.length] 58)) w6.heap.size (.slice (some ⟨mb, 0, none⟩) G.length G.length) 58 from ⟨heap_alloc_last w6 _⟩)
      have HBX := Aside0.mk (below_alloc HB6.out (.cells #[.slice (some ⟨mb, 0, none⟩) G.length G.length] 58))
      clear HM6 HV6 HL6 HB6 HV1 HB1 HL1
      generalize w6.alloc (.cells #[.slice (some ⟨mb, 0, none⟩) G.length G.length] 58) = wl at HMX HVX HLX HTX HBX ⊢
      generalize w6.heap.size = tb at HTX ⊢
      have HBL := Aside0.mk (Below.refl wl.heap.size wl)
      obtain ⟨wo, rfl⟩ : ∃ wo : World, wo = wr := ⟨_, rfl⟩
      go_loopg [3, 17] a (fun g2 v3 v17 wr => v3 = .int .i64 a ∧ ∃ i : Nat, v17 = .int .i64 i ∧ i ≤ a ∧ a - i ≤ g2 ∧ Aside0 (∀ j, j < i → stuckAt G L j = false) ∧ Aside0 (Below wl.heap.size wl wr))
      case atStart => exact ⟨rfl, 0, rfl, Nat.zero_le _, by omega, ⟨fun j hj => absurd hj (Nat.not_lt_zero _)⟩, HBL⟩
      case round =>
        clear HBL
        obtain ⟨rfl, i, rfl, hi, hg2, HNO, HB⟩ := hrel
        by_cases hlt2 : i < a
        · have hltz2 : (i : Int) < (a : Int) := by omega
          have HVY := Aside0.mk ((HVX.out.below HB.out).alloc (.cells #[.int .i64 (i : Int)] 3))
          have HLY := Aside0.mk ((HLX.out.below HB.out).alloc (.cells #[.int .i64 (i : Int)] 3))
          have HTY := Aside0.mk ((HTX.out.below HB.out).alloc (.cells #[.int .i64 (i : Int)] 3))
          have HMY := Aside0.mk ((HMX.out.below HB.out).alloc (.cells #[.int .i64 (i : Int)] 3))
          have HIY := Aside0.mk (show Var (wr.alloc (.cells #[.int .i64 (i : Int)] 3)) wr.heap.size (.int .i64 (i : Int)) 3 from ⟨heap_alloc_last wr _⟩)
          have HBY := Aside0.mk (below_alloc HB.out (.cells #[.int .i64 (i : Int)] 3))
          have HBW := Aside0.mk (below_then HBX.out HBX.out.size HBY.out)
          have v1 := (HVX.out.below HB.out).cell
          have l1 := (HVX.out.below HB.out).lt
          clear HB
          cases hst : stuckAt G L i with
          | true =>
            have HF := Aside0.mk (show (List.range (L + 1)).foldl (stepS G) G.length = i by rw [HN.out, HA.out, stepS_found hlt2 hst HNO.out])
            have HST2 := Aside0.mk (show (placesL G.length).any (backB G (L : Int) (waysM G (L : Int)) i) = true from hst)
            clear hst
            go_wp2_with (first | (go_at_call 47; go_must (refine (check_places.calls kp A c G (placesL G.length) _ (Kd.C_below HR.out HBW.out) HC.out HKP.out).mono ?_; rintro e w8 ⟨v0, rfl, ho, hb⟩; (obtain ⟨A7, c7, rfl, hl7, hC7⟩ := Kd.R_reads ho); (have HC7 := Aside0.mk hC7); (have HV8 := Aside0.mk (HVY.out.below hb)); (have HL8 := Aside0.mk (HLY.out.below hb)); (have HT8 := Aside0.mk (HTY.out.below hb)); (have HM8 := Aside0.mk (HMY.out.below hb)); (have HI8 := Aside0.mk (HIY.out.below hb)); (have HB8 := Aside0.mk (below_then HBY.out HBY.out.size hb)); (have HW8 := Aside0.mk (below_then HBX.out HBX.out.size HB8.out)); (have HA8 := Aside0.mk (Asks.back HR.out HW8.out HV8.out HL8.out HT8.out HI8.out HM8.out hn (show i < G.length by omega))); clear ho hb hl7 hC7)) | (go_at_call 42; go_must (refine (contains_calls A7 c7 (placesL G.length) 46 _ (backB G (L : Int) (waysM G (L : Int)) i) eg _ HC7.out HA8.out).mono ?_; rintro e w9 ⟨rfl, q, hw⟩; (have HB9 := Aside0.mk (below_at2 hw HB8.out)); (have vi9 := (var_at hw (HI8.out.drewN q)).cell); (rw [HST2.out]); clear hw)))
            go_roundg (4 - (L + 1))
            case measure => omega
            case rel => exact ⟨i, L + 1, rfl, by go_num, by omega, by omega, by omega, HF, ⟨HVX.out.below HB9.out⟩, ⟨below_then HBX.out HBX.out.size HB9.out⟩⟩
          | false =>
            have HST2 := Aside0.mk (show (placesL G.length).any (backB G (L : Int) (waysM G (L : Int)) i) = false from hst)
            have HF := Aside0.mk (scan_step HNO.out hst)
            clear hst
            go_wp2_with (first | (go_at_call 47; go_must (refine (check_places.calls kp A c G (placesL G.length) _ (Kd.C_below HR.out HBW.out) HC.out HKP.out).mono ?_; rintro e w8 ⟨v0, rfl, ho, hb⟩; (obtain ⟨A7, c7, rfl, hl7, hC7⟩ := Kd.R_reads ho); (have HC7 := Aside0.mk hC7); (have HV8 := Aside0.mk (HVY.out.below hb)); (have HL8 := Aside0.mk (HLY.out.below hb)); (have HT8 := Aside0.mk (HTY.out.below hb)); (have HM8 := Aside0.mk (HMY.out.below hb)); (have HI8 := Aside0.mk (HIY.out.below hb)); (have HB8 := Aside0.mk (below_then HBY.out HBY.out.size hb)); (have HW8 := Aside0.mk (below_then HBX.out HBX.out.size HB8.out)); (have HA8 := Aside0.mk (Asks.back HR.out HW8.out HV8.out HL8.out HT8.out HI8.out HM8.out hn (show i < G.length by omega))); clear ho hb hl7 hC7)) | (go_at_call 42; go_must (refine (contains_calls A7 c7 (placesL G.length) 46 _ (backB G (L : Int) (waysM G (L : Int)) i) eg _ HC7.out HA8.out).mono ?_; rintro e w9 ⟨rfl, q, hw⟩; (have HB9 := Aside0.mk (below_at2 hw HB8.out)); (have vi9 := (var_at hw (HI8.out.drewN q)).cell); (rw [HST2.out]); clear hw)))
            go_roundg (a - (i + 1))
            case measure => omega
            case rel => exact ⟨rfl, i + 1, by go_num, by omega, by omega, HF, HB9⟩
        · have hltz2 : ¬ (i : Int) < (a : Int) := by omega
          have hia : i = a := by omega
          have HIA := Aside0.mk hia
          have HF := Aside0.mk (show (List.range (L + 1)).foldl (stepS G) G.length = a by rw [HN.out, HA.out, stepS_none (fun j hj => HNO.out j (by omega))])
          clear hia
          go_wp2
          go_roundg (4 - (L + 1))
          case measure => omega
          case rel => exact ⟨a, L + 1, rfl, by go_num, by omega, by omega, ha, HF, ⟨HVX.out.below HB.out⟩, ⟨below_then HBX.out HBX.out.size HB.out⟩⟩
    · have hltz : ¬ (L : Int) < 4 := by omega
      obtain rfl : L = 4 := by omega
      have HF := Aside0.mk (show stuckN G = a from HA.out)
      clear HA
      go_wp2
      go_ret
      exact ⟨by rw [HF.out]; rfl, HB.out⟩
end Go.Proofs.Ytnjlonenckifpaa.X
namespace Go.Proofs.Ytnjlonenckifpaa.X
open Go.RowKit Go.Proofs.YtnjlonenckifpaaW.PrintWords Go.Proofs.YtnjlonenckifpaaW.PrintLast Go.Proofs.YtnjlonenckifpaaW.PrintMore
set_option linter.unusedVariables false
set_option linter.unusedSimpArgs false
def check_Node.j0 : Nat → List (S39) → Int → Bool → Option (Int)
  | 0, _, _, _ => none
  | k + 1, x0, x1, x5 => if x5 = true then (some 2) else (if 0 ≤ x1 then (if x1 < (x0.length : Int) then ((check_numbers.f ((rd_T39 x0 x1).f0) ((rd_T39 x0 x1).f1) ((rd_T39 x0 x1).f2) ((rd_T39 x0 x1).f3) ((rd_T39 x0 x1).f4)).bind fun t103 => (if t103 = true then ((check_ports.f x0 ((rd_T39 x0 x1).f0) ((rd_T39 x0 x1).f1) ((rd_T39 x0 x1).f2) ((rd_T39 x0 x1).f3) ((rd_T39 x0 x1).f4)).bind fun t105 => (if t105 = true then ((check_depth.f x0 ((rd_T39 x0 x1).f0) ((rd_T39 x0 x1).f1) ((rd_T39 x0 x1).f2) ((rd_T39 x0 x1).f3) ((rd_T39 x0 x1).f4)).bind fun t107 => (if t107 = true then (some 0) else (some 101))) else (some 100))) else (some 130))) else (none)) else (none))
def check_Node.f (k : Nat) (l0 : List (S39)) (a1 : Int) : Option (Int) := if a1 < 0 then (check_Node.j0 k l0 a1 true) else (check_Node.j0 k l0 a1 (decide (a1 ≥ (l0.length : Int))))
set_option maxHeartbeats 8000000 in
set_option maxRecDepth 100000 in
theorem check_Node.calls (k : Nat) (A0 : Option Addr) (c0 : Nat) (l0 : List (S39)) (a1 : Int) (r : Int) (w : World) (hr0 : Kd.C k39 w A0 l0.length l0) (hc0 : l0.length ≤ c0) (h : check_Node.f k l0 a1 = some r) :
    Calls Try.prog 12 #[.slice A0 l0.length c0, .int .i64 a1] w fun e w' => e = .returned (.int .i64 r) ∧ Below w.heap.size w w' := by
  have hu39 := Try.underlying39
  have HR0 := Aside0.mk hr0
  have HC0 := Aside0.mk hc0
  clear hr0 hc0
  have HB := Aside0.mk (Below.refl w.heap.size w)
  have H : (if a1 < 0 then (check_Node.j0 k l0 a1 true) else (check_Node.j0 k l0 a1 (decide (a1 ≥ (l0.length : Int))))) = some r := h
  clear h
  have HC3 := Aside0.mk H
  clear H
  go_enter Try.func12, Try.ntmps12
  go_upto_region 1 with (fail)
  go_cut [5] (fun v5 wc => ∃ (kq : Nat) (x5_2 : Bool), v5 = .bool x5_2 ∧ Aside0 (check_Node.j0 kq l0 a1 x5_2 = some r) ∧ Aside0 (kq ≤ k) ∧ Aside0 (Below w.heap.size w wc))
  case first =>
    have H := HC3.out
    clear HC3
    by_cases c4 : a1 < 0
    · rw [if_pos c4] at H
      have c4b0 : decide (a1 < 0) = true := decide_eq_true c4
      clear c4
      (first | rw [c4b0] | (simp only [i64_w, i32_w]; rw [c4b0]) | skip)
      have H' := Aside0.mk H
      clear H
      go_wp2
      go_meet
      case rel => exact ⟨_, (true), (by first | rfl | (simp; done) | (simp [*]; done)), H', ⟨by first | omega | exact Nat.le_refl _⟩, ⟨by repeat (first | (with_reducible first | exact HB.out | apply below_alloc | apply pw_below_drewN | apply below_drew1) | exact HB.out)⟩⟩
    · rw [if_neg c4] at H
      have c4b0 : decide (a1 < 0) = false := decide_eq_false c4
      clear c4
      (first | rw [c4b0] | (simp only [i64_w, i32_w]; rw [c4b0]) | skip)
      have H' := Aside0.mk H
      clear H
      go_wp2
      go_meet
      case rel => exact ⟨_, (decide (a1 ≥ (l0.length : Int))), (by first | rfl | (simp; done) | (simp [*]; done)), H', ⟨by first | omega | exact Nat.le_refl _⟩, ⟨by repeat (first | (with_reducible first | exact HB.out | apply below_alloc | apply pw_below_drewN | apply below_drew1) | exact HB.out)⟩⟩
  case rest =>
    clear HC3
    try clear c1
    try clear p2
    try clear c4
    try clear c4b0
    obtain ⟨kq, x5_2, rfl, HA, HJ2, HB⟩ := hcut
    cases kq with
    | zero => exact absurd HA.out (by simp [check_Node.j0])
    | succ kj2 =>
      have H := HA.out
      clear HA
      simp only [check_Node.j0] at H
      by_cases c5 : x5_2 = true
      · subst c5
        have H1 : (some 2) = some r := by rw [if_pos rfl] at H; exact H
        clear H
        have H := H1
        clear H1
        obtain rfl := Option.some.inj H
        go_wp2
        go_ret
        exact ⟨by first | rfl | (simp [errW_none, errW_some] <;> rfl) | (simp [*, errW_none, errW_some] <;> rfl), by repeat (first | (with_reducible first | exact HB.out | apply below_alloc | apply pw_below_drewN | apply below_drew1) | exact HB.out)⟩
      · replace c5 := Bool.eq_false_iff.mpr c5
        subst c5
        have H1 : (if 0 ≤ a1 then (if a1 < (l0.length : Int) then ((check_numbers.f ((rd_T39 l0 a1).f0) ((rd_T39 l0 a1).f1) ((rd_T39 l0 a1).f2) ((rd_T39 l0 a1).f3) ((rd_T39 l0 a1).f4)).bind fun t103 => (if t103 = true then ((check_ports.f l0 ((rd_T39 l0 a1).f0) ((rd_T39 l0 a1).f1) ((rd_T39 l0 a1).f2) ((rd_T39 l0 a1).f3) ((rd_T39 l0 a1).f4)).bind fun t105 => (if t105 = true then ((check_depth.f l0 ((rd_T39 l0 a1).f0) ((rd_T39 l0 a1).f1) ((rd_T39 l0 a1).f2) ((rd_T39 l0 a1).f3) ((rd_T39 l0 a1).f4)).bind fun t107 => (if t107 = true then (some 0) else (some 101))) else (some 100))) else (some 130))) else (none)) else (none)) = some r := by rw [if_neg (show ¬ (false = true) by decide)] at H; exact H
        clear H
        have H := H1
        clear H1
        by_cases c6 : 0 ≤ a1
        · rw [if_pos c6] at H
          have c6b0 : decide (0 ≤ a1) = true := decide_eq_true c6
          clear c6
          by_cases c7 : a1 < (l0.length : Int)
          · rw [if_pos c7] at H
            have c7b0 : decide (a1 < (l0.length : Int)) = true := decide_eq_true c7
            clear c7
            replace H := Option.bind_eq_some_iff.mp H
            obtain ⟨t103, A80, H⟩ := H
            replace H : (if t103 = true then ((check_ports.f l0 ((rd_T39 l0 a1).f0) ((rd_T39 l0 a1).f1) ((rd_T39 l0 a1).f2) ((rd_T39 l0 a1).f3) ((rd_T39 l0 a1).f4)).bind fun t105 => (if t105 = true then ((check_depth.f l0 ((rd_T39 l0 a1).f0) ((rd_T39 l0 a1).f1) ((rd_T39 l0 a1).f2) ((rd_T39 l0 a1).f3) ((rd_T39 l0 a1).f4)).bind fun t107 => (if t107 = true then (some 0) else (some 101))) else (some 100))) else (some 130)) = some r := H
            have A8 := Aside0.mk A80
            clear A80
            by_cases c9 : t103 = true
            · subst c9
              have H1 : ((check_ports.f l0 ((rd_T39 l0 a1).f0) ((rd_T39 l0 a1).f1) ((rd_T39 l0 a1).f2) ((rd_T39 l0 a1).f3) ((rd_T39 l0 a1).f4)).bind fun t105 => (if t105 = true then ((check_depth.f l0 ((rd_T39 l0 a1).f0) ((rd_T39 l0 a1).f1) ((rd_T39 l0 a1).f2) ((rd_T39 l0 a1).f3) ((rd_T39 l0 a1).f4)).bind fun t107 => (if t107 = true then (some 0) else (some 101))) else (some 100))) = some r := by rw [if_pos rfl] at H; exact H
              clear H
              have H := H1
              clear H1
              replace H := Option.bind_eq_some_iff.mp H
              obtain ⟨t105, A100, H⟩ := H
              replace H : (if t105 = true then ((check_depth.f l0 ((rd_T39 l0 a1).f0) ((rd_T39 l0 a1).f1) ((rd_T39 l0 a1).f2) ((rd_T39 l0 a1).f3) ((rd_T39 l0 a1).f4)).bind fun t107 => (if t107 = true then (some 0) else (some 101))) else (some 100)) = some r := H
              have A10 := Aside0.mk A100
              clear A100
              by_cases c11 : t105 = true
              · subst c11
                have H1 : ((check_depth.f l0 ((rd_T39 l0 a1).f0) ((rd_T39 l0 a1).f1) ((rd_T39 l0 a1).f2) ((rd_T39 l0 a1).f3) ((rd_T39 l0 a1).f4)).bind fun t107 => (if t107 = true then (some 0) else (some 101))) = some r := by rw [if_pos rfl] at H; exact H
                clear H
                have H := H1
                clear H1
                replace H := Option.bind_eq_some_iff.mp H
                obtain ⟨t107, A120, H⟩ := H
                replace H : (if t107 = true then (some 0) else (some 101)) = some r := H
                have A12 := Aside0.mk A120
                clear A120
                by_cases c13 : t107 = true
                · subst c13
                  have H1 : (some 0) = some r := by rw [if_pos rfl] at H; exact H
                  clear H
                  have H := H1
                  clear H1
                  obtain rfl := Option.some.inj H
                  have p102 : 0 ≤ (a1 : Int) := of_decide_eq_true (by first | (with_reducible assumption) | assumption)
                  have q102 : a1 < (l0.length : Int) := of_decide_eq_true (by first | (with_reducible assumption) | assumption)
                  obtain ⟨ad102, A102_4, c102_4, e102, hx102_0, hx102_1, hx102_2, hx102_3, hx102_4, hl102_4, hi102_4⟩ := at_T39 HR0.out a1 p102 q102
                  cases e102
                  replace hx102_0 := (HB.out.cell (World.block_lt_of_cell? w _ hx102_0)).trans hx102_0
                  replace hx102_1 := (HB.out.cell (World.block_lt_of_cell? w _ hx102_1)).trans hx102_1
                  replace hx102_2 := (HB.out.cell (World.block_lt_of_cell? w _ hx102_2)).trans hx102_2
                  replace hx102_3 := (HB.out.cell (World.block_lt_of_cell? w _ hx102_3)).trans hx102_3
                  replace hx102_4 := (HB.out.cell (World.block_lt_of_cell? w _ hx102_4)).trans hx102_4
                  have HR102_4 := Aside0.mk hi102_4
                  have HC102_4 := Aside0.mk hl102_4
                  clear hi102_4 hl102_4
                  replace p102 := eq_true p102
                  replace q102 := eq_true q102
                  go_wp2_with (first | ((with_reducible refine gate_callee (f := 24) rfl ?_); refine goesL_ (some 19) rfl rfl Try.func24 (by kernel_rfl) rfl #[.agg #[.int .u8 ((rd_T39 l0 a1).f0), .int .u8 ((rd_T39 l0 a1).f1), .int .i64 ((rd_T39 l0 a1).f2), .int .i64 ((rd_T39 l0 a1).f3), .slice A102_4 ((rd_T39 l0 a1).f4).length c102_4]] rfl (by (try simp only [List.map_toArray, List.map_cons, List.map_nil]); first | done | rfl | (simp only [List.length_drop, List.length_take]; rfl)) ?_; (with_reducible refine (check_numbers.calls ((rd_T39 l0 a1).f0) ((rd_T39 l0 a1).f1) ((rd_T39 l0 a1).f2) ((rd_T39 l0 a1).f3) _ _ ((rd_T39 l0 a1).f4) true _ ?side1 ?side2 A8.out).mono ?_); (case side1 => repeat (first | exact (Kd.C_below HR102_4.out HB.out) | (with_reducible refine Kd.C_alloc ?_ _) | (with_reducible refine Kd.C_drewN ?_ _) | (with_reducible refine Kd.C_drew ?_))); (case side2 => exact HC102_4.out); rintro e w14 ⟨rfl, hb⟩; refine ⟨_, rfl, ?_⟩; have n0_ := Aside0.mk (below_step (by repeat (first | (with_reducible first | exact HB.out | apply below_alloc | apply pw_below_drewN | apply below_drew1) | exact HB.out)) hb); clear HB; have HB := n0_; clear n0_; (try clear hb); (try clear hb2); (try clear hk); (try clear hi); have p104 : 0 ≤ (a1 : Int) := of_decide_eq_true (by first | (with_reducible assumption) | assumption); have q104 : a1 < (l0.length : Int) := of_decide_eq_true (by first | (with_reducible assumption) | assumption); obtain ⟨ad104, A104_4, c104_4, e104, hx104_0, hx104_1, hx104_2, hx104_3, hx104_4, hl104_4, hi104_4⟩ := at_T39 HR0.out a1 p104 q104; obtain rfl : ad102 = ad104 := (by injection e104); replace hx104_0 := (HB.out.cell (World.block_lt_of_cell? w _ hx104_0)).trans hx104_0; replace hx104_1 := (HB.out.cell (World.block_lt_of_cell? w _ hx104_1)).trans hx104_1; replace hx104_2 := (HB.out.cell (World.block_lt_of_cell? w _ hx104_2)).trans hx104_2; replace hx104_3 := (HB.out.cell (World.block_lt_of_cell? w _ hx104_3)).trans hx104_3; replace hx104_4 := (HB.out.cell (World.block_lt_of_cell? w _ hx104_4)).trans hx104_4; have HR104_4 := Aside0.mk hi104_4; have HC104_4 := Aside0.mk hl104_4; clear hi104_4 hl104_4; replace p104 := eq_true p104; replace q104 := eq_true q104) | ((with_reducible refine gate_callee (f := 25) rfl ?_); refine goesL_ (some 27) rfl rfl Try.func25 (by kernel_rfl) rfl #[.slice (some ad102) l0.length c0, .agg #[.int .u8 ((rd_T39 l0 a1).f0), .int .u8 ((rd_T39 l0 a1).f1), .int .i64 ((rd_T39 l0 a1).f2), .int .i64 ((rd_T39 l0 a1).f3), .slice A104_4 ((rd_T39 l0 a1).f4).length c104_4]] rfl (by (try simp only [List.map_toArray, List.map_cons, List.map_nil]); first | done | rfl | (simp only [List.length_drop, List.length_take]; rfl)) ?_; (with_reducible refine (check_ports.calls _ _ l0 ((rd_T39 l0 a1).f0) ((rd_T39 l0 a1).f1) ((rd_T39 l0 a1).f2) ((rd_T39 l0 a1).f3) _ _ ((rd_T39 l0 a1).f4) true _ ?side1 ?side2 ?side3 ?side4 A10.out).mono ?_); (case side1 => repeat (first | exact (Kd.C_below HR0.out HB.out) | (with_reducible refine Kd.C_alloc ?_ _) | (with_reducible refine Kd.C_drewN ?_ _) | (with_reducible refine Kd.C_drew ?_))); (case side2 => exact HC0.out); (case side3 => repeat (first | exact (Kd.C_below HR104_4.out HB.out) | (with_reducible refine Kd.C_alloc ?_ _) | (with_reducible refine Kd.C_drewN ?_ _) | (with_reducible refine Kd.C_drew ?_))); (case side4 => exact HC104_4.out); rintro e w15 ⟨rfl, hb⟩; refine ⟨_, rfl, ?_⟩; have n0_ := Aside0.mk (below_step (by repeat (first | (with_reducible first | exact HB.out | apply below_alloc | apply pw_below_drewN | apply below_drew1) | exact HB.out)) hb); clear HB; have HB := n0_; clear n0_; (try clear hb); (try clear hb2); (try clear hk); (try clear hi); have p106 : 0 ≤ (a1 : Int) := of_decide_eq_true (by first | (with_reducible assumption) | assumption); have q106 : a1 < (l0.length : Int) := of_decide_eq_true (by first | (with_reducible assumption) | assumption); obtain ⟨ad106, A106_4, c106_4, e106, hx106_0, hx106_1, hx106_2, hx106_3, hx106_4, hl106_4, hi106_4⟩ := at_T39 HR0.out a1 p106 q106; obtain rfl : ad102 = ad106 := (by injection e106); replace hx106_0 := (HB.out.cell (World.block_lt_of_cell? w _ hx106_0)).trans hx106_0; replace hx106_1 := (HB.out.cell (World.block_lt_of_cell? w _ hx106_1)).trans hx106_1; replace hx106_2 := (HB.out.cell (World.block_lt_of_cell? w _ hx106_2)).trans hx106_2; replace hx106_3 := (HB.out.cell (World.block_lt_of_cell? w _ hx106_3)).trans hx106_3; replace hx106_4 := (HB.out.cell (World.block_lt_of_cell? w _ hx106_4)).trans hx106_4; have HR106_4 := Aside0.mk hi106_4; have HC106_4 := Aside0.mk hl106_4; clear hi106_4 hl106_4; replace p106 := eq_true p106; replace q106 := eq_true q106) | ((with_reducible refine gate_callee (f := 26) rfl ?_); refine goesL_ (some 35) rfl rfl Try.func26 (by kernel_rfl) rfl #[.slice (some ad102) l0.length c0, .agg #[.int .u8 ((rd_T39 l0 a1).f0), .int .u8 ((rd_T39 l0 a1).f1), .int .i64 ((rd_T39 l0 a1).f2), .int .i64 ((rd_T39 l0 a1).f3), .slice A106_4 ((rd_T39 l0 a1).f4).length c106_4]] rfl (by (try simp only [List.map_toArray, List.map_cons, List.map_nil]); first | done | rfl | (simp only [List.length_drop, List.length_take]; rfl)) ?_; (with_reducible refine (check_depth.calls _ _ l0 ((rd_T39 l0 a1).f0) ((rd_T39 l0 a1).f1) ((rd_T39 l0 a1).f2) ((rd_T39 l0 a1).f3) _ _ ((rd_T39 l0 a1).f4) true _ ?side1 ?side2 ?side3 ?side4 A12.out).mono ?_); (case side1 => repeat (first | exact (Kd.C_below HR0.out HB.out) | (with_reducible refine Kd.C_alloc ?_ _) | (with_reducible refine Kd.C_drewN ?_ _) | (with_reducible refine Kd.C_drew ?_))); (case side2 => exact HC0.out); (case side3 => repeat (first | exact (Kd.C_below HR106_4.out HB.out) | (with_reducible refine Kd.C_alloc ?_ _) | (with_reducible refine Kd.C_drewN ?_ _) | (with_reducible refine Kd.C_drew ?_))); (case side4 => exact HC106_4.out); rintro e w16 ⟨rfl, hb⟩; refine ⟨_, rfl, ?_⟩; have n0_ := Aside0.mk (below_step (by repeat (first | (with_reducible first | exact HB.out | apply below_alloc | apply pw_below_drewN | apply below_drew1) | exact HB.out)) hb); clear HB; have HB := n0_; clear n0_; (try clear hb); (try clear hb2); (try clear hk); (try clear hi)))
                  go_ret
                  exact ⟨by first | rfl | (simp [errW_none, errW_some] <;> rfl) | (simp [*, errW_none, errW_some] <;> rfl), by repeat (first | (with_reducible first | exact HB.out | apply below_alloc | apply pw_below_drewN | apply below_drew1) | exact HB.out)⟩
                · replace c13 := Bool.eq_false_iff.mpr c13
                  subst c13
                  have H1 : (some 101) = some r := by rw [if_neg (show ¬ (false = true) by decide)] at H; exact H
                  clear H
                  have H := H1
                  clear H1
                  obtain rfl := Option.some.inj H
                  have p102 : 0 ≤ (a1 : Int) := of_decide_eq_true (by first | (with_reducible assumption) | assumption)
                  have q102 : a1 < (l0.length : Int) := of_decide_eq_true (by first | (with_reducible assumption) | assumption)
                  obtain ⟨ad102, A102_4, c102_4, e102, hx102_0, hx102_1, hx102_2, hx102_3, hx102_4, hl102_4, hi102_4⟩ := at_T39 HR0.out a1 p102 q102
                  cases e102
                  replace hx102_0 := (HB.out.cell (World.block_lt_of_cell? w _ hx102_0)).trans hx102_0
                  replace hx102_1 := (HB.out.cell (World.block_lt_of_cell? w _ hx102_1)).trans hx102_1
                  replace hx102_2 := (HB.out.cell (World.block_lt_of_cell? w _ hx102_2)).trans hx102_2
                  replace hx102_3 := (HB.out.cell (World.block_lt_of_cell? w _ hx102_3)).trans hx102_3
                  replace hx102_4 := (HB.out.cell (World.block_lt_of_cell? w _ hx102_4)).trans hx102_4
                  have HR102_4 := Aside0.mk hi102_4
                  have HC102_4 := Aside0.mk hl102_4
                  clear hi102_4 hl102_4
                  replace p102 := eq_true p102
                  replace q102 := eq_true q102
                  go_wp2_with (first | ((with_reducible refine gate_callee (f := 24) rfl ?_); refine goesL_ (some 19) rfl rfl Try.func24 (by kernel_rfl) rfl #[.agg #[.int .u8 ((rd_T39 l0 a1).f0), .int .u8 ((rd_T39 l0 a1).f1), .int .i64 ((rd_T39 l0 a1).f2), .int .i64 ((rd_T39 l0 a1).f3), .slice A102_4 ((rd_T39 l0 a1).f4).length c102_4]] rfl (by (try simp only [List.map_toArray, List.map_cons, List.map_nil]); first | done | rfl | (simp only [List.length_drop, List.length_take]; rfl)) ?_; (with_reducible refine (check_numbers.calls ((rd_T39 l0 a1).f0) ((rd_T39 l0 a1).f1) ((rd_T39 l0 a1).f2) ((rd_T39 l0 a1).f3) _ _ ((rd_T39 l0 a1).f4) true _ ?side1 ?side2 A8.out).mono ?_); (case side1 => repeat (first | exact (Kd.C_below HR102_4.out HB.out) | (with_reducible refine Kd.C_alloc ?_ _) | (with_reducible refine Kd.C_drewN ?_ _) | (with_reducible refine Kd.C_drew ?_))); (case side2 => exact HC102_4.out); rintro e w17 ⟨rfl, hb⟩; refine ⟨_, rfl, ?_⟩; have n0_ := Aside0.mk (below_step (by repeat (first | (with_reducible first | exact HB.out | apply below_alloc | apply pw_below_drewN | apply below_drew1) | exact HB.out)) hb); clear HB; have HB := n0_; clear n0_; (try clear hb); (try clear hb2); (try clear hk); (try clear hi); have p104 : 0 ≤ (a1 : Int) := of_decide_eq_true (by first | (with_reducible assumption) | assumption); have q104 : a1 < (l0.length : Int) := of_decide_eq_true (by first | (with_reducible assumption) | assumption); obtain ⟨ad104, A104_4, c104_4, e104, hx104_0, hx104_1, hx104_2, hx104_3, hx104_4, hl104_4, hi104_4⟩ := at_T39 HR0.out a1 p104 q104; obtain rfl : ad102 = ad104 := (by injection e104); replace hx104_0 := (HB.out.cell (World.block_lt_of_cell? w _ hx104_0)).trans hx104_0; replace hx104_1 := (HB.out.cell (World.block_lt_of_cell? w _ hx104_1)).trans hx104_1; replace hx104_2 := (HB.out.cell (World.block_lt_of_cell? w _ hx104_2)).trans hx104_2; replace hx104_3 := (HB.out.cell (World.block_lt_of_cell? w _ hx104_3)).trans hx104_3; replace hx104_4 := (HB.out.cell (World.block_lt_of_cell? w _ hx104_4)).trans hx104_4; have HR104_4 := Aside0.mk hi104_4; have HC104_4 := Aside0.mk hl104_4; clear hi104_4 hl104_4; replace p104 := eq_true p104; replace q104 := eq_true q104) | ((with_reducible refine gate_callee (f := 25) rfl ?_); refine goesL_ (some 27) rfl rfl Try.func25 (by kernel_rfl) rfl #[.slice (some ad102) l0.length c0, .agg #[.int .u8 ((rd_T39 l0 a1).f0), .int .u8 ((rd_T39 l0 a1).f1), .int .i64 ((rd_T39 l0 a1).f2), .int .i64 ((rd_T39 l0 a1).f3), .slice A104_4 ((rd_T39 l0 a1).f4).length c104_4]] rfl (by (try simp only [List.map_toArray, List.map_cons, List.map_nil]); first | done | rfl | (simp only [List.length_drop, List.length_take]; rfl)) ?_; (with_reducible refine (check_ports.calls _ _ l0 ((rd_T39 l0 a1).f0) ((rd_T39 l0 a1).f1) ((rd_T39 l0 a1).f2) ((rd_T39 l0 a1).f3) _ _ ((rd_T39 l0 a1).f4) true _ ?side1 ?side2 ?side3 ?side4 A10.out).mono ?_); (case side1 => repeat (first | exact (Kd.C_below HR0.out HB.out) | (with_reducible refine Kd.C_alloc ?_ _) | (with_reducible refine Kd.C_drewN ?_ _) | (with_reducible refine Kd.C_drew ?_))); (case side2 => exact HC0.out); (case side3 => repeat (first | exact (Kd.C_below HR104_4.out HB.out) | (with_reducible refine Kd.C_alloc ?_ _) | (with_reducible refine Kd.C_drewN ?_ _) | (with_reducible refine Kd.C_drew ?_))); (case side4 => exact HC104_4.out); rintro e w18 ⟨rfl, hb⟩; refine ⟨_, rfl, ?_⟩; have n0_ := Aside0.mk (below_step (by repeat (first | (with_reducible first | exact HB.out | apply below_alloc | apply pw_below_drewN | apply below_drew1) | exact HB.out)) hb); clear HB; have HB := n0_; clear n0_; (try clear hb); (try clear hb2); (try clear hk); (try clear hi); have p106 : 0 ≤ (a1 : Int) := of_decide_eq_true (by first | (with_reducible assumption) | assumption); have q106 : a1 < (l0.length : Int) := of_decide_eq_true (by first | (with_reducible assumption) | assumption); obtain ⟨ad106, A106_4, c106_4, e106, hx106_0, hx106_1, hx106_2, hx106_3, hx106_4, hl106_4, hi106_4⟩ := at_T39 HR0.out a1 p106 q106; obtain rfl : ad102 = ad106 := (by injection e106); replace hx106_0 := (HB.out.cell (World.block_lt_of_cell? w _ hx106_0)).trans hx106_0; replace hx106_1 := (HB.out.cell (World.block_lt_of_cell? w _ hx106_1)).trans hx106_1; replace hx106_2 := (HB.out.cell (World.block_lt_of_cell? w _ hx106_2)).trans hx106_2; replace hx106_3 := (HB.out.cell (World.block_lt_of_cell? w _ hx106_3)).trans hx106_3; replace hx106_4 := (HB.out.cell (World.block_lt_of_cell? w _ hx106_4)).trans hx106_4; have HR106_4 := Aside0.mk hi106_4; have HC106_4 := Aside0.mk hl106_4; clear hi106_4 hl106_4; replace p106 := eq_true p106; replace q106 := eq_true q106) | ((with_reducible refine gate_callee (f := 26) rfl ?_); refine goesL_ (some 35) rfl rfl Try.func26 (by kernel_rfl) rfl #[.slice (some ad102) l0.length c0, .agg #[.int .u8 ((rd_T39 l0 a1).f0), .int .u8 ((rd_T39 l0 a1).f1), .int .i64 ((rd_T39 l0 a1).f2), .int .i64 ((rd_T39 l0 a1).f3), .slice A106_4 ((rd_T39 l0 a1).f4).length c106_4]] rfl (by (try simp only [List.map_toArray, List.map_cons, List.map_nil]); first | done | rfl | (simp only [List.length_drop, List.length_take]; rfl)) ?_; (with_reducible refine (check_depth.calls _ _ l0 ((rd_T39 l0 a1).f0) ((rd_T39 l0 a1).f1) ((rd_T39 l0 a1).f2) ((rd_T39 l0 a1).f3) _ _ ((rd_T39 l0 a1).f4) false _ ?side1 ?side2 ?side3 ?side4 A12.out).mono ?_); (case side1 => repeat (first | exact (Kd.C_below HR0.out HB.out) | (with_reducible refine Kd.C_alloc ?_ _) | (with_reducible refine Kd.C_drewN ?_ _) | (with_reducible refine Kd.C_drew ?_))); (case side2 => exact HC0.out); (case side3 => repeat (first | exact (Kd.C_below HR106_4.out HB.out) | (with_reducible refine Kd.C_alloc ?_ _) | (with_reducible refine Kd.C_drewN ?_ _) | (with_reducible refine Kd.C_drew ?_))); (case side4 => exact HC106_4.out); rintro e w19 ⟨rfl, hb⟩; refine ⟨_, rfl, ?_⟩; have n0_ := Aside0.mk (below_step (by repeat (first | (with_reducible first | exact HB.out | apply below_alloc | apply pw_below_drewN | apply below_drew1) | exact HB.out)) hb); clear HB; have HB := n0_; clear n0_; (try clear hb); (try clear hb2); (try clear hk); (try clear hi)))
                  go_ret
                  exact ⟨by first | rfl | (simp [errW_none, errW_some] <;> rfl) | (simp [*, errW_none, errW_some] <;> rfl), by repeat (first | (with_reducible first | exact HB.out | apply below_alloc | apply pw_below_drewN | apply below_drew1) | exact HB.out)⟩
              · replace c11 := Bool.eq_false_iff.mpr c11
                subst c11
                have H1 : (some 100) = some r := by rw [if_neg (show ¬ (false = true) by decide)] at H; exact H
                clear H
                have H := H1
                clear H1
                obtain rfl := Option.some.inj H
                have p102 : 0 ≤ (a1 : Int) := of_decide_eq_true (by first | (with_reducible assumption) | assumption)
                have q102 : a1 < (l0.length : Int) := of_decide_eq_true (by first | (with_reducible assumption) | assumption)
                obtain ⟨ad102, A102_4, c102_4, e102, hx102_0, hx102_1, hx102_2, hx102_3, hx102_4, hl102_4, hi102_4⟩ := at_T39 HR0.out a1 p102 q102
                cases e102
                replace hx102_0 := (HB.out.cell (World.block_lt_of_cell? w _ hx102_0)).trans hx102_0
                replace hx102_1 := (HB.out.cell (World.block_lt_of_cell? w _ hx102_1)).trans hx102_1
                replace hx102_2 := (HB.out.cell (World.block_lt_of_cell? w _ hx102_2)).trans hx102_2
                replace hx102_3 := (HB.out.cell (World.block_lt_of_cell? w _ hx102_3)).trans hx102_3
                replace hx102_4 := (HB.out.cell (World.block_lt_of_cell? w _ hx102_4)).trans hx102_4
                have HR102_4 := Aside0.mk hi102_4
                have HC102_4 := Aside0.mk hl102_4
                clear hi102_4 hl102_4
                replace p102 := eq_true p102
                replace q102 := eq_true q102
                go_wp2_with (first | ((with_reducible refine gate_callee (f := 24) rfl ?_); refine goesL_ (some 19) rfl rfl Try.func24 (by kernel_rfl) rfl #[.agg #[.int .u8 ((rd_T39 l0 a1).f0), .int .u8 ((rd_T39 l0 a1).f1), .int .i64 ((rd_T39 l0 a1).f2), .int .i64 ((rd_T39 l0 a1).f3), .slice A102_4 ((rd_T39 l0 a1).f4).length c102_4]] rfl (by (try simp only [List.map_toArray, List.map_cons, List.map_nil]); first | done | rfl | (simp only [List.length_drop, List.length_take]; rfl)) ?_; (with_reducible refine (check_numbers.calls ((rd_T39 l0 a1).f0) ((rd_T39 l0 a1).f1) ((rd_T39 l0 a1).f2) ((rd_T39 l0 a1).f3) _ _ ((rd_T39 l0 a1).f4) true _ ?side1 ?side2 A8.out).mono ?_); (case side1 => repeat (first | exact (Kd.C_below HR102_4.out HB.out) | (with_reducible refine Kd.C_alloc ?_ _) | (with_reducible refine Kd.C_drewN ?_ _) | (with_reducible refine Kd.C_drew ?_))); (case side2 => exact HC102_4.out); rintro e w20 ⟨rfl, hb⟩; refine ⟨_, rfl, ?_⟩; have n0_ := Aside0.mk (below_step (by repeat (first | (with_reducible first | exact HB.out | apply below_alloc | apply pw_below_drewN | apply below_drew1) | exact HB.out)) hb); clear HB; have HB := n0_; clear n0_; (try clear hb); (try clear hb2); (try clear hk); (try clear hi); have p104 : 0 ≤ (a1 : Int) := of_decide_eq_true (by first | (with_reducible assumption) | assumption); have q104 : a1 < (l0.length : Int) := of_decide_eq_true (by first | (with_reducible assumption) | assumption); obtain ⟨ad104, A104_4, c104_4, e104, hx104_0, hx104_1, hx104_2, hx104_3, hx104_4, hl104_4, hi104_4⟩ := at_T39 HR0.out a1 p104 q104; obtain rfl : ad102 = ad104 := (by injection e104); replace hx104_0 := (HB.out.cell (World.block_lt_of_cell? w _ hx104_0)).trans hx104_0; replace hx104_1 := (HB.out.cell (World.block_lt_of_cell? w _ hx104_1)).trans hx104_1; replace hx104_2 := (HB.out.cell (World.block_lt_of_cell? w _ hx104_2)).trans hx104_2; replace hx104_3 := (HB.out.cell (World.block_lt_of_cell? w _ hx104_3)).trans hx104_3; replace hx104_4 := (HB.out.cell (World.block_lt_of_cell? w _ hx104_4)).trans hx104_4; have HR104_4 := Aside0.mk hi104_4; have HC104_4 := Aside0.mk hl104_4; clear hi104_4 hl104_4; replace p104 := eq_true p104; replace q104 := eq_true q104) | ((with_reducible refine gate_callee (f := 25) rfl ?_); refine goesL_ (some 27) rfl rfl Try.func25 (by kernel_rfl) rfl #[.slice (some ad102) l0.length c0, .agg #[.int .u8 ((rd_T39 l0 a1).f0), .int .u8 ((rd_T39 l0 a1).f1), .int .i64 ((rd_T39 l0 a1).f2), .int .i64 ((rd_T39 l0 a1).f3), .slice A104_4 ((rd_T39 l0 a1).f4).length c104_4]] rfl (by (try simp only [List.map_toArray, List.map_cons, List.map_nil]); first | done | rfl | (simp only [List.length_drop, List.length_take]; rfl)) ?_; (with_reducible refine (check_ports.calls _ _ l0 ((rd_T39 l0 a1).f0) ((rd_T39 l0 a1).f1) ((rd_T39 l0 a1).f2) ((rd_T39 l0 a1).f3) _ _ ((rd_T39 l0 a1).f4) false _ ?side1 ?side2 ?side3 ?side4 A10.out).mono ?_); (case side1 => repeat (first | exact (Kd.C_below HR0.out HB.out) | (with_reducible refine Kd.C_alloc ?_ _) | (with_reducible refine Kd.C_drewN ?_ _) | (with_reducible refine Kd.C_drew ?_))); (case side2 => exact HC0.out); (case side3 => repeat (first | exact (Kd.C_below HR104_4.out HB.out) | (with_reducible refine Kd.C_alloc ?_ _) | (with_reducible refine Kd.C_drewN ?_ _) | (with_reducible refine Kd.C_drew ?_))); (case side4 => exact HC104_4.out); rintro e w21 ⟨rfl, hb⟩; refine ⟨_, rfl, ?_⟩; have n0_ := Aside0.mk (below_step (by repeat (first | (with_reducible first | exact HB.out | apply below_alloc | apply pw_below_drewN | apply below_drew1) | exact HB.out)) hb); clear HB; have HB := n0_; clear n0_; (try clear hb); (try clear hb2); (try clear hk); (try clear hi)))
                go_ret
                exact ⟨by first | rfl | (simp [errW_none, errW_some] <;> rfl) | (simp [*, errW_none, errW_some] <;> rfl), by repeat (first | (with_reducible first | exact HB.out | apply below_alloc | apply pw_below_drewN | apply below_drew1) | exact HB.out)⟩
            · replace c9 := Bool.eq_false_iff.mpr c9
              subst c9
              have H1 : (some 130) = some r := by rw [if_neg (show ¬ (false = true) by decide)] at H; exact H
              clear H
              have H := H1
              clear H1
              obtain rfl := Option.some.inj H
              have p102 : 0 ≤ (a1 : Int) := of_decide_eq_true (by first | (with_reducible assumption) | assumption)
              have q102 : a1 < (l0.length : Int) := of_decide_eq_true (by first | (with_reducible assumption) | assumption)
              obtain ⟨ad102, A102_4, c102_4, e102, hx102_0, hx102_1, hx102_2, hx102_3, hx102_4, hl102_4, hi102_4⟩ := at_T39 HR0.out a1 p102 q102
              cases e102
              replace hx102_0 := (HB.out.cell (World.block_lt_of_cell? w _ hx102_0)).trans hx102_0
              replace hx102_1 := (HB.out.cell (World.block_lt_of_cell? w _ hx102_1)).trans hx102_1
              replace hx102_2 := (HB.out.cell (World.block_lt_of_cell? w _ hx102_2)).trans hx102_2
              replace hx102_3 := (HB.out.cell (World.block_lt_of_cell? w _ hx102_3)).trans hx102_3
              replace hx102_4 := (HB.out.cell (World.block_lt_of_cell? w _ hx102_4)).trans hx102_4
              have HR102_4 := Aside0.mk hi102_4
              have HC102_4 := Aside0.mk hl102_4
              clear hi102_4 hl102_4
              replace p102 := eq_true p102
              replace q102 := eq_true q102
              go_wp2_with (first | ((with_reducible refine gate_callee (f := 24) rfl ?_); refine goesL_ (some 19) rfl rfl Try.func24 (by kernel_rfl) rfl #[.agg #[.int .u8 ((rd_T39 l0 a1).f0), .int .u8 ((rd_T39 l0 a1).f1), .int .i64 ((rd_T39 l0 a1).f2), .int .i64 ((rd_T39 l0 a1).f3), .slice A102_4 ((rd_T39 l0 a1).f4).length c102_4]] rfl (by (try simp only [List.map_toArray, List.map_cons, List.map_nil]); first | done | rfl | (simp only [List.length_drop, List.length_take]; rfl)) ?_; (with_reducible refine (check_numbers.calls ((rd_T39 l0 a1).f0) ((rd_T39 l0 a1).f1) ((rd_T39 l0 a1).f2) ((rd_T39 l0 a1).f3) _ _ ((rd_T39 l0 a1).f4) false _ ?side1 ?side2 A8.out).mono ?_); (case side1 => repeat (first | exact (Kd.C_below HR102_4.out HB.out) | (with_reducible refine Kd.C_alloc ?_ _) | (with_reducible refine Kd.C_drewN ?_ _) | (with_reducible refine Kd.C_drew ?_))); (case side2 => exact HC102_4.out); rintro e w22 ⟨rfl, hb⟩; refine ⟨_, rfl, ?_⟩; have n0_ := Aside0.mk (below_step (by repeat (first | (with_reducible first | exact HB.out | apply below_alloc | apply pw_below_drewN | apply below_drew1) | exact HB.out)) hb); clear HB; have HB := n0_; clear n0_; (try clear hb); (try clear hb2); (try clear hk); (try clear hi)))
              go_ret
              exact ⟨by first | rfl | (simp [errW_none, errW_some] <;> rfl) | (simp [*, errW_none, errW_some] <;> rfl), by repeat (first | (with_reducible first | exact HB.out | apply below_alloc | apply pw_below_drewN | apply below_drew1) | exact HB.out)⟩
          · rw [if_neg c7] at H
            exact absurd H (by simp)
        · rw [if_neg c6] at H
          exact absurd H (by simp)
mutual
def flow_Put.j0 : Nat → List (S39) → Bool → Option (List Int × Int)
  | 0, _, _ => none
  | k + 1, x0, x17 => if x17 = true then (some (([] : List Int), 3)) else (flow_Put.l0 k (([((x0.length : Int)) % 256] : List Int)) x0 (x0.length : Int) 0)
def flow_Put.l0 : Nat → List Int → List (S39) → Int → Int → Option (List Int × Int)
  | 0, _, _, _, _ => none
  | k + 1, x4, x22, x23, x24 => if x24 < x23 then (if 0 ≤ x24 then (if x24 < (x22.length : Int) then ((flow_may.f ((rd_T39 x22 x24).f0) ((rd_T39 x22 x24).f1) ((rd_T39 x22 x24).f2) ((rd_T39 x22 x24).f3) ((rd_T39 x22 x24).f4)).bind fun t113 => (if t113 = true then ((some (([(rd_T39 x22 x24).f0, (rd_T39 x22 x24).f1] : List Int) : List Int)).bind fun y114 => (if x4.length + y114.length < 140737488355328 then (flow_Put.l1 k (x4 ++ y114) 56 x22 x23 x24 ((rd_T39 x22 x24).f0) ((rd_T39 x22 x24).f1) ((rd_T39 x22 x24).f2) ((rd_T39 x22 x24).f3) ((rd_T39 x22 x24).f4)) else (none))) else (some (([] : List Int), 90)))) else (none)) else (none)) else (some (x4, 0))
def flow_Put.l1 : Nat → List Int → Int → List (S39) → Int → Int → Int → Int → Int → Int → List Int → Option (List Int × Int)
  | 0, _, _, _, _, _, _, _, _, _, _ => none
  | k + 1, x4, x7, x22, x23, x24, x113000, x113001, x113002, x113003, x113004 => if x7 ≥ 0 then (if 0 ≤ x7 then (if x4.length < 140737488355328 then (flow_Put.l1 k (x4 ++ [(shr .i64 x113002 x7) % 256]) (wrap64 (x7 - 8)) x22 x23 x24 x113000 x113001 x113002 x113003 x113004) else (none)) else (none)) else ((some (([(x113003) % 256, ((x113004.length : Int)) % 256] : List Int) : List Int)).bind fun y123 => (if x4.length + y123.length < 140737488355328 then (flow_Put.l2 k (x4 ++ y123) x22 x23 x24 x113004 (x113004.length : Int) 0) else (none)))
def flow_Put.l2 : Nat → List Int → List (S39) → Int → Int → List Int → Int → Int → Option (List Int × Int)
  | 0, _, _, _, _, _, _, _ => none
  | k + 1, x4, x22, x23, x24, x61, x62, x63 => if x63 < x62 then (if 0 ≤ x63 then (if x63 < (x61.length : Int) then (if x4.length < 140737488355328 then (flow_Put.l2 k (x4 ++ [(rd x61 x63) % 256]) x22 x23 x24 x61 x62 (wrap64 (x63 + 1))) else (none)) else (none)) else (none)) else (flow_Put.l0 k x4 x22 x23 (wrap64 (x24 + 1)))
end
def flow_Put.f (k : Nat) (l0 : List (S39)) : Option (List Int × Int) := if (l0.length : Int) < 1 then (flow_Put.j0 k l0 true) else (flow_Put.j0 k l0 (decide ((l0.length : Int) > 32)))
set_option maxHeartbeats 8000000 in
set_option maxRecDepth 100000 in
theorem flow_Put.calls (k : Nat) (A0 : Option Addr) (c0 : Nat) (l0 : List (S39)) (r1 : List Int) (r2 : Int) (w : World) (hr0 : Kd.C k39 w A0 l0.length l0) (hc0 : l0.length ≤ c0) (h : flow_Put.f k l0 = some (r1, r2)) :
    Calls Try.prog 30 #[.slice A0 l0.length c0] w fun e w' => ∃ v0_ : Value, e = .returned (.tuple #[v0_, .int .i64 r2]) ∧ Kd.R (Kd.int .u8) 5 w' w.heap.size (fun _ => True) v0_ r1 ∧ Below w.heap.size w w' := by
  have hu39 := Try.underlying39
  have HR0 := Aside0.mk hr0
  have HC0 := Aside0.mk hc0
  clear hr0 hc0
  have HB := Aside0.mk (Below.refl w.heap.size w)
  have H : (if (l0.length : Int) < 1 then (flow_Put.j0 k l0 true) else (flow_Put.j0 k l0 (decide ((l0.length : Int) > 32)))) = some (r1, r2) := h
  clear h
  have HC2 := Aside0.mk H
  clear H
  go_enter Try.func30, Try.ntmps30
  go_upto_region 1 with (fail)
  go_cut [17] (fun v17 wc => ∃ (kq : Nat) (x17_1 : Bool), v17 = .bool x17_1 ∧ Aside0 (flow_Put.j0 kq l0 x17_1 = some (r1, r2)) ∧ Aside0 (kq ≤ k) ∧ Aside0 (Below w.heap.size w wc))
  case first =>
    have H := HC2.out
    clear HC2
    by_cases c3 : (l0.length : Int) < 1
    · rw [if_pos c3] at H
      have c3b0 : decide ((l0.length : Int) < 1) = true := decide_eq_true c3
      have c3b1 : decide (l0.length < 1) = true := decide_eq_true (by omega)
      clear c3
      (first | rw [c3b0] | (simp only [i64_w, i32_w]; rw [c3b0]) | skip)
      have H' := Aside0.mk H
      clear H
      go_wp2
      go_meet
      case rel => exact ⟨_, (true), (by first | rfl | (simp; done) | (simp [*]; done)), H', ⟨by first | omega | exact Nat.le_refl _⟩, ⟨by repeat (first | (with_reducible first | exact HB.out | apply below_alloc | apply pw_below_drewN | apply below_drew1) | exact HB.out)⟩⟩
    · rw [if_neg c3] at H
      have c3b0 : decide ((l0.length : Int) < 1) = false := decide_eq_false c3
      have c3b1 : decide (l0.length < 1) = false := decide_eq_false (by omega)
      clear c3
      (first | rw [c3b0] | (simp only [i64_w, i32_w]; rw [c3b0]) | skip)
      have H' := Aside0.mk H
      clear H
      go_wp2
      go_meet
      case rel => exact ⟨_, (decide ((l0.length : Int) > 32)), (by first | rfl | (simp; done) | (simp [*]; done)), H', ⟨by first | omega | exact Nat.le_refl _⟩, ⟨by repeat (first | (with_reducible first | exact HB.out | apply below_alloc | apply pw_below_drewN | apply below_drew1) | exact HB.out)⟩⟩
  case rest =>
    clear HC2
    try clear p2
    try clear c3
    try clear c3b0
    try clear c3b1
    obtain ⟨kq, x17_1, rfl, HA, HJ1, HB⟩ := hcut
    cases kq with
    | zero => exact absurd HA.out (by simp [flow_Put.j0])
    | succ kj1 =>
      have H := HA.out
      clear HA
      simp only [flow_Put.j0] at H
      by_cases c4 : x17_1 = true
      · subst c4
        have H1 : (some (([] : List Int), 3)) = some (r1, r2) := by rw [if_pos rfl] at H; exact H
        clear H
        have H := H1
        clear H1
        simp only [Option.some.injEq, Prod.mk.injEq] at H
        obtain ⟨rfl, rfl⟩ := H
        go_wp2
        go_ret2
        exact ⟨_, by first | rfl | (simp [errW_none, errW_some] <;> rfl) | (simp [*, errW_none, errW_some] <;> rfl), by first | exact Kd.R_nil _ _ _ _ _ | exact Kd.N_nil _ _ _ _ _ | exact Kd.V_nil _ _ _ _ _ | exact Kd.Q_nil _ _ _ _ _ | exact Kd.S_nil _ _ _ _ _, by repeat (first | (with_reducible first | exact HB.out | apply below_alloc | apply pw_below_drewN | apply below_drew1) | exact HB.out)⟩
      · replace c4 := Bool.eq_false_iff.mpr c4
        subst c4
        have H1 : (flow_Put.l0 kj1 (([((l0.length : Int)) % 256] : List Int)) l0 (l0.length : Int) 0) = some (r1, r2) := by rw [if_neg (show ¬ (false = true) by decide)] at H; exact H
        clear H
        have H := H1
        clear H1
        obtain ⟨y108, hy108⟩ : ∃ y_ : List Int, y_ = (([((l0.length : Int)) % 256] : List Int)) := ⟨_, rfl⟩
        replace H : (flow_Put.l0 kj1 y108 l0 (l0.length : Int) 0) = some (r1, r2) := by first | (rw [hy108]; with_reducible exact H) | (have H2_ := (Option.bind_some _ _).symm.trans H; rw [hy108]; with_reducible exact H2_) | (have H2_ := (Option.bind_some _ _).symm.trans H; with_reducible exact H2_) | with_reducible exact H | (rw [hy108]; exact H) | exact H
        have Ny108 := Aside0.mk hy108
        clear hy108
        have H' := Aside0.mk H
        clear H
        go_wp2_with (first | ((with_reducible refine gate_dst (N := 21) rfl ?_); (try (refine gate_guard (by rfl) ?_; dsimp only)); refine Kd.R_lit (Kd.int .u8) _ 5 ?hg (N := 21) ?hd (xs := ([((l0.length : Int)) % 256] : List Int)) (inner := [.int .u8 (((l0.length : Int)) % 256)]) (ok := fun _ => True) (okp := fun _ => True) ?hr ?hp (fun _ hk => hk) trivial (Below.refl _ _) (Nat.le_refl _) (by simp) ?_; (case hd => rfl); (case hg => rfl); (case hr => first | (go_simp; done) | (go_simp; rfl)); (case hp => exact (Reps.one (show Kd.M (Kd.int .u8) _ _ _ (((l0.length : Int)) % 256) [.int .u8 (((l0.length : Int)) % 256)] from rfl) (Reps.none _ _))); intro v109 w5 ho6 hb hg_ hnew_; clear hg_ hnew_; (first | rw [← Ny108.out] at ho6 | (simp only [Int.reduceToNat] at ho6; rw [← Ny108.out] at ho6)); have n0_ := Aside0.mk (Kd.R_lower ho6 (below_size (by repeat (first | (with_reducible first | exact HB.out | apply below_alloc | apply pw_below_drewN | apply below_drew1) | exact HB.out)))); have n1_ := Aside0.mk (below_step (by repeat (first | (with_reducible first | exact HB.out | apply below_alloc | apply pw_below_drewN | apply below_drew1) | exact HB.out)) hb); clear HB; have HO110 := n0_; have HB := n1_; clear n0_ n1_; clear hb ho6))
        go_loopg [4, 24] kj1 (fun kq v4 v24 w' => ∃ (x4_2 : List Int) (x24_2 : Int), v24 = .int .i64 x24_2 ∧ Aside0 (flow_Put.l0 kq x4_2 l0 (l0.length : Int) x24_2 = some (r1, r2)) ∧ Aside0 (kq ≤ kj1) ∧ Aside0 (Kd.R (Kd.int .u8) 5 w' w.heap.size (fun _ => True) v4 x4_2) ∧ Aside0 (Below w.heap.size w w'))
        case atStart => exact ⟨(y108), (0), (by first | rfl | (simp; done) | (simp [*]; done)), H', ⟨Nat.le_refl _⟩, ⟨by (with_reducible repeat (first | apply Kd.R_alloc | apply Kd.R_drewN | apply Kd.R_drew)); exact HO110.out⟩, ⟨by repeat (first | (with_reducible first | exact HB.out | apply below_alloc | apply pw_below_drewN | apply below_drew1) | exact HB.out)⟩⟩
        case round =>
          clear H'
          try clear p2
          try clear c3
          try clear c3b0
          try clear c3b1
          try clear c4
          try clear p2
          obtain ⟨x4_2, x24_2, rfl, HA, HK2, HO_4, HB⟩ := hrel
          cases gk with
          | zero => exact absurd HA.out (by simp [flow_Put.l0])
          | succ k2 =>
            have H := HA.out
            clear HA
            simp only [flow_Put.l0] at H
            by_cases c7 : x24_2 < (l0.length : Int)
            · rw [if_pos c7] at H
              have c7b0 : decide (x24_2 < (l0.length : Int)) = true := decide_eq_true c7
              clear c7
              by_cases c8 : 0 ≤ x24_2
              · rw [if_pos c8] at H
                have c8b0 : decide (0 ≤ x24_2) = true := decide_eq_true c8
                clear c8
                by_cases c9 : x24_2 < (l0.length : Int)
                · rw [if_pos c9] at H
                  have c9b0 : decide (x24_2 < (l0.length : Int)) = true := decide_eq_true c9
                  clear c9
                  replace H := Option.bind_eq_some_iff.mp H
                  obtain ⟨t113, A100, H⟩ := H
                  replace H : (if t113 = true then ((some (([(rd_T39 l0 x24_2).f0, (rd_T39 l0 x24_2).f1] : List Int) : List Int)).bind fun y114 => (if x4_2.length + y114.length < 140737488355328 then (flow_Put.l1 k2 (x4_2 ++ y114) 56 l0 (l0.length : Int) x24_2 ((rd_T39 l0 x24_2).f0) ((rd_T39 l0 x24_2).f1) ((rd_T39 l0 x24_2).f2) ((rd_T39 l0 x24_2).f3) ((rd_T39 l0 x24_2).f4)) else (none))) else (some (([] : List Int), 90))) = some (r1, r2) := H
                  have A10 := Aside0.mk A100
                  clear A100
                  by_cases c11 : t113 = true
                  · subst c11
                    have H1 : ((some (([(rd_T39 l0 x24_2).f0, (rd_T39 l0 x24_2).f1] : List Int) : List Int)).bind fun y114 => (if x4_2.length + y114.length < 140737488355328 then (flow_Put.l1 k2 (x4_2 ++ y114) 56 l0 (l0.length : Int) x24_2 ((rd_T39 l0 x24_2).f0) ((rd_T39 l0 x24_2).f1) ((rd_T39 l0 x24_2).f2) ((rd_T39 l0 x24_2).f3) ((rd_T39 l0 x24_2).f4)) else (none))) = some (r1, r2) := by rw [if_pos rfl] at H; exact H
                    clear H
                    have H := H1
                    clear H1
                    obtain ⟨y114, hy114⟩ : ∃ y_ : List Int, y_ = (([(rd_T39 l0 x24_2).f0, (rd_T39 l0 x24_2).f1] : List Int)) := ⟨_, rfl⟩
                    replace H : (if x4_2.length + y114.length < 140737488355328 then (flow_Put.l1 k2 (x4_2 ++ y114) 56 l0 (l0.length : Int) x24_2 ((rd_T39 l0 x24_2).f0) ((rd_T39 l0 x24_2).f1) ((rd_T39 l0 x24_2).f2) ((rd_T39 l0 x24_2).f3) ((rd_T39 l0 x24_2).f4)) else (none)) = some (r1, r2) := by first | (rw [hy114]; with_reducible exact H) | (have H2_ := (Option.bind_some _ _).symm.trans H; rw [hy114]; with_reducible exact H2_) | (have H2_ := (Option.bind_some _ _).symm.trans H; with_reducible exact H2_) | with_reducible exact H | (rw [hy114]; exact H) | exact H
                    have Ny114 := Aside0.mk hy114
                    clear hy114
                    by_cases c12 : x4_2.length + y114.length < 140737488355328
                    · rw [if_pos c12] at H
                      have LMc12 := Aside0.mk c12
                      clear c12
                      obtain ⟨y117, hy117⟩ : ∃ y_ : List Int, y_ = (x4_2 ++ y114) := ⟨_, rfl⟩
                      replace H : (flow_Put.l1 k2 y117 56 l0 (l0.length : Int) x24_2 ((rd_T39 l0 x24_2).f0) ((rd_T39 l0 x24_2).f1) ((rd_T39 l0 x24_2).f2) ((rd_T39 l0 x24_2).f3) ((rd_T39 l0 x24_2).f4)) = some (r1, r2) := by first | (rw [hy117]; with_reducible exact H) | (have H2_ := (Option.bind_some _ _).symm.trans H; rw [hy117]; with_reducible exact H2_) | (have H2_ := (Option.bind_some _ _).symm.trans H; with_reducible exact H2_) | with_reducible exact H | (rw [hy117]; exact H) | exact H
                      have Ny117 := Aside0.mk hy117
                      clear hy117
                      have H' := Aside0.mk H
                      clear H
                      have p111 : 0 ≤ (x24_2 : Int) := of_decide_eq_true (by first | (with_reducible assumption) | assumption)
                      have q111 : x24_2 < (l0.length : Int) := of_decide_eq_true (by first | (with_reducible assumption) | assumption)
                      obtain ⟨ad111, A111_4, c111_4, e111, hx111_0, hx111_1, hx111_2, hx111_3, hx111_4, hl111_4, hi111_4⟩ := at_T39 HR0.out x24_2 p111 q111
                      cases e111
                      replace hx111_0 := (HB.out.cell (World.block_lt_of_cell? w _ hx111_0)).trans hx111_0
                      replace hx111_1 := (HB.out.cell (World.block_lt_of_cell? w _ hx111_1)).trans hx111_1
                      replace hx111_2 := (HB.out.cell (World.block_lt_of_cell? w _ hx111_2)).trans hx111_2
                      replace hx111_3 := (HB.out.cell (World.block_lt_of_cell? w _ hx111_3)).trans hx111_3
                      replace hx111_4 := (HB.out.cell (World.block_lt_of_cell? w _ hx111_4)).trans hx111_4
                      have HR111_4 := Aside0.mk hi111_4
                      have HC111_4 := Aside0.mk hl111_4
                      clear hi111_4 hl111_4
                      replace p111 := eq_true p111
                      replace q111 := eq_true q111
                      go_wp2_with (first | ((with_reducible refine gate_dst (N := 6) rfl ?_); (try (refine gate_guard (by rfl) ?_; dsimp only)); refine box_event ?hg (N := 6) ?hd (cs := #[.int .u8 0, .int .u8 0, .int .i64 0, .int .i64 0, .slice none 0 0]) (t := 39) ?hr ?_; (case hd => rfl); (case hg => rfl); (case hr => first | (go_simp; done) | (go_simp; rfl)); intro gb112 hg w13 hbox hb; have n0_ := Aside0.mk (Kd.R_below (by (with_reducible repeat (first | apply Kd.R_alloc | apply Kd.R_drewN | apply Kd.R_drew)); exact HO_4.out) hb); have n1_ := Aside0.mk (below_step (by repeat (first | (with_reducible first | exact HB.out | apply below_alloc | apply pw_below_drewN | apply below_drew1) | exact HB.out)) hb); have n2_ := Aside0.mk (hbox); have n3_ := Aside0.mk ((by rw [hg]; exact (below_size (by repeat (first | (with_reducible first | exact HB.out | apply below_alloc | apply pw_below_drewN | apply below_drew1) | exact HB.out))) : w.heap.size ≤ gb112)); have n4_ := Aside0.mk ((by rw [hg]; exact (below_size (by repeat (first | (with_reducible first | exact HB.out | apply below_alloc | apply pw_below_drewN | apply below_drew1) | exact HB.out))) : w.heap.size ≤ gb112)); clear HO_4; clear HB; have HO_4 := n0_; have HB := n1_; have BK112 := n2_; have GW112 := n3_; have GE112 := n4_; clear n0_ n1_ n2_ n3_ n4_; clear hb hbox hg; have hcz14_0 : w13.cell? ⟨gb112, 0, none⟩ = some (.int .u8 0) := (blk_cell BK112.out 0).trans rfl; have hcz14_1 : w13.cell? ⟨gb112, 1, none⟩ = some (.int .u8 0) := (blk_cell BK112.out 1).trans rfl; have hcz14_2 : w13.cell? ⟨gb112, 2, none⟩ = some (.int .i64 0) := (blk_cell BK112.out 2).trans rfl; have hcz14_3 : w13.cell? ⟨gb112, 3, none⟩ = some (.int .i64 0) := (blk_cell BK112.out 3).trans rfl; have hcz14_4 : w13.cell? ⟨gb112, 4, none⟩ = some (.slice none 0 0) := (blk_cell BK112.out 4).trans rfl; have hfz14_0 := blk_frozen BK112.out 0; have hfz14_1 := blk_frozen BK112.out 1; have hfz14_2 := blk_frozen BK112.out 2; have hfz14_3 := blk_frozen BK112.out 3; have hfz14_4 := blk_frozen BK112.out 4) | ((with_reducible refine gate_callee (f := 44) rfl ?_); refine goesL_ (some 29) rfl rfl Try.func44 (by kernel_rfl) rfl #[.agg #[.int .u8 ((rd_T39 l0 x24_2).f0), .int .u8 ((rd_T39 l0 x24_2).f1), .int .i64 ((rd_T39 l0 x24_2).f2), .int .i64 ((rd_T39 l0 x24_2).f3), .slice A111_4 ((rd_T39 l0 x24_2).f4).length c111_4]] rfl (by (try simp only [List.map_toArray, List.map_cons, List.map_nil]); first | done | rfl | (simp only [List.length_drop, List.length_take]; rfl)) ?_; (with_reducible refine (flow_may.calls ((rd_T39 l0 x24_2).f0) ((rd_T39 l0 x24_2).f1) ((rd_T39 l0 x24_2).f2) ((rd_T39 l0 x24_2).f3) _ _ ((rd_T39 l0 x24_2).f4) true _ ?side1 ?side2 A10.out).mono ?_); (case side1 => exact Kd.C_below HR111_4.out (by repeat (first | (with_reducible first | exact HB.out | apply below_alloc | apply pw_below_drewN | apply below_drew1 | refine below_set ?_ GE112.out) | exact HB.out))); (case side2 => exact HC111_4.out); rintro e w15 ⟨rfl, hb⟩; refine ⟨_, rfl, ?_⟩; have n0_ := Aside0.mk (Kd.R_below (by (with_reducible repeat (first | apply Kd.R_alloc | apply Kd.R_drewN | apply Kd.R_drew)); exact (Kd.R_mono (Kd.R_far (p := ⟨gb112, 4, none⟩) (Kd.R_far (p := ⟨gb112, 3, none⟩) (Kd.R_far (p := ⟨gb112, 2, none⟩) (Kd.R_far (p := ⟨gb112, 1, none⟩) (Kd.R_far (p := ⟨gb112, 0, none⟩) (Kd.R_types HO_4.out BK112.out (by decide)) (fun _ hk => hk.2) (.int .u8 ((rd_T39 l0 x24_2).f0))) (fun _ hk => hk.2) (.int .u8 ((rd_T39 l0 x24_2).f1))) (fun _ hk => hk.2) (.int .i64 ((rd_T39 l0 x24_2).f2))) (fun _ hk => hk.2) (.int .i64 ((rd_T39 l0 x24_2).f3))) (fun _ hk => hk.2) (.slice A111_4 ((rd_T39 l0 x24_2).f4).length c111_4)) (fun _ h_ => h_.1))) hb); have n1_ := Aside0.mk (blk_below (g := gb112) (o := .cells #[.int .u8 ((rd_T39 l0 x24_2).f0), .int .u8 ((rd_T39 l0 x24_2).f1), .int .i64 ((rd_T39 l0 x24_2).f2), .int .i64 ((rd_T39 l0 x24_2).f3), .slice A111_4 ((rd_T39 l0 x24_2).f4).length c111_4] 39 (0, 0)) (by (with_reducible repeat (first | refine blk_drewN ?_ _ | refine blk_drew ?_ | refine blk_alloc ?_ _)); refine blk_put (cs := #[.int .u8 ((rd_T39 l0 x24_2).f0), .int .u8 ((rd_T39 l0 x24_2).f1), .int .i64 ((rd_T39 l0 x24_2).f2), .int .i64 ((rd_T39 l0 x24_2).f3), .slice none 0 0]) ?_ 4 _ rfl; (with_reducible repeat (first | refine blk_drewN ?_ _ | refine blk_drew ?_ | refine blk_alloc ?_ _)); refine blk_put (cs := #[.int .u8 ((rd_T39 l0 x24_2).f0), .int .u8 ((rd_T39 l0 x24_2).f1), .int .i64 ((rd_T39 l0 x24_2).f2), .int .i64 0, .slice none 0 0]) ?_ 3 _ rfl; (with_reducible repeat (first | refine blk_drewN ?_ _ | refine blk_drew ?_ | refine blk_alloc ?_ _)); refine blk_put (cs := #[.int .u8 ((rd_T39 l0 x24_2).f0), .int .u8 ((rd_T39 l0 x24_2).f1), .int .i64 0, .int .i64 0, .slice none 0 0]) ?_ 2 _ rfl; (with_reducible repeat (first | refine blk_drewN ?_ _ | refine blk_drew ?_ | refine blk_alloc ?_ _)); refine blk_put (cs := #[.int .u8 ((rd_T39 l0 x24_2).f0), .int .u8 0, .int .i64 0, .int .i64 0, .slice none 0 0]) ?_ 1 _ rfl; (with_reducible repeat (first | refine blk_drewN ?_ _ | refine blk_drew ?_ | refine blk_alloc ?_ _)); refine blk_put (cs := #[.int .u8 0, .int .u8 0, .int .i64 0, .int .i64 0, .slice none 0 0]) ?_ 0 _ rfl; (with_reducible repeat (first | refine blk_drewN ?_ _ | refine blk_drew ?_ | refine blk_alloc ?_ _)); exact BK112.out) hb); have n2_ := Aside0.mk (below_step (by repeat (first | (with_reducible first | exact HB.out | apply below_alloc | apply pw_below_drewN | apply below_drew1 | refine below_set ?_ GE112.out) | exact HB.out)) hb); clear HO_4; clear BK112; clear HB; have HO_4 := n0_; have BK112 := n1_; have HB := n2_; clear n0_ n1_ n2_; (try clear hb); (try clear hb2); (try clear hk); (try clear hi); have hcz16_0 : w15.cell? ⟨gb112, 0, none⟩ = some (.int .u8 ((rd_T39 l0 x24_2).f0)) := (blk_cell BK112.out 0).trans rfl; have hcz16_1 : w15.cell? ⟨gb112, 1, none⟩ = some (.int .u8 ((rd_T39 l0 x24_2).f1)) := (blk_cell BK112.out 1).trans rfl; have hcz16_2 : w15.cell? ⟨gb112, 2, none⟩ = some (.int .i64 ((rd_T39 l0 x24_2).f2)) := (blk_cell BK112.out 2).trans rfl; have hcz16_3 : w15.cell? ⟨gb112, 3, none⟩ = some (.int .i64 ((rd_T39 l0 x24_2).f3)) := (blk_cell BK112.out 3).trans rfl; have hcz16_4 : w15.cell? ⟨gb112, 4, none⟩ = some (.slice A111_4 ((rd_T39 l0 x24_2).f4).length c111_4) := (blk_cell BK112.out 4).trans rfl; have hfz16_0 := blk_frozen BK112.out 0; have hfz16_1 := blk_frozen BK112.out 1; have hfz16_2 := blk_frozen BK112.out 2; have hfz16_3 := blk_frozen BK112.out 3; have hfz16_4 := blk_frozen BK112.out 4) | ((with_reducible refine gate_dst (N := 36) rfl ?_); (try (refine gate_guard (by rfl) ?_; dsimp only)); refine Kd.R_lit (Kd.int .u8) _ 5 ?hg (N := 36) ?hd (xs := ([(rd_T39 l0 x24_2).f0, (rd_T39 l0 x24_2).f1] : List Int)) (inner := [.int .u8 ((rd_T39 l0 x24_2).f0), .int .u8 ((rd_T39 l0 x24_2).f1)]) (ok := fun _ => True) (okp := fun _ => True) ?hr ?hp (fun _ hk => hk) trivial (Below.refl _ _) (Nat.le_refl _) (by simp) ?_; (case hd => rfl); (case hg => rfl); (case hr => first | (go_simp; done) | (go_simp; rfl)); (case hp => exact (Reps.one (show Kd.M (Kd.int .u8) _ _ _ ((rd_T39 l0 x24_2).f0) [.int .u8 ((rd_T39 l0 x24_2).f0)] from rfl) (Reps.one (show Kd.M (Kd.int .u8) _ _ _ ((rd_T39 l0 x24_2).f1) [.int .u8 ((rd_T39 l0 x24_2).f1)] from rfl) (Reps.none _ _)))); intro v115 w17 ho18 hb hg_ hnew_; clear hg_ hnew_; (first | rw [← Ny114.out] at ho18 | (simp only [Int.reduceToNat] at ho18; rw [← Ny114.out] at ho18)); have n0_ := Aside0.mk (Kd.R_elder' (by (with_reducible repeat (first | apply Kd.R_alloc | apply Kd.R_drewN | apply Kd.R_drew)); exact HO_4.out) (Kd.R_base ho18) hb); have n1_ := Aside0.mk (Kd.R_lower (Kd.R_new' ho18 (Kd.R_lt (by (with_reducible repeat (first | apply Kd.R_alloc | apply Kd.R_drewN | apply Kd.R_drew)); exact HO_4.out))) (below_size (by repeat (first | (with_reducible first | exact HB.out | apply below_alloc | apply pw_below_drewN | apply below_drew1 | refine below_set ?_ GE112.out) | exact HB.out)))); have n2_ := Aside0.mk (blk_below (g := gb112) (o := .cells #[.int .u8 ((rd_T39 l0 x24_2).f0), .int .u8 ((rd_T39 l0 x24_2).f1), .int .i64 ((rd_T39 l0 x24_2).f2), .int .i64 ((rd_T39 l0 x24_2).f3), .slice A111_4 ((rd_T39 l0 x24_2).f4).length c111_4] 39 (0, 0)) (by (with_reducible repeat (first | refine blk_drewN ?_ _ | refine blk_drew ?_ | refine blk_alloc ?_ _)); exact BK112.out) hb); have n3_ := Aside0.mk (below_step (by repeat (first | (with_reducible first | exact HB.out | apply below_alloc | apply pw_below_drewN | apply below_drew1 | refine below_set ?_ GE112.out) | exact HB.out)) hb); clear HO_4; clear BK112; clear HB; have HO_4 := n0_; have HO116 := n1_; have BK112 := n2_; have HB := n3_; clear n0_ n1_ n2_ n3_; clear hb ho18; obtain ⟨Ao20, co20, eo20⟩ := Kd.R_slice HO116.out; subst eo20) | ((with_reducible refine gate_builtin (b := .append) (xs := #[.tmp 31, .tmp 36]) rfl ?_); (try (refine gate_guard (by rfl) ?_; dsimp only)); at_builtin; refine Kd.R_append_rows (Kd.int .u8) (w0 := w) w.heap.size rfl (.tmp 31) (.tmp 36) 40 5 (.int .u8 0) 1 rfl Try.underlying40 info5 rfl (by decide) (by omega) u4 x4_2 y114 _ _ _ (fun k_ => some k_ ≠ (.slice Ao20 y114.length co20 : Value).ownBlock) (fun _ => False) rfl rfl ?aO ?aR (fun _ _ h => h) (fun _ h => h.elim) ?aF ?aB ?aS ?aL ?_; (case aR => repeat (first | exact (Kd.R_reads' HO116.out).2.2 | (with_reducible refine Kd.C_alloc ?_ _) | (with_reducible refine Kd.C_drewN ?_ _) | (with_reducible refine Kd.C_drew ?_))); (case aB => exact (by repeat (first | (with_reducible first | exact HB.out | apply below_alloc | apply pw_below_drewN | apply below_drew1 | refine below_set ?_ GE112.out) | exact HB.out))); (case aF => exact (fun k_ hk => Kd.fresh' (Kd.R_lt (by (with_reducible repeat (first | apply Kd.R_alloc | apply Kd.R_drewN | apply Kd.R_drew)); exact HO116.out)) k_ hk)); (case aO => exact (by (with_reducible repeat (first | apply Kd.R_alloc | apply Kd.R_drewN | apply Kd.R_drew)); exact Kd.R_mono HO_4.out (fun _ hk => hk.2))); (case aS => exact (below_size (by repeat (first | (with_reducible first | exact HB.out | apply below_alloc | apply pw_below_drewN | apply below_drew1 | refine below_set ?_ GE112.out) | exact HB.out)))); (case aL => have := LMc12.out; omega); intro v118 w19 ho hb hg hat; rw [← Ny117.out] at ho; have n0_ := Aside0.mk (blk_grown (g := gb112) (o := .cells #[.int .u8 ((rd_T39 l0 x24_2).f0), .int .u8 ((rd_T39 l0 x24_2).f1), .int .i64 ((rd_T39 l0 x24_2).f2), .int .i64 ((rd_T39 l0 x24_2).f3), .slice A111_4 ((rd_T39 l0 x24_2).f4).length c111_4] 39 (0, 0)) (by (with_reducible repeat (first | refine blk_drewN ?_ _ | refine blk_drew ?_ | refine blk_alloc ?_ _)); exact BK112.out) hg (Kd.R_ne HO_4.out BK112.out (by decide))); have n1_ := Aside0.mk (Kd.R_after (ok := (fun _ => True)) (by (with_reducible repeat (first | apply Kd.R_alloc | apply Kd.R_drewN | apply Kd.R_drew)); exact HO116.out) hg hat); have n2_ := Aside0.mk (hb); have n3_ := Aside0.mk (ho); clear BK112; clear HO116; clear HB; clear HO_4; have BK112 := n0_; have HO116 := n1_; have HB := n2_; have HO119 := n3_; clear n0_ n1_ n2_ n3_; clear ho hb hg hat))
                      go_loopg [4, 7] k2 (fun kq v4 v7 w' => ∃ (x4_3 : List Int) (x7_3 : Int), v7 = .int .i64 x7_3 ∧ Aside0 (flow_Put.l1 kq x4_3 x7_3 l0 (l0.length : Int) x24_2 ((rd_T39 l0 x24_2).f0) ((rd_T39 l0 x24_2).f1) ((rd_T39 l0 x24_2).f2) ((rd_T39 l0 x24_2).f3) ((rd_T39 l0 x24_2).f4) = some (r1, r2)) ∧ Aside0 (kq ≤ k2) ∧ Aside0 (Kd.R (Kd.int .u8) 5 w' w.heap.size (fun _ => True) v4 x4_3) ∧ Aside0 (w'.heap[gb112]? = some (.cells #[.int .u8 ((rd_T39 l0 x24_2).f0), .int .u8 ((rd_T39 l0 x24_2).f1), .int .i64 ((rd_T39 l0 x24_2).f2), .int .i64 ((rd_T39 l0 x24_2).f3), (.slice A111_4 ((rd_T39 l0 x24_2).f4).length c111_4)] 39 (0, 0))) ∧ Aside0 (Below w.heap.size w w'))
                      case atStart => exact ⟨(y117), (56), (by first | rfl | (simp; done) | (simp [*]; done)), H', ⟨Nat.le_refl _⟩, ⟨by (with_reducible repeat (first | apply Kd.R_alloc | apply Kd.R_drewN | apply Kd.R_drew)); exact Kd.R_mono HO119.out (fun _ hk => trivial)⟩, ⟨by (with_reducible repeat (first | refine blk_drewN ?_ _ | refine blk_drew ?_ | refine blk_alloc ?_ _)); exact BK112.out⟩, ⟨by repeat (first | (with_reducible first | exact HB.out | apply below_alloc | apply pw_below_drewN | apply below_drew1 | refine below_set ?_ GE112.out) | exact HB.out)⟩⟩
                      case round =>
                        clear H'
                        try clear c1
                        try clear p1
                        try clear q1
                        try clear hx1
                        try clear p2
                        try clear c3
                        try clear c3b0
                        try clear c3b1
                        try clear c4
                        try clear c7
                        try clear c7b0
                        try clear c8
                        try clear c8b0
                        try clear c9
                        try clear c9b0
                        try clear c11
                        try clear p11
                        try clear q11
                        try clear hx11
                        try clear c12
                        try clear hcz14_0
                        try clear hcz14_1
                        try clear hcz14_2
                        try clear hcz14_3
                        try clear hcz14_4
                        try clear hcz16_0
                        try clear hcz16_1
                        try clear hcz16_2
                        try clear hcz16_3
                        try clear hcz16_4
                        try clear hfz14_0
                        try clear hfz14_1
                        try clear hfz14_2
                        try clear hfz14_3
                        try clear hfz14_4
                        try clear hfz16_0
                        try clear hfz16_1
                        try clear hfz16_2
                        try clear hfz16_3
                        try clear hfz16_4
                        try clear hx111_0
                        try clear hx111_1
                        try clear hx111_2
                        try clear hx111_3
                        try clear hx111_4
                        try clear p111
                        try clear p2
                        try clear q111
                        obtain ⟨x4_3, x7_3, rfl, HA, HK3, HO_4, BK112, HB⟩ := hrel
                        cases gk with
                        | zero => exact absurd HA.out (by simp [flow_Put.l1])
                        | succ k3 =>
                          have H := HA.out
                          clear HA
                          simp only [flow_Put.l1] at H
                          by_cases c21 : x7_3 ≥ 0
                          · rw [if_pos c21] at H
                            have c21b0 : decide (0 ≤ x7_3) = true := decide_eq_true c21
                            clear c21
                            by_cases c22 : 0 ≤ x7_3
                            · rw [if_pos c22] at H
                              have c22b0 := eq_true c22
                              have c22b1 : decide (0 ≤ x7_3) = true := decide_eq_true c22
                              clear c22
                              obtain ⟨ji23, hji23⟩ : ∃ j_ : Int, (shr .i64 ((rd_T39 l0 x24_2).f2) x7_3) = j_ := ⟨_, rfl⟩
                              replace H : (if x4_3.length < 140737488355328 then (flow_Put.l1 k3 (x4_3 ++ [(ji23) % 256]) (wrap64 (x7_3 - 8)) l0 (l0.length : Int) x24_2 ((rd_T39 l0 x24_2).f0) ((rd_T39 l0 x24_2).f1) ((rd_T39 l0 x24_2).f2) ((rd_T39 l0 x24_2).f3) ((rd_T39 l0 x24_2).f4)) else (none)) = some (r1, r2) := by first | (rw [hji23] at H; exact H) | (simp only [hji23] at H ⊢; exact H)
                              have hji23_ : (((rd_T39 l0 x24_2).f2) / 2 ^ min x7_3.toNat 64) = ji23 := hji23
                              have hji23z : x7_3 ≤ 64 → (((rd_T39 l0 x24_2).f2) / 2 ^ x7_3.toNat) = ji23 := shr_small hji23
                              by_cases c24 : x4_3.length < 140737488355328
                              · rw [if_pos c24] at H
                                have LMc24 := Aside0.mk c24
                                clear c24
                                obtain ⟨y120, hy120⟩ : ∃ y_ : List Int, y_ = (x4_3 ++ [(ji23) % 256]) := ⟨_, rfl⟩
                                replace H : (flow_Put.l1 k3 y120 (wrap64 (x7_3 - 8)) l0 (l0.length : Int) x24_2 ((rd_T39 l0 x24_2).f0) ((rd_T39 l0 x24_2).f1) ((rd_T39 l0 x24_2).f2) ((rd_T39 l0 x24_2).f3) ((rd_T39 l0 x24_2).f4)) = some (r1, r2) := by first | (rw [hy120]; with_reducible exact H) | (have H2_ := (Option.bind_some _ _).symm.trans H; rw [hy120]; with_reducible exact H2_) | (have H2_ := (Option.bind_some _ _).symm.trans H; with_reducible exact H2_) | with_reducible exact H | (rw [hy120]; exact H) | exact H
                                have Ny120 := Aside0.mk hy120
                                clear hy120
                                have H' := Aside0.mk H
                                clear H
                                have hcz25_0 : wr.cell? ⟨gb112, 0, none⟩ = some (.int .u8 ((rd_T39 l0 x24_2).f0)) := (blk_cell BK112.out 0).trans rfl
                                have hcz25_1 : wr.cell? ⟨gb112, 1, none⟩ = some (.int .u8 ((rd_T39 l0 x24_2).f1)) := (blk_cell BK112.out 1).trans rfl
                                have hcz25_2 : wr.cell? ⟨gb112, 2, none⟩ = some (.int .i64 ((rd_T39 l0 x24_2).f2)) := (blk_cell BK112.out 2).trans rfl
                                have hcz25_3 : wr.cell? ⟨gb112, 3, none⟩ = some (.int .i64 ((rd_T39 l0 x24_2).f3)) := (blk_cell BK112.out 3).trans rfl
                                have hcz25_4 : wr.cell? ⟨gb112, 4, none⟩ = some (.slice A111_4 ((rd_T39 l0 x24_2).f4).length c111_4) := (blk_cell BK112.out 4).trans rfl
                                have hfz25_0 := blk_frozen BK112.out 0
                                have hfz25_1 := blk_frozen BK112.out 1
                                have hfz25_2 := blk_frozen BK112.out 2
                                have hfz25_3 := blk_frozen BK112.out 3
                                have hfz25_4 := blk_frozen BK112.out 4
                                go_wp2_with (first | ((with_reducible refine gate_builtin (b := .append) (xs := #[.tmp 42, .tmp 48]) rfl ?_); (try (refine gate_guard (by rfl) ?_; dsimp only)); at_builtin; refine Kd.R_append (Kd.int .u8) (w0 := w) w.heap.size rfl (.tmp 42) (.tmp 48) 40 5 (.int .u8 0) 1 rfl Try.underlying40 info5 rfl (by decide) (by omega) u4 x4_3 ((ji23) % 256) [.int .u8 ((ji23) % 256)] (fun _ => True) (fun _ => False) rfl rfl ?aP (fun _ hk => hk.elim) ?aF ?aO ?aB ?aS ?aL ?_; (case aP => exact rfl); (case aB => exact (by repeat (first | (with_reducible first | exact HB.out | apply below_alloc | apply pw_below_drewN | apply below_drew1 | refine below_set ?_ GE112.out) | exact HB.out))); (case aF => exact (fun _ _ => trivial)); (case aO => exact (by (with_reducible repeat (first | apply Kd.R_alloc | apply Kd.R_drewN | apply Kd.R_drew)); exact HO_4.out)); (case aS => exact (below_size (by repeat (first | (with_reducible first | exact HB.out | apply below_alloc | apply pw_below_drewN | apply below_drew1 | refine below_set ?_ GE112.out) | exact HB.out)))); (case aL => have := LMc24.out; omega); intro v121 w26 ho hb hg hat; rw [← Ny120.out] at ho; have n0_ := Aside0.mk (blk_grown (g := gb112) (o := .cells #[.int .u8 ((rd_T39 l0 x24_2).f0), .int .u8 ((rd_T39 l0 x24_2).f1), .int .i64 ((rd_T39 l0 x24_2).f2), .int .i64 ((rd_T39 l0 x24_2).f3), .slice A111_4 ((rd_T39 l0 x24_2).f4).length c111_4] 39 (0, 0)) (by (with_reducible repeat (first | refine blk_drewN ?_ _ | refine blk_drew ?_ | refine blk_alloc ?_ _)); exact BK112.out) hg (Kd.R_ne HO_4.out BK112.out (by decide))); have n1_ := Aside0.mk (hb); have n2_ := Aside0.mk (ho); clear BK112; clear HB; clear HO_4; have BK112 := n0_; have HB := n1_; have HO122 := n2_; clear n0_ n1_ n2_; clear ho hb hg hat))
                                go_roundg k3
                                case measure => have := HJ1.out; have := HK2.out; have := HK3.out; omega
                                case rel => exact ⟨(y120), (wrap64 (x7_3 - 8)), (by first | rfl | (simp; done) | (simp [*]; done)), H', ⟨by have := HJ1.out; have := HK2.out; have := HK3.out; omega⟩, ⟨by (with_reducible repeat (first | apply Kd.R_alloc | apply Kd.R_drewN | apply Kd.R_drew)); exact HO122.out⟩, ⟨by (with_reducible repeat (first | refine blk_drewN ?_ _ | refine blk_drew ?_ | refine blk_alloc ?_ _)); exact BK112.out⟩, ⟨by repeat (first | (with_reducible first | exact HB.out | apply below_alloc | apply pw_below_drewN | apply below_drew1 | refine below_set ?_ GE112.out) | exact HB.out)⟩⟩
                              · rw [if_neg c24] at H
                                exact absurd H (by simp)
                            · rw [if_neg c22] at H
                              exact absurd H (by simp)
                          · rw [if_neg c21] at H
                            have c21b0 : decide (0 ≤ x7_3) = false := decide_eq_false c21
                            clear c21
                            obtain ⟨y123, hy123⟩ : ∃ y_ : List Int, y_ = (([(((rd_T39 l0 x24_2).f3)) % 256, ((((rd_T39 l0 x24_2).f4).length : Int)) % 256] : List Int)) := ⟨_, rfl⟩
                            replace H : (if x4_3.length + y123.length < 140737488355328 then (flow_Put.l2 k3 (x4_3 ++ y123) l0 (l0.length : Int) x24_2 ((rd_T39 l0 x24_2).f4) (((rd_T39 l0 x24_2).f4).length : Int) 0) else (none)) = some (r1, r2) := by first | (rw [hy123]; with_reducible exact H) | (have H2_ := (Option.bind_some _ _).symm.trans H; rw [hy123]; with_reducible exact H2_) | (have H2_ := (Option.bind_some _ _).symm.trans H; with_reducible exact H2_) | with_reducible exact H | (rw [hy123]; exact H) | exact H
                            have Ny123 := Aside0.mk hy123
                            clear hy123
                            by_cases c27 : x4_3.length + y123.length < 140737488355328
                            · rw [if_pos c27] at H
                              have LMc27 := Aside0.mk c27
                              clear c27
                              obtain ⟨y126, hy126⟩ : ∃ y_ : List Int, y_ = (x4_3 ++ y123) := ⟨_, rfl⟩
                              replace H : (flow_Put.l2 k3 y126 l0 (l0.length : Int) x24_2 ((rd_T39 l0 x24_2).f4) (((rd_T39 l0 x24_2).f4).length : Int) 0) = some (r1, r2) := by first | (rw [hy126]; with_reducible exact H) | (have H2_ := (Option.bind_some _ _).symm.trans H; rw [hy126]; with_reducible exact H2_) | (have H2_ := (Option.bind_some _ _).symm.trans H; with_reducible exact H2_) | with_reducible exact H | (rw [hy126]; exact H) | exact H
                              have Ny126 := Aside0.mk hy126
                              clear hy126
                              have H' := Aside0.mk H
                              clear H
                              have hcz28_0 : wr.cell? ⟨gb112, 0, none⟩ = some (.int .u8 ((rd_T39 l0 x24_2).f0)) := (blk_cell BK112.out 0).trans rfl
                              have hcz28_1 : wr.cell? ⟨gb112, 1, none⟩ = some (.int .u8 ((rd_T39 l0 x24_2).f1)) := (blk_cell BK112.out 1).trans rfl
                              have hcz28_2 : wr.cell? ⟨gb112, 2, none⟩ = some (.int .i64 ((rd_T39 l0 x24_2).f2)) := (blk_cell BK112.out 2).trans rfl
                              have hcz28_3 : wr.cell? ⟨gb112, 3, none⟩ = some (.int .i64 ((rd_T39 l0 x24_2).f3)) := (blk_cell BK112.out 3).trans rfl
                              have hcz28_4 : wr.cell? ⟨gb112, 4, none⟩ = some (.slice A111_4 ((rd_T39 l0 x24_2).f4).length c111_4) := (blk_cell BK112.out 4).trans rfl
                              have hfz28_0 := blk_frozen BK112.out 0
                              have hfz28_1 := blk_frozen BK112.out 1
                              have hfz28_2 := blk_frozen BK112.out 2
                              have hfz28_3 := blk_frozen BK112.out 3
                              have hfz28_4 := blk_frozen BK112.out 4
                              go_wp2_with (first | ((with_reducible refine gate_dst (N := 58) rfl ?_); (try (refine gate_guard (by rfl) ?_; dsimp only)); refine Kd.R_lit (Kd.int .u8) _ 5 ?hg (N := 58) ?hd (xs := ([(((rd_T39 l0 x24_2).f3)) % 256, ((((rd_T39 l0 x24_2).f4).length : Int)) % 256] : List Int)) (inner := [.int .u8 ((((rd_T39 l0 x24_2).f3)) % 256), .int .u8 (((((rd_T39 l0 x24_2).f4).length : Int)) % 256)]) (ok := fun _ => True) (okp := fun _ => True) ?hr ?hp (fun _ hk => hk) trivial (Below.refl _ _) (Nat.le_refl _) (by simp) ?_; (case hd => rfl); (case hg => rfl); (case hr => first | (go_simp; done) | (go_simp; rfl)); (case hp => exact (Reps.one (show Kd.M (Kd.int .u8) _ _ _ ((((rd_T39 l0 x24_2).f3)) % 256) [.int .u8 ((((rd_T39 l0 x24_2).f3)) % 256)] from rfl) (Reps.one (show Kd.M (Kd.int .u8) _ _ _ (((((rd_T39 l0 x24_2).f4).length : Int)) % 256) [.int .u8 (((((rd_T39 l0 x24_2).f4).length : Int)) % 256)] from rfl) (Reps.none _ _)))); intro v124 w29 ho30 hb hg_ hnew_; clear hg_ hnew_; (first | rw [← Ny123.out] at ho30 | (simp only [Int.reduceToNat] at ho30; rw [← Ny123.out] at ho30)); have n0_ := Aside0.mk (Kd.R_elder' (by (with_reducible repeat (first | apply Kd.R_alloc | apply Kd.R_drewN | apply Kd.R_drew)); exact HO_4.out) (Kd.R_base ho30) hb); have n1_ := Aside0.mk (Kd.R_lower (Kd.R_new' ho30 (Kd.R_lt (by (with_reducible repeat (first | apply Kd.R_alloc | apply Kd.R_drewN | apply Kd.R_drew)); exact HO_4.out))) (below_size (by repeat (first | (with_reducible first | exact HB.out | apply below_alloc | apply pw_below_drewN | apply below_drew1 | refine below_set ?_ GE112.out) | exact HB.out)))); have n2_ := Aside0.mk (blk_below (g := gb112) (o := .cells #[.int .u8 ((rd_T39 l0 x24_2).f0), .int .u8 ((rd_T39 l0 x24_2).f1), .int .i64 ((rd_T39 l0 x24_2).f2), .int .i64 ((rd_T39 l0 x24_2).f3), .slice A111_4 ((rd_T39 l0 x24_2).f4).length c111_4] 39 (0, 0)) (by (with_reducible repeat (first | refine blk_drewN ?_ _ | refine blk_drew ?_ | refine blk_alloc ?_ _)); exact BK112.out) hb); have n3_ := Aside0.mk (below_step (by repeat (first | (with_reducible first | exact HB.out | apply below_alloc | apply pw_below_drewN | apply below_drew1 | refine below_set ?_ GE112.out) | exact HB.out)) hb); clear HO_4; clear BK112; clear HB; have HO_4 := n0_; have HO125 := n1_; have BK112 := n2_; have HB := n3_; clear n0_ n1_ n2_ n3_; clear hb ho30; obtain ⟨Ao32, co32, eo32⟩ := Kd.R_slice HO125.out; subst eo32) | ((with_reducible refine gate_builtin (b := .append) (xs := #[.tmp 50, .tmp 58]) rfl ?_); (try (refine gate_guard (by rfl) ?_; dsimp only)); at_builtin; refine Kd.R_append_rows (Kd.int .u8) (w0 := w) w.heap.size rfl (.tmp 50) (.tmp 58) 40 5 (.int .u8 0) 1 rfl Try.underlying40 info5 rfl (by decide) (by omega) u4 x4_3 y123 _ _ _ (fun k_ => some k_ ≠ (.slice Ao32 y123.length co32 : Value).ownBlock) (fun _ => False) rfl rfl ?aO ?aR (fun _ _ h => h) (fun _ h => h.elim) ?aF ?aB ?aS ?aL ?_; (case aR => repeat (first | exact (Kd.R_reads' HO125.out).2.2 | (with_reducible refine Kd.C_alloc ?_ _) | (with_reducible refine Kd.C_drewN ?_ _) | (with_reducible refine Kd.C_drew ?_))); (case aB => exact (by repeat (first | (with_reducible first | exact HB.out | apply below_alloc | apply pw_below_drewN | apply below_drew1 | refine below_set ?_ GE112.out) | exact HB.out))); (case aF => exact (fun k_ hk => Kd.fresh' (Kd.R_lt (by (with_reducible repeat (first | apply Kd.R_alloc | apply Kd.R_drewN | apply Kd.R_drew)); exact HO125.out)) k_ hk)); (case aO => exact (by (with_reducible repeat (first | apply Kd.R_alloc | apply Kd.R_drewN | apply Kd.R_drew)); exact Kd.R_mono HO_4.out (fun _ hk => hk.2))); (case aS => exact (below_size (by repeat (first | (with_reducible first | exact HB.out | apply below_alloc | apply pw_below_drewN | apply below_drew1 | refine below_set ?_ GE112.out) | exact HB.out)))); (case aL => have := LMc27.out; omega); intro v127 w31 ho hb hg hat; rw [← Ny126.out] at ho; have n0_ := Aside0.mk (blk_grown (g := gb112) (o := .cells #[.int .u8 ((rd_T39 l0 x24_2).f0), .int .u8 ((rd_T39 l0 x24_2).f1), .int .i64 ((rd_T39 l0 x24_2).f2), .int .i64 ((rd_T39 l0 x24_2).f3), .slice A111_4 ((rd_T39 l0 x24_2).f4).length c111_4] 39 (0, 0)) (by (with_reducible repeat (first | refine blk_drewN ?_ _ | refine blk_drew ?_ | refine blk_alloc ?_ _)); exact BK112.out) hg (Kd.R_ne HO_4.out BK112.out (by decide))); have n1_ := Aside0.mk (Kd.R_after (ok := (fun _ => True)) (by (with_reducible repeat (first | apply Kd.R_alloc | apply Kd.R_drewN | apply Kd.R_drew)); exact HO125.out) hg hat); have n2_ := Aside0.mk (hb); have n3_ := Aside0.mk (ho); clear BK112; clear HO125; clear HB; clear HO_4; have BK112 := n0_; have HO125 := n1_; have HB := n2_; have HO128 := n3_; clear n0_ n1_ n2_ n3_; clear ho hb hg hat; have hcz33_0 : w31.cell? ⟨gb112, 0, none⟩ = some (.int .u8 ((rd_T39 l0 x24_2).f0)) := (blk_cell BK112.out 0).trans rfl; have hcz33_1 : w31.cell? ⟨gb112, 1, none⟩ = some (.int .u8 ((rd_T39 l0 x24_2).f1)) := (blk_cell BK112.out 1).trans rfl; have hcz33_2 : w31.cell? ⟨gb112, 2, none⟩ = some (.int .i64 ((rd_T39 l0 x24_2).f2)) := (blk_cell BK112.out 2).trans rfl; have hcz33_3 : w31.cell? ⟨gb112, 3, none⟩ = some (.int .i64 ((rd_T39 l0 x24_2).f3)) := (blk_cell BK112.out 3).trans rfl; have hcz33_4 : w31.cell? ⟨gb112, 4, none⟩ = some (.slice A111_4 ((rd_T39 l0 x24_2).f4).length c111_4) := (blk_cell BK112.out 4).trans rfl; have hfz33_0 := blk_frozen BK112.out 0; have hfz33_1 := blk_frozen BK112.out 1; have hfz33_2 := blk_frozen BK112.out 2; have hfz33_3 := blk_frozen BK112.out 3; have hfz33_4 := blk_frozen BK112.out 4))
                              go_loopg [4, 63] k3 (fun kq v4 v63 w' => ∃ (x4_4 : List Int) (x63_4 : Int), v63 = .int .i64 x63_4 ∧ Aside0 (flow_Put.l2 kq x4_4 l0 (l0.length : Int) x24_2 ((rd_T39 l0 x24_2).f4) (((rd_T39 l0 x24_2).f4).length : Int) x63_4 = some (r1, r2)) ∧ Aside0 (kq ≤ k3) ∧ Aside0 (Kd.R (Kd.int .u8) 5 w' w.heap.size (fun _ => True) v4 x4_4) ∧ Aside0 (w'.heap[gb112]? = some (.cells #[.int .u8 ((rd_T39 l0 x24_2).f0), .int .u8 ((rd_T39 l0 x24_2).f1), .int .i64 ((rd_T39 l0 x24_2).f2), .int .i64 ((rd_T39 l0 x24_2).f3), (.slice A111_4 ((rd_T39 l0 x24_2).f4).length c111_4)] 39 (0, 0))) ∧ Aside0 (Below w.heap.size w w'))
                              case atStart => exact ⟨(y126), (0), (by first | rfl | (simp; done) | (simp [*]; done)), H', ⟨Nat.le_refl _⟩, ⟨by (with_reducible repeat (first | apply Kd.R_alloc | apply Kd.R_drewN | apply Kd.R_drew)); exact Kd.R_mono HO128.out (fun _ hk => trivial)⟩, ⟨by (with_reducible repeat (first | refine blk_drewN ?_ _ | refine blk_drew ?_ | refine blk_alloc ?_ _)); exact BK112.out⟩, ⟨by repeat (first | (with_reducible first | exact HB.out | apply below_alloc | apply pw_below_drewN | apply below_drew1 | refine below_set ?_ GE112.out) | exact HB.out)⟩⟩
                              case round =>
                                clear H'
                                try clear c1
                                try clear p1
                                try clear q1
                                try clear hx1
                                try clear c2
                                try clear p2
                                try clear c3
                                try clear c3b0
                                try clear c3b1
                                try clear c4
                                try clear p6
                                try clear c7
                                try clear c7b0
                                try clear c8
                                try clear c8b0
                                try clear c9
                                try clear c9b0
                                try clear c11
                                try clear p11
                                try clear q11
                                try clear hx11
                                try clear c12
                                try clear c21
                                try clear c21b0
                                try clear c22
                                try clear c22b0
                                try clear c22b1
                                try clear c24
                                try clear c27
                                try clear c30
                                try clear hcz14_0
                                try clear hcz14_1
                                try clear hcz14_2
                                try clear hcz14_3
                                try clear hcz14_4
                                try clear hcz16_0
                                try clear hcz16_1
                                try clear hcz16_2
                                try clear hcz16_3
                                try clear hcz16_4
                                try clear hcz25_0
                                try clear hcz25_1
                                try clear hcz25_2
                                try clear hcz25_3
                                try clear hcz25_4
                                try clear hcz28_0
                                try clear hcz28_1
                                try clear hcz28_2
                                try clear hcz28_3
                                try clear hcz28_4
                                try clear hcz33_0
                                try clear hcz33_1
                                try clear hcz33_2
                                try clear hcz33_3
                                try clear hcz33_4
                                try clear hfz14_0
                                try clear hfz14_1
                                try clear hfz14_2
                                try clear hfz14_3
                                try clear hfz14_4
                                try clear hfz16_0
                                try clear hfz16_1
                                try clear hfz16_2
                                try clear hfz16_3
                                try clear hfz16_4
                                try clear hfz25_0
                                try clear hfz25_1
                                try clear hfz25_2
                                try clear hfz25_3
                                try clear hfz25_4
                                try clear hfz28_0
                                try clear hfz28_1
                                try clear hfz28_2
                                try clear hfz28_3
                                try clear hfz28_4
                                try clear hfz33_0
                                try clear hfz33_1
                                try clear hfz33_2
                                try clear hfz33_3
                                try clear hfz33_4
                                try clear hx111_0
                                try clear hx111_1
                                try clear hx111_2
                                try clear hx111_3
                                try clear hx111_4
                                try clear p1
                                try clear p11
                                try clear p111
                                try clear p2
                                try clear q1
                                try clear q11
                                try clear q111
                                obtain ⟨x4_4, x63_4, rfl, HA, HK4, HO_4, BK112, HB⟩ := hrel
                                cases gk with
                                | zero => exact absurd HA.out (by simp [flow_Put.l2])
                                | succ k4 =>
                                  have H := HA.out
                                  clear HA
                                  simp only [flow_Put.l2] at H
                                  by_cases c34 : x63_4 < (((rd_T39 l0 x24_2).f4).length : Int)
                                  · rw [if_pos c34] at H
                                    have c34b0 : decide (x63_4 < (((rd_T39 l0 x24_2).f4).length : Int)) = true := decide_eq_true c34
                                    clear c34
                                    by_cases c35 : 0 ≤ x63_4
                                    · rw [if_pos c35] at H
                                      have c35b0 : decide (0 ≤ x63_4) = true := decide_eq_true c35
                                      clear c35
                                      by_cases c36 : x63_4 < (((rd_T39 l0 x24_2).f4).length : Int)
                                      · rw [if_pos c36] at H
                                        have c36b0 : decide (x63_4 < (((rd_T39 l0 x24_2).f4).length : Int)) = true := decide_eq_true c36
                                        clear c36
                                        by_cases c37 : x4_4.length < 140737488355328
                                        · rw [if_pos c37] at H
                                          have LMc37 := Aside0.mk c37
                                          clear c37
                                          obtain ⟨y130, hy130⟩ : ∃ y_ : List Int, y_ = (x4_4 ++ [(rd ((rd_T39 l0 x24_2).f4) x63_4) % 256]) := ⟨_, rfl⟩
                                          replace H : (flow_Put.l2 k4 y130 l0 (l0.length : Int) x24_2 ((rd_T39 l0 x24_2).f4) (((rd_T39 l0 x24_2).f4).length : Int) (wrap64 (x63_4 + 1))) = some (r1, r2) := by first | (rw [hy130]; with_reducible exact H) | (have H2_ := (Option.bind_some _ _).symm.trans H; rw [hy130]; with_reducible exact H2_) | (have H2_ := (Option.bind_some _ _).symm.trans H; with_reducible exact H2_) | with_reducible exact H | (rw [hy130]; exact H) | exact H
                                          have Ny130 := Aside0.mk hy130
                                          clear hy130
                                          have H' := Aside0.mk H
                                          clear H
                                          have p129 : 0 ≤ (x63_4 : Int) := of_decide_eq_true (by first | (with_reducible assumption) | assumption)
                                          have q129 : x63_4 < (((rd_T39 l0 x24_2).f4).length : Int) := of_decide_eq_true (by first | (with_reducible assumption) | assumption)
                                          obtain ⟨ad129, e129, hx129_0⟩ := Kd.at_int HR111_4.out x63_4 p129 q129
                                          cases e129
                                          replace hx129_0 := (HB.out.cell (World.block_lt_of_cell? w _ hx129_0)).trans hx129_0
                                          replace p129 := eq_true p129
                                          replace q129 := eq_true q129
                                          go_wp2_with (first | ((with_reducible refine gate_builtin (b := .append) (xs := #[.tmp 67, .tmp 70]) rfl ?_); (try (refine gate_guard (by rfl) ?_; dsimp only)); at_builtin; refine Kd.R_append (Kd.int .u8) (w0 := w) w.heap.size rfl (.tmp 67) (.tmp 70) 40 5 (.int .u8 0) 1 rfl Try.underlying40 info5 rfl (by decide) (by omega) u4 x4_4 ((rd ((rd_T39 l0 x24_2).f4) x63_4) % 256) [.int .u8 ((rd ((rd_T39 l0 x24_2).f4) x63_4) % 256)] (fun _ => True) (fun _ => False) rfl rfl ?aP (fun _ hk => hk.elim) ?aF ?aO ?aB ?aS ?aL ?_; (case aP => exact rfl); (case aB => exact (by repeat (first | (with_reducible first | exact HB.out | apply below_alloc | apply pw_below_drewN | apply below_drew1 | refine below_set ?_ GE112.out) | exact HB.out))); (case aF => exact (fun _ _ => trivial)); (case aO => exact (by (with_reducible repeat (first | apply Kd.R_alloc | apply Kd.R_drewN | apply Kd.R_drew)); exact HO_4.out)); (case aS => exact (below_size (by repeat (first | (with_reducible first | exact HB.out | apply below_alloc | apply pw_below_drewN | apply below_drew1 | refine below_set ?_ GE112.out) | exact HB.out)))); (case aL => have := LMc37.out; omega); intro v131 w38 ho hb hg hat; rw [← Ny130.out] at ho; have n0_ := Aside0.mk (blk_grown (g := gb112) (o := .cells #[.int .u8 ((rd_T39 l0 x24_2).f0), .int .u8 ((rd_T39 l0 x24_2).f1), .int .i64 ((rd_T39 l0 x24_2).f2), .int .i64 ((rd_T39 l0 x24_2).f3), .slice (some ad129) ((rd_T39 l0 x24_2).f4).length c111_4] 39 (0, 0)) (by (with_reducible repeat (first | refine blk_drewN ?_ _ | refine blk_drew ?_ | refine blk_alloc ?_ _)); exact BK112.out) hg (Kd.R_ne HO_4.out BK112.out (by decide))); have n1_ := Aside0.mk (hb); have n2_ := Aside0.mk (ho); clear BK112; clear HB; clear HO_4; have BK112 := n0_; have HB := n1_; have HO132 := n2_; clear n0_ n1_ n2_; clear ho hb hg hat))
                                          go_roundg k4
                                          case measure => have := HJ1.out; have := HK2.out; have := HK3.out; have := HK4.out; omega
                                          case rel => exact ⟨(y130), (wrap64 (x63_4 + 1)), (by first | rfl | (simp; done) | (simp [*]; done)), H', ⟨by have := HJ1.out; have := HK2.out; have := HK3.out; have := HK4.out; omega⟩, ⟨by (with_reducible repeat (first | apply Kd.R_alloc | apply Kd.R_drewN | apply Kd.R_drew)); exact HO132.out⟩, ⟨by (with_reducible repeat (first | refine blk_drewN ?_ _ | refine blk_drew ?_ | refine blk_alloc ?_ _)); exact BK112.out⟩, ⟨by repeat (first | (with_reducible first | exact HB.out | apply below_alloc | apply pw_below_drewN | apply below_drew1 | refine below_set ?_ GE112.out) | exact HB.out)⟩⟩
                                        · rw [if_neg c37] at H
                                          exact absurd H (by simp)
                                      · rw [if_neg c36] at H
                                        exact absurd H (by simp)
                                    · rw [if_neg c35] at H
                                      exact absurd H (by simp)
                                  · rw [if_neg c34] at H
                                    have c34b0 : decide (x63_4 < (((rd_T39 l0 x24_2).f4).length : Int)) = false := decide_eq_false c34
                                    clear c34
                                    have H' := Aside0.mk H
                                    clear H
                                    go_wp2
                                    go_roundg k4
                                    case measure => have := HJ1.out; have := HK2.out; have := HK3.out; have := HK4.out; omega
                                    case rel => exact ⟨(x4_4), (wrap64 (x24_2 + 1)), (by first | rfl | (simp; done) | (simp [*]; done)), H', ⟨by have := HJ1.out; have := HK2.out; have := HK3.out; have := HK4.out; omega⟩, ⟨by (with_reducible repeat (first | apply Kd.R_alloc | apply Kd.R_drewN | apply Kd.R_drew)); exact HO_4.out⟩, ⟨by repeat (first | (with_reducible first | exact HB.out | apply below_alloc | apply pw_below_drewN | apply below_drew1 | refine below_set ?_ GE112.out) | exact HB.out)⟩⟩
                            · rw [if_neg c27] at H
                              exact absurd H (by simp)
                    · rw [if_neg c12] at H
                      exact absurd H (by simp)
                  · replace c11 := Bool.eq_false_iff.mpr c11
                    subst c11
                    have H1 : (some (([] : List Int), 90)) = some (r1, r2) := by rw [if_neg (show ¬ (false = true) by decide)] at H; exact H
                    clear H
                    have H := H1
                    clear H1
                    simp only [Option.some.injEq, Prod.mk.injEq] at H
                    obtain ⟨rfl, rfl⟩ := H
                    have p111 : 0 ≤ (x24_2 : Int) := of_decide_eq_true (by first | (with_reducible assumption) | assumption)
                    have q111 : x24_2 < (l0.length : Int) := of_decide_eq_true (by first | (with_reducible assumption) | assumption)
                    obtain ⟨ad111, A111_4, c111_4, e111, hx111_0, hx111_1, hx111_2, hx111_3, hx111_4, hl111_4, hi111_4⟩ := at_T39 HR0.out x24_2 p111 q111
                    cases e111
                    replace hx111_0 := (HB.out.cell (World.block_lt_of_cell? w _ hx111_0)).trans hx111_0
                    replace hx111_1 := (HB.out.cell (World.block_lt_of_cell? w _ hx111_1)).trans hx111_1
                    replace hx111_2 := (HB.out.cell (World.block_lt_of_cell? w _ hx111_2)).trans hx111_2
                    replace hx111_3 := (HB.out.cell (World.block_lt_of_cell? w _ hx111_3)).trans hx111_3
                    replace hx111_4 := (HB.out.cell (World.block_lt_of_cell? w _ hx111_4)).trans hx111_4
                    have HR111_4 := Aside0.mk hi111_4
                    have HC111_4 := Aside0.mk hl111_4
                    clear hi111_4 hl111_4
                    replace p111 := eq_true p111
                    replace q111 := eq_true q111
                    go_wp2_with (first | ((with_reducible refine gate_dst (N := 6) rfl ?_); (try (refine gate_guard (by rfl) ?_; dsimp only)); refine box_event ?hg (N := 6) ?hd (cs := #[.int .u8 0, .int .u8 0, .int .i64 0, .int .i64 0, .slice none 0 0]) (t := 39) ?hr ?_; (case hd => rfl); (case hg => rfl); (case hr => first | (go_simp; done) | (go_simp; rfl)); intro gb112 hg w39 hbox hb; have n0_ := Aside0.mk (Kd.R_below (by (with_reducible repeat (first | apply Kd.R_alloc | apply Kd.R_drewN | apply Kd.R_drew)); exact HO_4.out) hb); have n1_ := Aside0.mk (below_step (by repeat (first | (with_reducible first | exact HB.out | apply below_alloc | apply pw_below_drewN | apply below_drew1) | exact HB.out)) hb); have n2_ := Aside0.mk (hbox); have n3_ := Aside0.mk ((by rw [hg]; exact (below_size (by repeat (first | (with_reducible first | exact HB.out | apply below_alloc | apply pw_below_drewN | apply below_drew1) | exact HB.out))) : w.heap.size ≤ gb112)); have n4_ := Aside0.mk ((by rw [hg]; exact (below_size (by repeat (first | (with_reducible first | exact HB.out | apply below_alloc | apply pw_below_drewN | apply below_drew1) | exact HB.out))) : w.heap.size ≤ gb112)); clear HO_4; clear HB; have HO_4 := n0_; have HB := n1_; have BK112 := n2_; have GW112 := n3_; have GE112 := n4_; clear n0_ n1_ n2_ n3_ n4_; clear hb hbox hg; have hcz40_0 : w39.cell? ⟨gb112, 0, none⟩ = some (.int .u8 0) := (blk_cell BK112.out 0).trans rfl; have hcz40_1 : w39.cell? ⟨gb112, 1, none⟩ = some (.int .u8 0) := (blk_cell BK112.out 1).trans rfl; have hcz40_2 : w39.cell? ⟨gb112, 2, none⟩ = some (.int .i64 0) := (blk_cell BK112.out 2).trans rfl; have hcz40_3 : w39.cell? ⟨gb112, 3, none⟩ = some (.int .i64 0) := (blk_cell BK112.out 3).trans rfl; have hcz40_4 : w39.cell? ⟨gb112, 4, none⟩ = some (.slice none 0 0) := (blk_cell BK112.out 4).trans rfl; have hfz40_0 := blk_frozen BK112.out 0; have hfz40_1 := blk_frozen BK112.out 1; have hfz40_2 := blk_frozen BK112.out 2; have hfz40_3 := blk_frozen BK112.out 3; have hfz40_4 := blk_frozen BK112.out 4) | ((with_reducible refine gate_callee (f := 44) rfl ?_); refine goesL_ (some 29) rfl rfl Try.func44 (by kernel_rfl) rfl #[.agg #[.int .u8 ((rd_T39 l0 x24_2).f0), .int .u8 ((rd_T39 l0 x24_2).f1), .int .i64 ((rd_T39 l0 x24_2).f2), .int .i64 ((rd_T39 l0 x24_2).f3), .slice A111_4 ((rd_T39 l0 x24_2).f4).length c111_4]] rfl (by (try simp only [List.map_toArray, List.map_cons, List.map_nil]); first | done | rfl | (simp only [List.length_drop, List.length_take]; rfl)) ?_; (with_reducible refine (flow_may.calls ((rd_T39 l0 x24_2).f0) ((rd_T39 l0 x24_2).f1) ((rd_T39 l0 x24_2).f2) ((rd_T39 l0 x24_2).f3) _ _ ((rd_T39 l0 x24_2).f4) false _ ?side1 ?side2 A10.out).mono ?_); (case side1 => exact Kd.C_below HR111_4.out (by repeat (first | (with_reducible first | exact HB.out | apply below_alloc | apply pw_below_drewN | apply below_drew1 | refine below_set ?_ GE112.out) | exact HB.out))); (case side2 => exact HC111_4.out); rintro e w41 ⟨rfl, hb⟩; refine ⟨_, rfl, ?_⟩; have n0_ := Aside0.mk (Kd.R_below (by (with_reducible repeat (first | apply Kd.R_alloc | apply Kd.R_drewN | apply Kd.R_drew)); exact (Kd.R_mono (Kd.R_far (p := ⟨gb112, 4, none⟩) (Kd.R_far (p := ⟨gb112, 3, none⟩) (Kd.R_far (p := ⟨gb112, 2, none⟩) (Kd.R_far (p := ⟨gb112, 1, none⟩) (Kd.R_far (p := ⟨gb112, 0, none⟩) (Kd.R_types HO_4.out BK112.out (by decide)) (fun _ hk => hk.2) (.int .u8 ((rd_T39 l0 x24_2).f0))) (fun _ hk => hk.2) (.int .u8 ((rd_T39 l0 x24_2).f1))) (fun _ hk => hk.2) (.int .i64 ((rd_T39 l0 x24_2).f2))) (fun _ hk => hk.2) (.int .i64 ((rd_T39 l0 x24_2).f3))) (fun _ hk => hk.2) (.slice A111_4 ((rd_T39 l0 x24_2).f4).length c111_4)) (fun _ h_ => h_.1))) hb); have n1_ := Aside0.mk (blk_below (g := gb112) (o := .cells #[.int .u8 ((rd_T39 l0 x24_2).f0), .int .u8 ((rd_T39 l0 x24_2).f1), .int .i64 ((rd_T39 l0 x24_2).f2), .int .i64 ((rd_T39 l0 x24_2).f3), .slice A111_4 ((rd_T39 l0 x24_2).f4).length c111_4] 39 (0, 0)) (by (with_reducible repeat (first | refine blk_drewN ?_ _ | refine blk_drew ?_ | refine blk_alloc ?_ _)); refine blk_put (cs := #[.int .u8 ((rd_T39 l0 x24_2).f0), .int .u8 ((rd_T39 l0 x24_2).f1), .int .i64 ((rd_T39 l0 x24_2).f2), .int .i64 ((rd_T39 l0 x24_2).f3), .slice none 0 0]) ?_ 4 _ rfl; (with_reducible repeat (first | refine blk_drewN ?_ _ | refine blk_drew ?_ | refine blk_alloc ?_ _)); refine blk_put (cs := #[.int .u8 ((rd_T39 l0 x24_2).f0), .int .u8 ((rd_T39 l0 x24_2).f1), .int .i64 ((rd_T39 l0 x24_2).f2), .int .i64 0, .slice none 0 0]) ?_ 3 _ rfl; (with_reducible repeat (first | refine blk_drewN ?_ _ | refine blk_drew ?_ | refine blk_alloc ?_ _)); refine blk_put (cs := #[.int .u8 ((rd_T39 l0 x24_2).f0), .int .u8 ((rd_T39 l0 x24_2).f1), .int .i64 0, .int .i64 0, .slice none 0 0]) ?_ 2 _ rfl; (with_reducible repeat (first | refine blk_drewN ?_ _ | refine blk_drew ?_ | refine blk_alloc ?_ _)); refine blk_put (cs := #[.int .u8 ((rd_T39 l0 x24_2).f0), .int .u8 0, .int .i64 0, .int .i64 0, .slice none 0 0]) ?_ 1 _ rfl; (with_reducible repeat (first | refine blk_drewN ?_ _ | refine blk_drew ?_ | refine blk_alloc ?_ _)); refine blk_put (cs := #[.int .u8 0, .int .u8 0, .int .i64 0, .int .i64 0, .slice none 0 0]) ?_ 0 _ rfl; (with_reducible repeat (first | refine blk_drewN ?_ _ | refine blk_drew ?_ | refine blk_alloc ?_ _)); exact BK112.out) hb); have n2_ := Aside0.mk (below_step (by repeat (first | (with_reducible first | exact HB.out | apply below_alloc | apply pw_below_drewN | apply below_drew1 | refine below_set ?_ GE112.out) | exact HB.out)) hb); clear HO_4; clear BK112; clear HB; have HO_4 := n0_; have BK112 := n1_; have HB := n2_; clear n0_ n1_ n2_; (try clear hb); (try clear hb2); (try clear hk); (try clear hi)))
                    go_ret2
                    exact ⟨_, by first | rfl | (simp [errW_none, errW_some] <;> rfl) | (simp [*, errW_none, errW_some] <;> rfl), by first | exact Kd.R_nil _ _ _ _ _ | exact Kd.N_nil _ _ _ _ _ | exact Kd.V_nil _ _ _ _ _ | exact Kd.Q_nil _ _ _ _ _ | exact Kd.S_nil _ _ _ _ _, by repeat (first | (with_reducible first | exact HB.out | apply below_alloc | apply pw_below_drewN | apply below_drew1 | refine below_set ?_ GE112.out) | exact HB.out)⟩
                · rw [if_neg c9] at H
                  exact absurd H (by simp)
              · rw [if_neg c8] at H
                exact absurd H (by simp)
            · rw [if_neg c7] at H
              have c7b0 : decide (x24_2 < (l0.length : Int)) = false := decide_eq_false c7
              clear c7
              simp only [Option.some.injEq, Prod.mk.injEq] at H
              obtain ⟨rfl, rfl⟩ := H
              go_wp2
              go_ret2
              exact ⟨_, by first | rfl | (simp [errW_none, errW_some] <;> rfl) | (simp [*, errW_none, errW_some] <;> rfl), by (with_reducible repeat (first | apply Kd.R_alloc | apply Kd.R_drewN | apply Kd.R_drew)); exact HO_4.out, by repeat (first | (with_reducible first | exact HB.out | apply below_alloc | apply pw_below_drewN | apply below_drew1) | exact HB.out)⟩
end Go.Proofs.Ytnjlonenckifpaa.X
namespace Go.Proofs.Ytnjlonenckifpaa.X
open Go.RowKit Go.Proofs.YtnjlonenckifpaaW.PrintWords Go.Proofs.YtnjlonenckifpaaW.PrintLast Go.Proofs.YtnjlonenckifpaaW.PrintMore
set_option linter.unusedVariables false
set_option linter.unusedSimpArgs false
def check_Check.l0 : Nat → List (S39) → Int → Int → Option (Int × Int)
  | 0, _, _, _ => none
  | k + 1, x0, x18, x19 => if x19 < x18 then ((check_Node.f k x0 x19).bind fun t146 => (if t146 = 0 then (check_Check.l0 k x0 x18 (wrap64 (x19 + 1))) else (some (x19, t146)))) else ((check_stuck.f x0).bind fun t147 => (if t147 < (x0.length : Int) then (some (t147, 102)) else (some ((x0.length : Int), 0))))
def check_Check.f (k : Nat) (l0 : List (S39)) : Option (Int × Int) := (flow_Put.f k l0).bind fun bt142 => (if bt142.2 = 0 then (check_Check.l0 k l0 (l0.length : Int) 0) else (some (0, bt142.2)))
set_option maxHeartbeats 8000000 in
set_option maxRecDepth 100000 in
theorem check_Check.calls (k : Nat) (A0 : Option Addr) (c0 : Nat) (l0 : List (S39)) (r1 : Int) (r2 : Int) (w : World) (hr0 : Kd.C k39 w A0 l0.length l0) (hc0 : l0.length ≤ c0) (h : check_Check.f k l0 = some (r1, r2)) :
    Calls Try.prog 15 #[.slice A0 l0.length c0] w fun e w' => e = .returned (.tuple #[.int .i64 r1, .int .i64 r2]) ∧ Below w.heap.size w w' := by
  have HR0 := Aside0.mk hr0
  have HC0 := Aside0.mk hc0
  clear hr0 hc0
  have HB := Aside0.mk (Below.refl w.heap.size w)
  have H : ((flow_Put.f k l0).bind fun bt142 => (if bt142.2 = 0 then (check_Check.l0 k l0 (l0.length : Int) 0) else (some (0, bt142.2)))) = some (r1, r2) := h
  clear h
  replace H := Option.bind_eq_some_iff.mp H
  obtain ⟨⟨t142, t143⟩, A20, H⟩ := H
  replace H : (if t143 = 0 then (check_Check.l0 k l0 (l0.length : Int) 0) else (some (0, t143))) = some (r1, r2) := H
  have A2 := Aside0.mk A20
  clear A20
  by_cases c3 : t143 = 0
  · rw [if_pos c3] at H
    have c3b0 : (t143 == 0) = true := beq_iff_eq.mpr c3
    have c3b1 : (t143 != 0) = false := bne_eq_false_iff_eq.mpr c3
    clear c3
    have H' := Aside0.mk H
    clear H
    go_enter Try.func15, Try.ntmps15
    go_wp2_with (first | ((with_reducible refine gate_callee (f := 30) rfl ?_); refine goesL_ (some 11) rfl rfl Try.func30 (by kernel_rfl) rfl #[.slice A0 l0.length c0] rfl (by (try simp only [List.map_toArray, List.map_cons, List.map_nil]); first | done | rfl | (simp only [List.length_drop, List.length_take]; rfl)) ?_; (with_reducible refine (flow_Put.calls k _ _ l0 t142 t143 _ ?side1 ?side2 A2.out).mono ?_); (case side1 => repeat (first | exact HR0.out | (with_reducible refine Kd.C_alloc ?_ _) | (with_reducible refine Kd.C_drewN ?_ _) | (with_reducible refine Kd.C_drew ?_))); (case side2 => exact HC0.out); rintro e w4 ⟨v144, rfl, ho0, hb⟩; refine ⟨_, rfl, ?_⟩; have n0_ := Aside0.mk (Kd.R_lower ho0 (below_size (by repeat (first | (with_reducible first | exact HB.out | apply below_alloc | apply pw_below_drewN | apply below_drew1) | exact HB.out)))); have n1_ := Aside0.mk (below_step (by repeat (first | (with_reducible first | exact HB.out | apply below_alloc | apply pw_below_drewN | apply below_drew1) | exact HB.out)) hb); clear HB; have HO145 := n0_; have HB := n1_; clear n0_ n1_; (try clear hb); (try clear hb2); (try clear hk); (try clear hi); (try clear ho0)))
    go_loopg [19] k (fun kq v19 w' => ∃ (x19_1 : Int), v19 = .int .i64 x19_1 ∧ Aside0 (check_Check.l0 kq l0 (l0.length : Int) x19_1 = some (r1, r2)) ∧ Aside0 (kq ≤ k) ∧ Aside0 (Below w.heap.size w w'))
    case atStart => exact ⟨(0), (by first | rfl | (simp; done) | (simp [*]; done)), H', ⟨Nat.le_refl _⟩, ⟨by repeat (first | (with_reducible first | exact HB.out | apply below_alloc | apply pw_below_drewN | apply below_drew1) | exact HB.out)⟩⟩
    case round =>
      clear H'
      try clear c1
      try clear p2
      try clear c3
      try clear c3b0
      try clear c3b1
      obtain ⟨x19_1, rfl, HA, HK1, HB⟩ := hrel
      cases gk with
      | zero => exact absurd HA.out (by simp [check_Check.l0])
      | succ k1 =>
        have H := HA.out
        clear HA
        simp only [check_Check.l0] at H
        by_cases c5 : x19_1 < (l0.length : Int)
        · rw [if_pos c5] at H
          have c5b0 : decide (x19_1 < (l0.length : Int)) = true := decide_eq_true c5
          clear c5
          replace H := Option.bind_eq_some_iff.mp H
          obtain ⟨t146, A60, H⟩ := H
          replace H : (if t146 = 0 then (check_Check.l0 k1 l0 (l0.length : Int) (wrap64 (x19_1 + 1))) else (some (x19_1, t146))) = some (r1, r2) := H
          have A6 := Aside0.mk A60
          clear A60
          by_cases c7 : t146 = 0
          · rw [if_pos c7] at H
            have c7b0 : (t146 == 0) = true := beq_iff_eq.mpr c7
            have c7b1 : (t146 != 0) = false := bne_eq_false_iff_eq.mpr c7
            clear c7
            have H' := Aside0.mk H
            clear H
            go_wp2_with (first | ((with_reducible refine gate_callee (f := 12) rfl ?_); refine goesL_ (some 24) rfl rfl Try.func12 (by kernel_rfl) rfl #[.slice A0 l0.length c0, .int .i64 x19_1] rfl (by (try simp only [List.map_toArray, List.map_cons, List.map_nil]); first | done | rfl | (simp only [List.length_drop, List.length_take]; rfl)) ?_; (with_reducible refine (check_Node.calls k1 _ _ l0 x19_1 t146 _ ?side1 ?side2 A6.out).mono ?_); (case side1 => repeat (first | exact (Kd.C_below HR0.out HB.out) | (with_reducible refine Kd.C_alloc ?_ _) | (with_reducible refine Kd.C_drewN ?_ _) | (with_reducible refine Kd.C_drew ?_))); (case side2 => exact HC0.out); rintro e w8 ⟨rfl, hb⟩; refine ⟨_, rfl, ?_⟩; have n0_ := Aside0.mk (below_step (by repeat (first | (with_reducible first | exact HB.out | apply below_alloc | apply pw_below_drewN | apply below_drew1) | exact HB.out)) hb); clear HB; have HB := n0_; clear n0_; (try clear hb); (try clear hb2); (try clear hk); (try clear hi)))
            go_roundg k1
            case measure => have := HK1.out; omega
            case rel => exact ⟨(wrap64 (x19_1 + 1)), (by first | rfl | (simp; done) | (simp [*]; done)), H', ⟨by have := HK1.out; omega⟩, ⟨by repeat (first | (with_reducible first | exact HB.out | apply below_alloc | apply pw_below_drewN | apply below_drew1) | exact HB.out)⟩⟩
          · rw [if_neg c7] at H
            have c7b0 : (t146 == 0) = false := beq_eq_false_iff_ne.mpr c7
            have c7b1 : (t146 != 0) = true := bne_iff_ne.mpr c7
            simp only [Option.some.injEq, Prod.mk.injEq] at H
            obtain ⟨rfl, rfl⟩ := H
            go_wp2_with (first | ((with_reducible refine gate_callee (f := 12) rfl ?_); refine goesL_ (some 24) rfl rfl Try.func12 (by kernel_rfl) rfl #[.slice A0 l0.length c0, .int .i64 x19_1] rfl (by (try simp only [List.map_toArray, List.map_cons, List.map_nil]); first | done | rfl | (simp only [List.length_drop, List.length_take]; rfl)) ?_; (with_reducible refine (check_Node.calls k1 _ _ l0 x19_1 t146 _ ?side1 ?side2 A6.out).mono ?_); (case side1 => repeat (first | exact (Kd.C_below HR0.out HB.out) | (with_reducible refine Kd.C_alloc ?_ _) | (with_reducible refine Kd.C_drewN ?_ _) | (with_reducible refine Kd.C_drew ?_))); (case side2 => exact HC0.out); rintro e w9 ⟨rfl, hb⟩; refine ⟨_, rfl, ?_⟩; have n0_ := Aside0.mk (below_step (by repeat (first | (with_reducible first | exact HB.out | apply below_alloc | apply pw_below_drewN | apply below_drew1) | exact HB.out)) hb); clear HB; have HB := n0_; clear n0_; (try clear hb); (try clear hb2); (try clear hk); (try clear hi)))
            go_ret2
            exact ⟨by first | rfl | (simp [errW_none, errW_some] <;> rfl) | (simp [*, errW_none, errW_some] <;> rfl), by repeat (first | (with_reducible first | exact HB.out | apply below_alloc | apply pw_below_drewN | apply below_drew1) | exact HB.out)⟩
        · rw [if_neg c5] at H
          have c5b0 : decide (x19_1 < (l0.length : Int)) = false := decide_eq_false c5
          clear c5
          replace H := Option.bind_eq_some_iff.mp H
          obtain ⟨t147, A100, H⟩ := H
          replace H : (if t147 < (l0.length : Int) then (some (t147, 102)) else (some ((l0.length : Int), 0))) = some (r1, r2) := H
          have A10 := Aside0.mk A100
          clear A100
          by_cases c11 : t147 < (l0.length : Int)
          · rw [if_pos c11] at H
            have c11b0 : decide (t147 < (l0.length : Int)) = true := decide_eq_true c11
            clear c11
            simp only [Option.some.injEq, Prod.mk.injEq] at H
            obtain ⟨rfl, rfl⟩ := H
            go_wp2_with (first | ((with_reducible refine gate_callee (f := 31) rfl ?_); refine goesL_ (some 31) rfl rfl Try.func31 (by kernel_rfl) rfl #[.slice A0 l0.length c0] rfl (by (try simp only [List.map_toArray, List.map_cons, List.map_nil]); first | done | rfl | (simp only [List.length_drop, List.length_take]; rfl)) ?_; (with_reducible refine (check_stuck.calls _ _ l0 t147 _ ?side1 ?side2 A10.out).mono ?_); (case side1 => repeat (first | exact (Kd.C_below HR0.out HB.out) | (with_reducible refine Kd.C_alloc ?_ _) | (with_reducible refine Kd.C_drewN ?_ _) | (with_reducible refine Kd.C_drew ?_))); (case side2 => exact HC0.out); rintro e w12 ⟨rfl, hb⟩; refine ⟨_, rfl, ?_⟩; have n0_ := Aside0.mk (below_step (by repeat (first | (with_reducible first | exact HB.out | apply below_alloc | apply pw_below_drewN | apply below_drew1) | exact HB.out)) hb); clear HB; have HB := n0_; clear n0_; (try clear hb); (try clear hb2); (try clear hk); (try clear hi)))
            go_ret2
            exact ⟨by first | rfl | (simp [errW_none, errW_some] <;> rfl) | (simp [*, errW_none, errW_some] <;> rfl), by repeat (first | (with_reducible first | exact HB.out | apply below_alloc | apply pw_below_drewN | apply below_drew1) | exact HB.out)⟩
          · rw [if_neg c11] at H
            have c11b0 : decide (t147 < (l0.length : Int)) = false := decide_eq_false c11
            clear c11
            simp only [Option.some.injEq, Prod.mk.injEq] at H
            obtain ⟨rfl, rfl⟩ := H
            go_wp2_with (first | ((with_reducible refine gate_callee (f := 31) rfl ?_); refine goesL_ (some 31) rfl rfl Try.func31 (by kernel_rfl) rfl #[.slice A0 l0.length c0] rfl (by (try simp only [List.map_toArray, List.map_cons, List.map_nil]); first | done | rfl | (simp only [List.length_drop, List.length_take]; rfl)) ?_; (with_reducible refine (check_stuck.calls _ _ l0 t147 _ ?side1 ?side2 A10.out).mono ?_); (case side1 => repeat (first | exact (Kd.C_below HR0.out HB.out) | (with_reducible refine Kd.C_alloc ?_ _) | (with_reducible refine Kd.C_drewN ?_ _) | (with_reducible refine Kd.C_drew ?_))); (case side2 => exact HC0.out); rintro e w13 ⟨rfl, hb⟩; refine ⟨_, rfl, ?_⟩; have n0_ := Aside0.mk (below_step (by repeat (first | (with_reducible first | exact HB.out | apply below_alloc | apply pw_below_drewN | apply below_drew1) | exact HB.out)) hb); clear HB; have HB := n0_; clear n0_; (try clear hb); (try clear hb2); (try clear hk); (try clear hi)))
            go_ret2
            exact ⟨by first | rfl | (simp [errW_none, errW_some] <;> rfl) | (simp [*, errW_none, errW_some] <;> rfl), by repeat (first | (with_reducible first | exact HB.out | apply below_alloc | apply pw_below_drewN | apply below_drew1) | exact HB.out)⟩
  · rw [if_neg c3] at H
    have c3b0 : (t143 == 0) = false := beq_eq_false_iff_ne.mpr c3
    have c3b1 : (t143 != 0) = true := bne_iff_ne.mpr c3
    simp only [Option.some.injEq, Prod.mk.injEq] at H
    obtain ⟨rfl, rfl⟩ := H
    go_enter Try.func15, Try.ntmps15
    go_wp2_with (first | ((with_reducible refine gate_callee (f := 30) rfl ?_); refine goesL_ (some 11) rfl rfl Try.func30 (by kernel_rfl) rfl #[.slice A0 l0.length c0] rfl (by (try simp only [List.map_toArray, List.map_cons, List.map_nil]); first | done | rfl | (simp only [List.length_drop, List.length_take]; rfl)) ?_; (with_reducible refine (flow_Put.calls k _ _ l0 t142 t143 _ ?side1 ?side2 A2.out).mono ?_); (case side1 => repeat (first | exact HR0.out | (with_reducible refine Kd.C_alloc ?_ _) | (with_reducible refine Kd.C_drewN ?_ _) | (with_reducible refine Kd.C_drew ?_))); (case side2 => exact HC0.out); rintro e w14 ⟨v144, rfl, ho0, hb⟩; refine ⟨_, rfl, ?_⟩; have n0_ := Aside0.mk (Kd.R_lower ho0 (below_size (by repeat (first | (with_reducible first | exact HB.out | apply below_alloc | apply pw_below_drewN | apply below_drew1) | exact HB.out)))); have n1_ := Aside0.mk (below_step (by repeat (first | (with_reducible first | exact HB.out | apply below_alloc | apply pw_below_drewN | apply below_drew1) | exact HB.out)) hb); clear HB; have HO145 := n0_; have HB := n1_; clear n0_ n1_; (try clear hb); (try clear hb2); (try clear hk); (try clear hi); (try clear ho0)))
    go_ret2
    exact ⟨by first | rfl | (simp [errW_none, errW_some] <;> rfl) | (simp [*, errW_none, errW_some] <;> rfl), by repeat (first | (with_reducible first | exact HB.out | apply below_alloc | apply pw_below_drewN | apply below_drew1) | exact HB.out)⟩
def check_Order.f (k : Nat) (l0 : List (S39)) : Option (List Int × Int) := (check_Check.f k l0).bind fun bt148 => (if bt148.2 = 0 then ((check_order.f l0).bind fun t150 => (some (t150, 0))) else (some (([] : List Int), bt148.2)))
set_option maxHeartbeats 8000000 in
set_option maxRecDepth 100000 in
theorem check_Order.calls (k : Nat) (A0 : Option Addr) (c0 : Nat) (l0 : List (S39)) (r1 : List Int) (r2 : Int) (w : World) (hr0 : Kd.C k39 w A0 l0.length l0) (hc0 : l0.length ≤ c0) (h : check_Order.f k l0 = some (r1, r2)) :
    Calls Try.prog 17 #[.slice A0 l0.length c0] w fun e w' => ∃ v0_ : Value, e = .returned (.tuple #[v0_, .int .i64 r2]) ∧ Kd.R (Kd.int .i64) 3 w' w.heap.size (fun _ => True) v0_ r1 ∧ Below w.heap.size w w' := by
  have HR0 := Aside0.mk hr0
  have HC0 := Aside0.mk hc0
  clear hr0 hc0
  have HB := Aside0.mk (Below.refl w.heap.size w)
  have H : ((check_Check.f k l0).bind fun bt148 => (if bt148.2 = 0 then ((check_order.f l0).bind fun t150 => (some (t150, 0))) else (some (([] : List Int), bt148.2)))) = some (r1, r2) := h
  clear h
  replace H := Option.bind_eq_some_iff.mp H
  obtain ⟨⟨t148, t149⟩, A20, H⟩ := H
  replace H : (if t149 = 0 then ((check_order.f l0).bind fun t150 => (some (t150, 0))) else (some (([] : List Int), t149))) = some (r1, r2) := H
  have A2 := Aside0.mk A20
  clear A20
  by_cases c3 : t149 = 0
  · rw [if_pos c3] at H
    have c3b0 : (t149 == 0) = true := beq_iff_eq.mpr c3
    have c3b1 : (t149 != 0) = false := bne_eq_false_iff_eq.mpr c3
    clear c3
    replace H := Option.bind_eq_some_iff.mp H
    obtain ⟨t150, A40, H⟩ := H
    replace H : (some (t150, 0)) = some (r1, r2) := H
    have A4 := Aside0.mk A40
    clear A40
    simp only [Option.some.injEq, Prod.mk.injEq] at H
    obtain ⟨rfl, rfl⟩ := H
    go_enter Try.func17, Try.ntmps17
    go_wp2_with (first | ((with_reducible refine gate_callee (f := 15) rfl ?_); refine goesL_ (some 8) rfl rfl Try.func15 (by kernel_rfl) rfl #[.slice A0 l0.length c0] rfl (by (try simp only [List.map_toArray, List.map_cons, List.map_nil]); first | done | rfl | (simp only [List.length_drop, List.length_take]; rfl)) ?_; (with_reducible refine (check_Check.calls k _ _ l0 t148 t149 _ ?side1 ?side2 A2.out).mono ?_); (case side1 => repeat (first | exact HR0.out | (with_reducible refine Kd.C_alloc ?_ _) | (with_reducible refine Kd.C_drewN ?_ _) | (with_reducible refine Kd.C_drew ?_))); (case side2 => exact HC0.out); rintro e w5 ⟨rfl, hb⟩; refine ⟨_, rfl, ?_⟩; have n0_ := Aside0.mk (below_step (by repeat (first | (with_reducible first | exact HB.out | apply below_alloc | apply pw_below_drewN | apply below_drew1) | exact HB.out)) hb); clear HB; have HB := n0_; clear n0_; (try clear hb); (try clear hb2); (try clear hk); (try clear hi)) | ((with_reducible refine gate_callee (f := 34) rfl ?_); refine goesL_ (some 15) rfl rfl Try.func34 (by kernel_rfl) rfl #[.slice A0 l0.length c0] rfl (by (try simp only [List.map_toArray, List.map_cons, List.map_nil]); first | done | rfl | (simp only [List.length_drop, List.length_take]; rfl)) ?_; (with_reducible refine (check_order.calls _ _ l0 t150 _ ?side1 ?side2 A4.out).mono ?_); (case side1 => repeat (first | exact (Kd.C_below HR0.out HB.out) | (with_reducible refine Kd.C_alloc ?_ _) | (with_reducible refine Kd.C_drewN ?_ _) | (with_reducible refine Kd.C_drew ?_))); (case side2 => exact HC0.out); rintro e w6 ⟨v151, rfl, ho0, hb⟩; refine ⟨_, rfl, ?_⟩; have n0_ := Aside0.mk (Kd.R_lower ho0 (below_size (by repeat (first | (with_reducible first | exact HB.out | apply below_alloc | apply pw_below_drewN | apply below_drew1) | exact HB.out)))); have n1_ := Aside0.mk (below_step (by repeat (first | (with_reducible first | exact HB.out | apply below_alloc | apply pw_below_drewN | apply below_drew1) | exact HB.out)) hb); clear HB; have HO152 := n0_; have HB := n1_; clear n0_ n1_; (try clear hb); (try clear hb2); (try clear hk); (try clear hi); (try clear ho0)))
    go_ret2
    exact ⟨_, by first | rfl | (simp [errW_none, errW_some] <;> rfl) | (simp [*, errW_none, errW_some] <;> rfl), by (with_reducible repeat (first | apply Kd.R_alloc | apply Kd.R_drewN | apply Kd.R_drew)); exact HO152.out, by repeat (first | (with_reducible first | exact HB.out | apply below_alloc | apply pw_below_drewN | apply below_drew1) | exact HB.out)⟩
  · rw [if_neg c3] at H
    have c3b0 : (t149 == 0) = false := beq_eq_false_iff_ne.mpr c3
    have c3b1 : (t149 != 0) = true := bne_iff_ne.mpr c3
    simp only [Option.some.injEq, Prod.mk.injEq] at H
    obtain ⟨rfl, rfl⟩ := H
    go_enter Try.func17, Try.ntmps17
    go_wp2_with (first | ((with_reducible refine gate_callee (f := 15) rfl ?_); refine goesL_ (some 8) rfl rfl Try.func15 (by kernel_rfl) rfl #[.slice A0 l0.length c0] rfl (by (try simp only [List.map_toArray, List.map_cons, List.map_nil]); first | done | rfl | (simp only [List.length_drop, List.length_take]; rfl)) ?_; (with_reducible refine (check_Check.calls k _ _ l0 t148 t149 _ ?side1 ?side2 A2.out).mono ?_); (case side1 => repeat (first | exact HR0.out | (with_reducible refine Kd.C_alloc ?_ _) | (with_reducible refine Kd.C_drewN ?_ _) | (with_reducible refine Kd.C_drew ?_))); (case side2 => exact HC0.out); rintro e w7 ⟨rfl, hb⟩; refine ⟨_, rfl, ?_⟩; have n0_ := Aside0.mk (below_step (by repeat (first | (with_reducible first | exact HB.out | apply below_alloc | apply pw_below_drewN | apply below_drew1) | exact HB.out)) hb); clear HB; have HB := n0_; clear n0_; (try clear hb); (try clear hb2); (try clear hk); (try clear hi)))
    go_ret2
    exact ⟨_, by first | rfl | (simp [errW_none, errW_some] <;> rfl) | (simp [*, errW_none, errW_some] <;> rfl), by first | exact Kd.R_nil _ _ _ _ _ | exact Kd.N_nil _ _ _ _ _ | exact Kd.V_nil _ _ _ _ _ | exact Kd.Q_nil _ _ _ _ _ | exact Kd.S_nil _ _ _ _ _, by repeat (first | (with_reducible first | exact HB.out | apply below_alloc | apply pw_below_drewN | apply below_drew1) | exact HB.out)⟩
end Go.Proofs.Ytnjlonenckifpaa.X
namespace Go.Proofs.Ytnjlonenckifpaa.X
set_option linter.unusedVariables false
set_option linter.unusedSimpArgs false
open Go.RowKit Go.Proofs.YtnjlonenckifpaaW.PrintWords Go.Proofs.YtnjlonenckifpaaW.PrintLast Go.Proofs.YtnjlonenckifpaaW.PrintMore
theorem drop_cons (l : List Int) (q : Nat) (h : q < l.length) : l.drop q = l.getD q 0 :: l.drop (q + 1) := by
  rw [List.drop_eq_getElem_cons h]; simp [h]
theorem ref_numbers (a0 a1 a2 a3 : Int) (l : List Int) : tailraceref10_numbers.f a0 a1 a2 a3 l = some (numB a0 a1 a2) := by
  unfold tailraceref10_numbers.f numB
  by_cases h2 : a0 = 2
  · subst h2
    by_cases h : a1 ≤ 3
    · by_cases e : a1 = 3
      · simp [e]
      · simp [h, e, show a1 < 3 by omega]
    · simp [h]
  by_cases h3 : a0 = 3
  · subst h3
    by_cases h : a1 ≤ 2
    · by_cases e : a1 = 1
      · simp [e]
      · simp [h, e]
    · simp [h]
  by_cases h5 : a0 = 5
  · subst h5
    by_cases h : a1 ≤ 3 <;> simp [h]
  by_cases h9 : a0 = 9
  · subst h9
    by_cases h : a1 = 0 <;> by_cases e : a2 ≥ 1 <;> simp [h, e]
  simp only [h2, h3, h5, h9, if_false]
  by_cases h1 : a0 ≥ 1
  · by_cases h10 : a0 ≤ 10
    · have : a0 = 1 ∨ a0 = 4 ∨ a0 = 6 ∨ a0 = 7 ∨ a0 = 8 ∨ a0 = 10 := by omega
      by_cases ha : a1 = 0 <;> simp [h1, h10, this, ha]
    · have : ¬ (a0 = 1 ∨ a0 = 4 ∨ a0 = 6 ∨ a0 = 7 ∨ a0 = 8 ∨ a0 = 10) := by omega
      simp [h1, h10, this]
  · have : ¬ (a0 = 1 ∨ a0 = 4 ∨ a0 = 6 ∨ a0 = 7 ∨ a0 = 8 ∨ a0 = 10) := by omega
    simp [h1, this]
theorem ref_ports_l0 (G : List S39) (hG : G.length ≤ 64) (want a b c d : Int) (l : List Int) (hl : l.length ≤ 64) : ∀ (dd q : Nat), q + dd = l.length →
    Ev (fun k => tailraceref10_ports.l0 k G want (q : Int) a b c d l) (!(l.drop q).any (wrongIn G) && ((l.length : Int) == want))
  | 0, q, hq => by
    refine Ev.step (f := fun _ => some ((l.length : Int) == want)) (fun k => by rw [tailraceref10_ports.l0, if_neg (by omega)]) ?_
    rw [List.drop_eq_nil_of_le (by omega)]
    simpa using Ev.now _
  | dd + 1, q, hq => by
    have hlt : q < l.length := by omega
    rw [drop_cons l q hlt, List.any_cons]
    by_cases h1 : l.getD q 0 < 0
    · have : wrongIn G (l.getD q 0) = true := by unfold wrongIn; rw [decide_eq_true h1]; rfl
      rw [this]
      exact Ev.step (f := fun _ => some false) (fun k => by rw [tailraceref10_ports.l0, if_pos (by omega), if_pos (by omega), rd_nat, if_pos h1]) (Ev.now _)
    by_cases h2 : l.getD q 0 ≥ (G.length : Int)
    · have : wrongIn G (l.getD q 0) = true := by unfold wrongIn; rw [show decide ((G.length : Int) ≤ l.getD q 0) = true from decide_eq_true h2, Bool.or_true]; rfl
      rw [this]
      exact Ev.step (f := fun _ => some false) (fun k => by rw [tailraceref10_ports.l0, if_pos (by omega), if_pos (by omega), rd_nat, if_neg h1, if_pos h2]) (Ev.now _)
    by_cases h3 : (rd_T39 G (l.getD q 0)).f0 = 10
    · have : wrongIn G (l.getD q 0) = true := by unfold wrongIn; rw [show ((rd_T39 G (l.getD q 0)).f0 == 10) = true from beq_iff_eq.2 h3, Bool.or_true]
      rw [this]
      exact Ev.step (f := fun _ => some false) (fun k => by rw [tailraceref10_ports.l0, if_pos (by omega), if_pos (by omega), rd_nat, if_neg h1, if_neg h2, if_pos (by omega), if_pos (by omega), if_pos h3]) (Ev.now _)
    · have : wrongIn G (l.getD q 0) = false := by
        simp only [wrongIn, Bool.or_eq_false_iff, decide_eq_false_iff_not, beq_eq_false_iff_ne]
        exact ⟨⟨h1, by omega⟩, h3⟩
      rw [this]
      have ih := ref_ports_l0 G hG want a b c d l hl dd (q + 1) (by omega)
      refine Ev.step (f := fun k => tailraceref10_ports.l0 k G want ((q + 1 : Nat) : Int) a b c d l) (fun k => ?_) ih
      rw [tailraceref10_ports.l0, if_pos (by omega), if_pos (by omega), rd_nat, if_neg h1, if_neg h2, if_pos (by omega), if_pos (by omega), if_neg h3, wrap_small (by omega) (by omega)]
      rfl
theorem ref_ports (G : List S39) (hG : G.length ≤ 64) (a0 a1 a2 a3 : Int) (l : List Int) (hl : l.length ≤ 64) : Ev (fun k => tailraceref10_ports.f k G a0 a1 a2 a3 l) (portsB G a0 l) := by
  have key : ∀ want, want = arityI a0 → Ev (fun k => tailraceref10_ports.j0 k G want a0 a1 a2 a3 l) (portsB G a0 l) := fun want hw => by
    have := ref_ports_l0 G hG want a0 a1 a2 a3 l hl l.length 0 (by omega)
    refine Ev.step (f := fun k => tailraceref10_ports.l0 k G want 0 a0 a1 a2 a3 l) (fun k => by rw [tailraceref10_ports.j0]) ?_
    rw [List.drop_zero, hw, Bool.and_comm] at this
    rw [hw]
    exact this
  by_cases h1 : a0 = 1
  · exact Ev.congr (fun k => by rw [tailraceref10_ports.f, if_pos h1]) (key 0 (by simp [arityI, h1]))
  by_cases h4 : a0 = 4
  · exact Ev.congr (fun k => by rw [tailraceref10_ports.f, if_neg h1, if_pos h4]) (key 2 (by simp [arityI, h4]))
  by_cases h6 : a0 = 6
  · exact Ev.congr (fun k => by rw [tailraceref10_ports.f, if_neg h1, if_neg h4, if_pos h6]) (key 2 (by simp [arityI, h6]))
  · exact Ev.congr (fun k => by rw [tailraceref10_ports.f, if_neg h1, if_neg h4, if_neg h6]) (key 1 (by simp [arityI, h1, h4, h6]))
theorem all_drop {p : Int → Bool} {l : List Int} (h : l.all p = true) {q : Nat} (hq : q < l.length) : p (l.getD q 0) = true :=
  List.all_eq_true.1 h _ (by simp [hq])
theorem ref_depth_l0 (G : List S39) (hG : G.length ≤ 64) (more a b c d : Int) (hm : -1 ≤ more) (hm2 : more ≤ 1) (hd : 0 ≤ d) (hd2 : d ≤ 3) (l : List Int) (hl : l.length ≤ 64) (hin : l.all (inRange G) = true) : ∀ (dd q : Nat), q + dd = l.length →
    Ev (fun k => tailraceref10_depth.l0 k G more (q : Int) a b c d l) (!(l.drop q).any (offDepth G (d - more)))
  | 0, q, hq => by
    refine Ev.step (f := fun _ => some true) (fun k => by rw [tailraceref10_depth.l0, if_neg (by omega)]) ?_
    rw [List.drop_eq_nil_of_le (by omega)]
    exact Ev.now _
  | dd + 1, q, hq => by
    have hlt : q < l.length := by omega
    have hr := all_drop hin hlt
    simp only [inRange, Bool.and_eq_true, decide_eq_true_eq] at hr
    have hw : wrap64 (d - more) = d - more := wrap_small (by omega) (by omega)
    rw [drop_cons l q hlt, List.any_cons]
    by_cases h1 : d - more = (rd_T39 G (l.getD q 0)).f3
    · have : offDepth G (d - more) (l.getD q 0) = false := by unfold offDepth; rw [← h1]; simp
      rw [this, Bool.false_or]
      have ih := ref_depth_l0 G hG more a b c d hm hm2 hd hd2 l hl hin dd (q + 1) (by omega)
      refine Ev.step (f := fun k => tailraceref10_depth.l0 k G more ((q + 1 : Nat) : Int) a b c d l) (fun k => ?_) ih
      rw [tailraceref10_depth.l0, if_pos (by omega), if_pos (by omega), rd_nat, if_pos (by omega), if_pos (by omega), hw, if_pos h1, wrap_small (by omega) (by omega)]
      rfl
    · have : offDepth G (d - more) (l.getD q 0) = true := by unfold offDepth; rw [bne_iff_ne]; exact fun e => h1 e.symm
      rw [this, Bool.true_or]
      exact Ev.step (f := fun _ => some false) (fun k => by rw [tailraceref10_depth.l0, if_pos (by omega), if_pos (by omega), rd_nat, if_pos (by omega), if_pos (by omega), hw, if_neg h1]) (Ev.now _)
theorem ref_depth (G : List S39) (hG : G.length ≤ 64) (a0 a1 a2 a3 : Int) (l : List Int) (hl : l.length ≤ 64) (hin : l.all (inRange G) = true) : Ev (fun k => tailraceref10_depth.f k G a0 a1 a2 a3 l) (depthB G a0 a3 l) := by
  have bad : depthB G a0 a3 l = false → Ev (fun k => tailraceref10_depth.j0 k G true a0 a1 a2 a3 l) (depthB G a0 a3 l) := fun h => by
    rw [h]
    exact Ev.step (f := fun _ => some false) (fun k => by rw [tailraceref10_depth.j0, if_pos rfl]) (Ev.now _)
  by_cases h0 : a3 < 0
  · exact Ev.congr (fun k => by rw [tailraceref10_depth.f, if_pos h0]) (bad (by unfold depthB; rw [show decide (0 ≤ a3) = false from decide_eq_false (by omega)]; simp))
  by_cases h3 : a3 > 3
  · exact Ev.congr (fun k => by rw [tailraceref10_depth.f, if_neg h0, if_pos h3]) (bad (by unfold depthB; rw [show decide (a3 ≤ 3) = false from decide_eq_false (by omega)]; simp))
  have good : ∀ x : Bool, (x = true → depthB G a0 a3 l = false) → (x = false → depthB G a0 a3 l = !l.any (offDepth G (fedI a0 a3))) → Ev (fun k => tailraceref10_depth.j0 k G x a0 a1 a2 a3 l) (depthB G a0 a3 l) := fun x hx1 hx2 => by
    cases x with
    | true => exact bad (hx1 rfl)
    | false =>
      rw [hx2 rfl]
      have go : ∀ more, -1 ≤ more → more ≤ 1 → Ev (fun k => tailraceref10_depth.j2 k G more a0 a1 a2 a3 l) (!l.any (offDepth G (a3 - more))) := fun more m1 m2 => by
        have := ref_depth_l0 G hG more a0 a1 a2 a3 m1 m2 (by omega) (by omega) l hl hin l.length 0 (by omega)
        rw [List.drop_zero] at this
        exact Ev.step (fun k => by rw [tailraceref10_depth.j2]; rfl) this
      by_cases h7 : a0 = 7
      · have hf : fedI a0 a3 = a3 - 1 := by unfold fedI; rw [if_pos h7, wrap_small (by omega) (by omega)]
        rw [hf]
        refine Ev.step (fun k => by rw [tailraceref10_depth.j0, if_neg (by simp), if_pos h7]) (Ev.step (f := fun k => tailraceref10_depth.j2 k G 1 a0 a1 a2 a3 l) (fun k => by rw [tailraceref10_depth.j1, if_neg (by omega)]) (go 1 (by omega) (by omega)))
      by_cases h8 : a0 = 8
      · have hf : fedI a0 a3 = a3 - (-1) := by unfold fedI; rw [if_neg h7, if_pos h8, wrap_small (by omega) (by omega)]; omega
        rw [hf]
        refine Ev.step (fun k => by rw [tailraceref10_depth.j0, if_neg (by simp), if_neg h7]) (Ev.step (f := fun k => tailraceref10_depth.j2 k G (-1) a0 a1 a2 a3 l) (fun k => by rw [tailraceref10_depth.j1, if_pos h8]) (go (-1) (by omega) (by omega)))
      · have hf : fedI a0 a3 = a3 - 0 := by unfold fedI; rw [if_neg h7, if_neg h8]; omega
        rw [hf]
        refine Ev.step (fun k => by rw [tailraceref10_depth.j0, if_neg (by simp), if_neg h7]) (Ev.step (f := fun k => tailraceref10_depth.j2 k G 0 a0 a1 a2 a3 l) (fun k => by rw [tailraceref10_depth.j1, if_neg h8]) (go 0 (by omega) (by omega)))
  have d0 : decide (0 ≤ a3) = true := decide_eq_true (by omega)
  have d3 : decide (a3 ≤ 3) = true := decide_eq_true (by omega)
  by_cases h1 : a0 = 1
  · by_cases hz : a3 = 0
    · exact Ev.congr (fun k => by rw [tailraceref10_depth.f, if_neg h0, if_neg h3, if_pos h1, if_pos hz, if_neg (show ¬ a0 = 9 by omega)]) (good false (fun h => by cases h) (fun _ => by simp [depthB, d0, d3, h1, hz]))
    · exact Ev.congr (fun k => by rw [tailraceref10_depth.f, if_neg h0, if_neg h3, if_pos h1, if_neg hz]) (bad (by simp [depthB, h1, hz]))
  by_cases h10 : a0 = 10
  · by_cases hz : a3 = 0
    · exact Ev.congr (fun k => by rw [tailraceref10_depth.f, if_neg h0, if_neg h3, if_neg h1, if_pos h10, if_pos hz, if_neg (show ¬ a0 = 9 by omega)]) (good false (fun h => by cases h) (fun _ => by simp [depthB, d0, d3, h10, hz]))
    · exact Ev.congr (fun k => by rw [tailraceref10_depth.f, if_neg h0, if_neg h3, if_neg h1, if_pos h10, if_neg hz]) (bad (by simp [depthB, h10, hz]))
  by_cases h9 : a0 = 9
  · refine Ev.congr (fun k => by rw [tailraceref10_depth.f, if_neg h0, if_neg h3, if_neg h1, if_neg h10, if_pos h9]) (good (decide (a3 < 1)) (fun h => by simp [depthB, h9, h]) (fun h => by simp [depthB, d0, d3, h9, h]))
  · refine Ev.congr (fun k => by rw [tailraceref10_depth.f, if_neg h0, if_neg h3, if_neg h1, if_neg h10, if_neg h9]) (good false (fun h => by cases h) (fun _ => by simp [depthB, d0, d3, h9, h1, h10]))
end Go.Proofs.Ytnjlonenckifpaa.X
namespace Go.Proofs.Ytnjlonenckifpaa.X
set_option linter.unusedVariables false
set_option linter.unusedSimpArgs false
open Go.RowKit Go.Proofs.YtnjlonenckifpaaW.PrintWords Go.Proofs.YtnjlonenckifpaaW.PrintLast Go.Proofs.YtnjlonenckifpaaW.PrintMore
def nodeI (G : List S39) (i : Int) : Int :=
  if i < 0 ∨ (G.length : Int) ≤ i then 2
  else if numB (rd_T39 G i).f0 (rd_T39 G i).f1 (rd_T39 G i).f2 = false then 130
  else if portsB G (rd_T39 G i).f0 (rd_T39 G i).f4 = false then 100
  else if depthB G (rd_T39 G i).f0 (rd_T39 G i).f3 (rd_T39 G i).f4 = false then 101
  else 0
theorem ports_in {G : List S39} {k : Int} {l : List Int} (h : portsB G k l = true) : l.all (inRange G) = true := by
  simp only [portsB, Bool.and_eq_true, Bool.not_eq_true'] at h
  rw [List.all_eq_true]
  intro x hx
  have := List.any_eq_false.1 h.2 x hx
  simp only [wrongIn, Bool.or_eq_true, decide_eq_true_eq, not_or] at this
  simp only [inRange, Bool.and_eq_true, decide_eq_true_eq]
  omega
theorem small_len {G : List S39} (h : small G = true) : G.length ≤ 64 := by simp [small] at h; exact h.1
theorem small_in {G : List S39} (h : small G = true) (i : Int) : (rd_T39 G i).f4.length ≤ 64 := by
  simp only [small, Bool.and_eq_true, List.all_eq_true, decide_eq_true_eq] at h
  unfold rd_T39
  by_cases hi : i.toNat < G.length
  · rw [List.getD_eq_getElem?_getD, List.getElem?_eq_getElem hi]
    exact h.2 _ (List.getElem_mem hi)
  · rw [List.getD_eq_getElem?_getD, List.getElem?_eq_none (by omega)]
    simp [z39]
theorem node_ev (G : List S39) (i : Int) : Ev (fun k => check_Node.f k G i) (nodeI G i) := by
  unfold nodeI
  by_cases h0 : i < 0
  · rw [if_pos (.inl h0)]
    exact Ev.congr (fun k => by rw [check_Node.f, if_pos h0]) (Ev.step (f := fun _ => some 2) (fun k => by rw [check_Node.j0, if_pos rfl]) (Ev.now _))
  by_cases h1 : (G.length : Int) ≤ i
  · rw [if_pos (.inr h1)]
    exact Ev.congr (fun k => by rw [check_Node.f, if_neg h0]) (Ev.step (f := fun _ => some 2) (fun k => by rw [check_Node.j0, if_pos (decide_eq_true h1)]) (Ev.now _))
  rw [if_neg (by omega)]
  refine Ev.congr (fun k => by rw [check_Node.f, if_neg h0]) ?_
  cases hN : numB (rd_T39 G i).f0 (rd_T39 G i).f1 (rd_T39 G i).f2 with
  | false => exact Ev.step (f := fun _ => some 130) (fun k => by rw [check_Node.j0, if_neg (by simpa using h1), if_pos (by omega), if_pos (by omega)]; simp [check_numbers.f, hN]) (Ev.now _)
  | true =>
    rw [if_neg (by simp)]
    cases hP : portsB G (rd_T39 G i).f0 (rd_T39 G i).f4 with
    | false => exact Ev.step (f := fun _ => some 100) (fun k => by rw [check_Node.j0, if_neg (by simpa using h1), if_pos (by omega), if_pos (by omega)]; simp [check_numbers.f, hN, check_ports.f, hP]) (Ev.now _)
    | true =>
      have hin := ports_in hP
      rw [if_neg (by simp)]
      cases hD : depthB G (rd_T39 G i).f0 (rd_T39 G i).f3 (rd_T39 G i).f4 with
      | false => exact Ev.step (f := fun _ => some 101) (fun k => by rw [check_Node.j0, if_neg (by simpa using h1), if_pos (by omega), if_pos (by omega)]; simp only [check_numbers.f, hN, check_ports.f, hP, check_depth.f, hin, hD, Option.bind_some, if_true]; simp) (Ev.now _)
      | true => exact Ev.step (f := fun _ => some 0) (fun k => by rw [check_Node.j0, if_neg (by simpa using h1), if_pos (by omega), if_pos (by omega)]; simp only [check_numbers.f, hN, check_ports.f, hP, check_depth.f, hin, hD, Option.bind_some, if_true]) (by rw [if_neg (by simp)]; exact Ev.now _)
theorem ref_node_ev (G : List S39) (hs : small G = true) (i : Int) : Ev (fun k => tailraceref10_Node.f k G i) (nodeI G i) := by
  unfold nodeI
  by_cases h0 : i < 0
  · rw [if_pos (.inl h0)]
    exact Ev.congr (fun k => by rw [tailraceref10_Node.f, if_pos h0]) (Ev.step (f := fun _ => some 2) (fun k => by rw [tailraceref10_Node.j0, if_pos rfl]) (Ev.now _))
  by_cases h1 : (G.length : Int) ≤ i
  · rw [if_pos (.inr h1)]
    exact Ev.congr (fun k => by rw [tailraceref10_Node.f, if_neg h0]) (Ev.step (f := fun _ => some 2) (fun k => by rw [tailraceref10_Node.j0, if_pos (decide_eq_true h1)]) (Ev.now _))
  rw [if_neg (by omega)]
  refine Ev.congr (fun k => by rw [tailraceref10_Node.f, if_neg h0]) ?_
  refine Ev.step (f := fun k => (tailraceref10_numbers.f ((rd_T39 G i).f0) ((rd_T39 G i).f1) ((rd_T39 G i).f2) ((rd_T39 G i).f3) ((rd_T39 G i).f4)).bind fun t195 => (if t195 = true then ((tailraceref10_ports.f k G ((rd_T39 G i).f0) ((rd_T39 G i).f1) ((rd_T39 G i).f2) ((rd_T39 G i).f3) ((rd_T39 G i).f4)).bind fun t197 => (if t197 = true then ((tailraceref10_depth.f k G ((rd_T39 G i).f0) ((rd_T39 G i).f1) ((rd_T39 G i).f2) ((rd_T39 G i).f3) ((rd_T39 G i).f4)).bind fun t199 => (if t199 = true then (some 0) else (some 101))) else (some 100))) else (some 130)))
    (fun k => by rw [tailraceref10_Node.j0, if_neg (by simpa using h1), if_pos (by omega), if_pos (by omega)]) ?_
  simp only [ref_numbers, Option.bind_some]
  cases hN : numB (rd_T39 G i).f0 (rd_T39 G i).f1 (rd_T39 G i).f2 with
  | false => simpa using Ev.now (130 : Int)
  | true =>
    simp only [if_true, Bool.true_eq_false, if_false]
    have hp := ref_ports G (small_len hs) (rd_T39 G i).f0 (rd_T39 G i).f1 (rd_T39 G i).f2 (rd_T39 G i).f3 (rd_T39 G i).f4 (small_in hs i)
    refine Ev.bind hp ?_
    cases hP : portsB G (rd_T39 G i).f0 (rd_T39 G i).f4 with
    | false => simpa using Ev.now (100 : Int)
    | true =>
      simp only [if_true, Bool.true_eq_false, if_false]
      have hd := ref_depth G (small_len hs) (rd_T39 G i).f0 (rd_T39 G i).f1 (rd_T39 G i).f2 (rd_T39 G i).f3 (rd_T39 G i).f4 (small_in hs i) (ports_in hP)
      refine Ev.bind hd ?_
      cases hD : depthB G (rd_T39 G i).f0 (rd_T39 G i).f3 (rd_T39 G i).f4 with
      | false => simpa using Ev.now (101 : Int)
      | true => simpa using Ev.now (0 : Int)
def mayAt (n : S39) : Bool := mayB n.f3 n.f4
def putE (G : List S39) : Int := if G.length < 1 ∨ 32 < G.length then 3 else if G.all mayAt = true then 0 else 90
def EvE (g : Nat → Option (List Int × Int)) (e : Int) : Prop := ∃ b, Ev g (b, e)
theorem EvE.step {g f : Nat → Option (List Int × Int)} {e : Int} (h : ∀ k, g (k + 1) = f k) (k : EvE f e) : EvE g e := let ⟨b, hb⟩ := k; ⟨b, Ev.step h hb⟩
theorem EvE.congr {g f : Nat → Option (List Int × Int)} {e : Int} (h : ∀ k, g k = f k) (k : EvE f e) : EvE g e := let ⟨b, hb⟩ := k; ⟨b, Ev.congr h hb⟩
theorem EvE.now (b : List Int) (e : Int) : EvE (fun _ => some (b, e)) e := ⟨b, Ev.now _⟩
theorem put_l2 (G : List S39) (cnt at_ : Int) (l : List Int) (hl : l.length ≤ 64) (e : Int) : ∀ (dd q : Nat) (b : List Int), q + dd = l.length → b.length + dd ≤ 1000000 →
    (∀ b', b'.length ≤ b.length + dd → EvE (fun k => flow_Put.l0 k b' G cnt (wrap64 (at_ + 1))) e) → EvE (fun k => flow_Put.l2 k b G cnt at_ l (l.length : Int) (q : Int)) e
  | 0, q, b, hq, hb, h => EvE.step (fun k => by rw [flow_Put.l2, if_neg (by omega)]) (h b (by omega))
  | dd + 1, q, b, hq, hb, h => by
    refine EvE.step (f := fun k => flow_Put.l2 k (b ++ [(rd l (q : Int)) % 256]) G cnt at_ l (l.length : Int) ((q + 1 : Nat) : Int)) (fun k => ?_) (put_l2 G cnt at_ l hl e dd (q + 1) _ (by omega) (by simp; omega) (fun b' hb' => h b' (by simp at hb'; omega)))
    rw [flow_Put.l2, if_pos (by omega), if_pos (by omega), if_pos (by omega), if_pos (by omega), wrap_small (by omega) (by omega)]
    rfl
theorem put_l1 (G : List S39) (cnt at_ a b_ c d : Int) (l : List Int) (hl : l.length ≤ 64) (e : Int) : ∀ (dd : Nat) (b : List Int), dd ≤ 8 → b.length + dd + 70 ≤ 1000000 →
    (∀ b', b'.length ≤ b.length + dd + 66 → EvE (fun k => flow_Put.l0 k b' G cnt (wrap64 (at_ + 1))) e) → EvE (fun k => flow_Put.l1 k b ((dd : Int) * 8 - 8) G cnt at_ a b_ c d l) e
  | 0, b, hd, hb, h => by
    refine EvE.step (f := fun k => flow_Put.l2 k (b ++ [d % 256, (l.length : Int) % 256]) G cnt at_ l (l.length : Int) ((0 : Nat) : Int)) (fun k => ?_) (put_l2 G cnt at_ l hl e l.length 0 _ (by omega) (by simp; omega) (fun b' hb' => h b' (by simp at hb'; omega)))
    rw [flow_Put.l1, if_neg (by omega)]
    simp only [Option.bind_some, List.length_cons, List.length_nil]
    rw [if_pos (by omega)]
    rfl
  | dd + 1, b, hd, hb, h => by
    have ih := put_l1 G cnt at_ a b_ c d l hl e dd (b ++ [(shr .i64 c (((dd + 1 : Nat) : Int) * 8 - 8)) % 256]) (by omega) (by simp; omega) (fun b' hb' => h b' (by simp at hb'; omega))
    refine EvE.step (fun k => ?_) ih
    rw [flow_Put.l1, if_pos (by omega), if_pos (by omega), if_pos (by omega), wrap_small (by omega) (by omega)]
    congr 1
    omega
theorem put_l0 (G : List S39) (hs : small G = true) : ∀ (dd q : Nat) (b : List Int), q + dd = G.length → b.length + dd * 100 ≤ 900000 →
    EvE (fun k => flow_Put.l0 k b G (G.length : Int) (q : Int)) (if (G.drop q).all mayAt = true then 0 else 90)
  | 0, q, b, hq, hb => by
    rw [List.drop_eq_nil_of_le (by omega)]
    exact EvE.step (f := fun _ => some (b, 0)) (fun k => by rw [flow_Put.l0, if_neg (by omega)]) (EvE.now _ _)
  | dd + 1, q, b, hq, hb => by
    have hlt : q < G.length := by omega
    have hGl := small_len hs
    have hd : G.drop q = rd_T39 G (q : Int) :: G.drop (q + 1) := by rw [List.drop_eq_getElem_cons hlt]; simp [rd_T39, hlt]
    rw [hd, List.all_cons]
    cases hm : mayAt (rd_T39 G (q : Int)) with
    | false =>
      refine EvE.step (f := fun _ => some ([], 90)) (fun k => ?_) (EvE.now _ _)
      rw [flow_Put.l0, if_pos (by omega), if_pos (by omega), if_pos (by omega)]
      have hm' : mayB (rd_T39 G (q : Int)).f3 (rd_T39 G (q : Int)).f4 = false := hm
      simp [flow_may.f, hm']
    | true =>
      have hm' : mayB (rd_T39 G (q : Int)).f3 (rd_T39 G (q : Int)).f4 = true := hm
      have ih := fun b' (hb' : b'.length + dd * 100 ≤ 900000) => put_l0 G hs dd (q + 1) b' (by omega) hb'
      have h1 := put_l1 G (G.length : Int) (q : Int) (rd_T39 G (q : Int)).f0 (rd_T39 G (q : Int)).f1 (rd_T39 G (q : Int)).f2 (rd_T39 G (q : Int)).f3 (rd_T39 G (q : Int)).f4 (small_in hs _) (if (G.drop (q + 1)).all mayAt = true then 0 else 90) 8
        (b ++ [(rd_T39 G (q : Int)).f0, (rd_T39 G (q : Int)).f1]) (by omega) (by simp; omega) (fun b' hb' => by
          rw [wrap_small (by omega) (by omega)]
          exact ih b' (by simp at hb'; omega))
      simp only [Bool.true_and]
      refine EvE.step (fun k => ?_) h1
      rw [flow_Put.l0, if_pos (by omega), if_pos (by omega), if_pos (by omega)]
      simp only [flow_may.f, hm', Option.bind_some, if_true, List.length_cons, List.length_nil]
      rw [if_pos (by omega)]
      rfl
theorem put_ev (G : List S39) (hs : small G = true) : EvE (fun k => flow_Put.f k G) (putE G) := by
  unfold putE
  by_cases h1 : G.length < 1
  · rw [if_pos (.inl h1)]
    exact EvE.congr (fun k => by rw [flow_Put.f, if_pos (by omega)]) (EvE.step (f := fun _ => some ([], 3)) (fun k => by rw [flow_Put.j0, if_pos rfl]) (EvE.now _ _))
  by_cases h2 : 32 < G.length
  · rw [if_pos (.inr h2)]
    exact EvE.congr (fun k => by rw [flow_Put.f, if_neg (by omega)]) (EvE.step (f := fun _ => some ([], 3)) (fun k => by rw [flow_Put.j0, if_pos (decide_eq_true (by omega))]) (EvE.now _ _))
  · rw [if_neg (by omega)]
    have := put_l0 G hs G.length 0 [(G.length : Int) % 256] (by omega) (by simp; omega)
    rw [List.drop_zero] at this
    refine EvE.congr (fun k => by rw [flow_Put.f, if_neg (by omega)]) (EvE.step (fun k => ?_) this)
    rw [flow_Put.j0, if_neg (by simp; omega)]
    rfl
end Go.Proofs.Ytnjlonenckifpaa.X
namespace Go.Proofs.Ytnjlonenckifpaa.X
set_option linter.unusedVariables false
set_option linter.unusedSimpArgs false
open Go.RowKit Go.Proofs.YtnjlonenckifpaaW.PrintWords Go.Proofs.YtnjlonenckifpaaW.PrintLast Go.Proofs.YtnjlonenckifpaaW.PrintMore
theorem mayAt_eq (n : S39) : mayAt n = (decide (0 ≤ n.f3) && decide (n.f3 ≤ 3) && decide (n.f4.length ≤ 2) && !n.f4.any badIn) := rfl
theorem rmay_l1 (G : List S39) (hs : small G = true) (a : Nat) (ha : a < G.length) (r : Bool) (hr : ∀ l', l' = !((rd_T39 G (a : Int)).f4).any badIn → l' = true → Ev (fun k => tailraceref09_may.l0 k G (wrap64 ((a : Int) + 1))) r) : ∀ (dd q : Nat), q + dd = (rd_T39 G (a : Int)).f4.length →
    ((rd_T39 G (a : Int)).f4.take q).any badIn = false →
    Ev (fun k => tailraceref09_may.l1 k G (a : Int) (q : Int)) (!((rd_T39 G (a : Int)).f4).any badIn && r)
  | 0, q, hq, ht => by
    have hf : ((rd_T39 G (a : Int)).f4).any badIn = false := by rw [List.take_of_length_le (by omega)] at ht; exact ht
    have h1 := hr true (by rw [hf]; rfl) rfl
    rw [hf]
    refine Ev.step (fun k => ?_) h1
    rw [tailraceref09_may.l1, if_pos (by omega), if_pos (by omega), if_neg (by omega)]
  | dd + 1, q, hq, ht => by
    have hlt : q < (rd_T39 G (a : Int)).f4.length := by omega
    have hl := small_in hs (a : Int)
    have hx : (rd_T39 G (a : Int)).f4[q]? = some ((rd_T39 G (a : Int)).f4.getD q 0) := by simp [hlt]
    cases hb : badIn ((rd_T39 G (a : Int)).f4.getD q 0) with
    | true =>
      have hany : ((rd_T39 G (a : Int)).f4).any badIn = true := List.any_eq_true.2 ⟨_, List.mem_of_getElem? hx, hb⟩
      rw [hany]
      simp only [badIn, Bool.or_eq_true, decide_eq_true_eq] at hb
      by_cases h0 : (rd_T39 G (a : Int)).f4.getD q 0 < 0
      · exact Ev.step (f := fun _ => some false) (fun k => by rw [tailraceref09_may.l1, if_pos (by omega), if_pos (by omega), if_pos (by omega), if_pos (by omega), rd_nat, if_pos h0]) (Ev.now _)
      · exact Ev.step (f := fun _ => some false) (fun k => by rw [tailraceref09_may.l1, if_pos (by omega), if_pos (by omega), if_pos (by omega), if_pos (by omega), rd_nat, if_neg h0, if_pos (by omega)]) (Ev.now _)
    | false =>
      have hb2 := hb
      simp only [badIn, Bool.or_eq_false_iff, decide_eq_false_iff_not] at hb2
      have ih := rmay_l1 G hs a ha r hr dd (q + 1) (by omega) (by rw [any_take_succ badIn _ q _ hx, ht, hb]; rfl)
      refine Ev.step (f := fun k => tailraceref09_may.l1 k G (a : Int) ((q + 1 : Nat) : Int)) (fun k => ?_) ih
      rw [tailraceref09_may.l1, if_pos (by omega), if_pos (by omega), if_pos (by omega), if_pos (by omega), rd_nat, if_neg (by omega), if_neg (by omega), wrap_small (by omega) (by omega)]
      rfl
theorem rmay_l0 (G : List S39) (hs : small G = true) (h1 : 1 ≤ G.length) (h2 : G.length ≤ 32) : ∀ (dd q : Nat), q + dd = G.length → Ev (fun k => tailraceref09_may.l0 k G (q : Int)) ((G.drop q).all mayAt)
  | 0, q, hq => by
    rw [List.drop_eq_nil_of_le (by omega)]
    exact Ev.step (f := fun _ => some true) (fun k => by rw [tailraceref09_may.l0, if_neg (by omega), if_pos (by omega), decide_eq_true (by omega)]) (Ev.now _)
  | dd + 1, q, hq => by
    have hlt : q < G.length := by omega
    have hd : G.drop q = rd_T39 G (q : Int) :: G.drop (q + 1) := by rw [List.drop_eq_getElem_cons hlt]; simp [rd_T39, hlt]
    have ih := rmay_l0 G hs h1 h2 dd (q + 1) (by omega)
    rw [hd, List.all_cons, mayAt_eq]
    have hl1 := rmay_l1 G hs q hlt ((G.drop (q + 1)).all mayAt) (fun l' _ _ => by rw [wrap_small (by omega) (by omega)]; exact ih) (rd_T39 G (q : Int)).f4.length 0 (by omega) (by simp)
    by_cases c1 : (rd_T39 G (q : Int)).f3 < 0
    · rw [show decide (0 ≤ (rd_T39 G (q : Int)).f3) = false from decide_eq_false (by omega)]
      exact Ev.step (f := fun k => tailraceref09_may.j1 k G (q : Int) true) (fun k => by rw [tailraceref09_may.l0, if_pos (by omega), if_pos (by omega), if_pos c1]) (Ev.step (f := fun _ => some false) (fun k => by rw [tailraceref09_may.j1, if_pos rfl]) (by simpa using Ev.now false))
    by_cases c2 : (rd_T39 G (q : Int)).f3 > 3
    · rw [show decide ((rd_T39 G (q : Int)).f3 ≤ 3) = false from decide_eq_false (by omega)]
      exact Ev.step (f := fun k => tailraceref09_may.j1 k G (q : Int) true) (fun k => by rw [tailraceref09_may.l0, if_pos (by omega), if_pos (by omega), if_neg c1, if_pos c2]) (Ev.step (f := fun _ => some false) (fun k => by rw [tailraceref09_may.j1, if_pos rfl]) (by simpa using Ev.now false))
    rw [show decide (0 ≤ (rd_T39 G (q : Int)).f3) = true from decide_eq_true (by omega), show decide ((rd_T39 G (q : Int)).f3 ≤ 3) = true from decide_eq_true (by omega)]
    refine Ev.step (f := fun k => tailraceref09_may.j1 k G (q : Int) (decide ((((rd_T39 G (q : Int)).f4).length : Int) > 2))) (fun k => by rw [tailraceref09_may.l0, if_pos (by omega), if_pos (by omega), if_neg c1, if_neg c2]) ?_
    by_cases c3 : (rd_T39 G (q : Int)).f4.length ≤ 2
    · rw [decide_eq_true c3]
      refine Ev.step (fun k => ?_) hl1
      rw [tailraceref09_may.j1, if_neg (by simp; omega)]
      rfl
    · rw [decide_eq_false c3]
      exact Ev.step (f := fun _ => some false) (fun k => by rw [tailraceref09_may.j1, if_pos (decide_eq_true (by omega))]) (by simpa using Ev.now false)
theorem rput_l2 (G : List S39) (at_ a b_ c d : Int) (l : List Int) (hl : l.length ≤ 64) (e : Int) : ∀ (dd q : Nat) (b : List Int), q + dd = l.length → b.length + dd ≤ 1000000 →
    (∀ b', b'.length ≤ b.length + dd → EvE (fun k => tailraceref09_Put.l0 k G b' (wrap64 (at_ + 1))) e) → EvE (fun k => tailraceref09_Put.l2 k G b at_ (q : Int) a b_ c d l) e
  | 0, q, b, hq, hb, h => EvE.step (fun k => by rw [tailraceref09_Put.l2, if_neg (by omega)]) (h b (by omega))
  | dd + 1, q, b, hq, hb, h => by
    refine EvE.step (f := fun k => tailraceref09_Put.l2 k G (b ++ [(rd l (q : Int)) % 256]) at_ ((q + 1 : Nat) : Int) a b_ c d l) (fun k => ?_) (rput_l2 G at_ a b_ c d l hl e dd (q + 1) _ (by omega) (by simp; omega) (fun b' hb' => h b' (by simp at hb'; omega)))
    rw [tailraceref09_Put.l2, if_pos (by omega), if_pos (by omega), if_pos (by omega), wrap_small (by omega) (by omega)]
    rfl
theorem rput_l1 (G : List S39) (at_ a b_ c d : Int) (l : List Int) (hl : l.length ≤ 64) (e : Int) : ∀ (dd : Nat) (b : List Int), dd ≤ 8 → b.length + dd + 70 ≤ 1000000 →
    (∀ b', b'.length ≤ b.length + dd + 66 → EvE (fun k => tailraceref09_Put.l0 k G b' (wrap64 (at_ + 1))) e) → EvE (fun k => tailraceref09_Put.l1 k G b at_ ((dd : Int) - 1) a b_ c d l) e
  | 0, b, hd, hb, h => by
    refine EvE.step (f := fun k => tailraceref09_Put.l2 k G (b ++ [d % 256, (l.length : Int) % 256]) at_ ((0 : Nat) : Int) a b_ c d l) (fun k => ?_) (rput_l2 G at_ a b_ c d l hl e l.length 0 _ (by omega) (by simp; omega) (fun b' hb' => h b' (by simp at hb'; omega)))
    rw [tailraceref09_Put.l1, if_neg (by omega)]
    simp only [Option.bind_some, List.length_cons, List.length_nil]
    rw [if_pos (by omega)]
    rfl
  | dd + 1, b, hd, hb, h => by
    have hw : wrap64 (8 * (((dd + 1 : Nat) : Int) - 1)) = 8 * (((dd + 1 : Nat) : Int) - 1) := wrap_small (by omega) (by omega)
    have ih := rput_l1 G at_ a b_ c d l hl e dd (b ++ [(shr .u64 (IntKind.u64.wrap c) (wrap64 (8 * (((dd + 1 : Nat) : Int) - 1)))) % 256]) (by omega) (by simp; omega) (fun b' hb' => h b' (by simp at hb'; omega))
    refine EvE.step (fun k => ?_) ih
    rw [tailraceref09_Put.l1, if_pos (by omega), if_pos (by rw [hw]; omega), if_pos (by omega), wrap_small (x := ((dd + 1 : Nat) : Int) - 1 - 1) (by omega) (by omega)]
    congr 1
    omega
theorem rput_l0 (G : List S39) (hs : small G = true) : ∀ (dd q : Nat) (b : List Int), q + dd = G.length → b.length + dd * 100 ≤ 900000 →
    EvE (fun k => tailraceref09_Put.l0 k G b (q : Int)) 0
  | 0, q, b, hq, hb => EvE.step (f := fun _ => some (b, 0)) (fun k => by rw [tailraceref09_Put.l0, if_neg (by omega)]) (EvE.now _ _)
  | dd + 1, q, b, hq, hb => by
    have hlt : q < G.length := by omega
    have hGl := small_len hs
    have ih := fun b' (hb' : b'.length + dd * 100 ≤ 900000) => rput_l0 G hs dd (q + 1) b' (by omega) hb'
    have h1 := rput_l1 G (q : Int) (rd_T39 G (q : Int)).f0 (rd_T39 G (q : Int)).f1 (rd_T39 G (q : Int)).f2 (rd_T39 G (q : Int)).f3 (rd_T39 G (q : Int)).f4 (small_in hs _) 0 8
      (b ++ [(rd_T39 G (q : Int)).f0, (rd_T39 G (q : Int)).f1]) (by omega) (by simp; omega) (fun b' hb' => by
        rw [wrap_small (by omega) (by omega)]
        exact ih b' (by simp at hb'; omega))
    refine EvE.step (fun k => ?_) h1
    rw [tailraceref09_Put.l0, if_pos (by omega), if_pos (by omega)]
    simp only [Option.bind_some, List.length_cons, List.length_nil]
    rw [if_pos (by omega)]
    rfl
theorem rput_ev (G : List S39) (hs : small G = true) : EvE (fun k => tailraceref09_Put.f k G) (putE G) := by
  unfold putE
  by_cases h1 : G.length < 1
  · rw [if_pos (.inl h1)]
    exact EvE.congr (fun k => by rw [tailraceref09_Put.f, if_pos (by omega)]) (EvE.step (f := fun _ => some ([], 3)) (fun k => by rw [tailraceref09_Put.j0, if_pos rfl]) (EvE.now _ _))
  by_cases h2 : 32 < G.length
  · rw [if_pos (.inr h2)]
    exact EvE.congr (fun k => by rw [tailraceref09_Put.f, if_neg (by omega)]) (EvE.step (f := fun _ => some ([], 3)) (fun k => by rw [tailraceref09_Put.j0, if_pos (decide_eq_true (by omega))]) (EvE.now _ _))
  · rw [if_neg (by omega)]
    have hm := rmay_l0 G hs (by omega) (by omega) G.length 0 (by omega)
    rw [List.drop_zero] at hm
    have hm' : Ev (fun k => tailraceref09_may.f k G) (G.all mayAt) := hm
    refine EvE.congr (fun k => by rw [tailraceref09_Put.f, if_neg (by omega)]) (EvE.step (f := fun k => (tailraceref09_may.f k G).bind fun t215 => (if t215 = true then (tailraceref09_Put.l0 k G (([((G.length : Int)) % 256] : List Int)) 0) else (some (([] : List Int), 90)))) (fun k => ?_) ?_)
    · rw [tailraceref09_Put.j0, if_neg (by simp; omega)]
    · cases ha : G.all mayAt with
      | true =>
        obtain ⟨b, hb⟩ := rput_l0 G hs G.length 0 [(G.length : Int) % 256] (by omega) (by simp; omega)
        rw [ha] at hm'
        exact ⟨b, Ev.bind hm' (by simpa using hb)⟩
      | false =>
        rw [ha] at hm'
        exact ⟨[], Ev.bind hm' (by simpa using Ev.now (([], 90) : List Int × Int))⟩
end Go.Proofs.Ytnjlonenckifpaa.X
namespace Go.Proofs.Ytnjlonenckifpaa.X
set_option linter.unusedVariables false
set_option linter.unusedSimpArgs false
open Go.RowKit Go.Proofs.YtnjlonenckifpaaW.PrintWords Go.Proofs.YtnjlonenckifpaaW.PrintLast Go.Proofs.YtnjlonenckifpaaW.PrintMore
inductive Way {α : Type} (r : α → α → Prop) : α → α → Prop
  | one {a b : α} : r a b → Way r a b
  | cons {a b c : α} : r a b → Way r b c → Way r a c
theorem Way.trans {α : Type} {r : α → α → Prop} {a b c : α} (h : Way r a b) (k : Way r b c) : Way r a c := by
  induction h with
  | one h => exact .cons h k
  | cons h _ ih => exact .cons h (ih k)
theorem Way.snoc {α : Type} {r : α → α → Prop} {a b c : α} (h : Way r a b) (k : r b c) : Way r a c := h.trans (.one k)
section
variable {n : Nat} {E : Nat → Nat → Bool}
def Cl (E : Nat → Nat → Bool) : Nat → Nat → Nat → Prop
  | 0, a, b => E a b = true
  | K + 1, a, b => Cl E K a b ∨ (Cl E K a K ∧ Cl E K K b)
theorem Cl.trans {E : Nat → Nat → Bool} : ∀ (K : Nat) {a m b : Nat}, m < K → Cl E K a m → Cl E K m b → Cl E K a b
  | 0, a, m, b, h, _, _ => absurd h (Nat.not_lt_zero _)
  | K + 1, a, m, b, h, h1, h2 => by
    by_cases e : m = K
    · subst e
      have g1 : Cl E m a m := h1.elim id (·.1)
      have g2 : Cl E m m b := h2.elim id (·.2)
      exact .inr ⟨g1, g2⟩
    · have hm : m < K := by omega
      rcases h1 with h1 | ⟨h1, h1'⟩
      · rcases h2 with h2 | ⟨h2, h2'⟩
        · exact .inl (Cl.trans K hm h1 h2)
        · exact .inr ⟨Cl.trans K hm h1 h2, h2'⟩
      · rcases h2 with h2 | ⟨h2, h2'⟩
        · exact .inr ⟨h1, Cl.trans K hm h1' h2⟩
        · exact .inr ⟨h1, h2'⟩
theorem Cl.mono {E : Nat → Nat → Bool} {a b : Nat} (h : E a b = true) : ∀ K, Cl E K a b
  | 0 => h
  | K + 1 => .inl (Cl.mono h K)
def Edge (n : Nat) (E : Nat → Nat → Bool) (a b : Nat) : Prop := a < n ∧ b < n ∧ E a b = true
theorem Cl.of_way {a b : Nat} (h : Way (Edge n E) a b) : Cl E n a b := by
  induction h with
  | one h => exact Cl.mono h.2.2 n
  | cons h _ ih => exact Cl.trans n h.2.1 (Cl.mono h.2.2 n) ih
def Sound (n : Nat) (E M : Nat → Nat → Bool) : Prop := ∀ a b, a < n → b < n → M a b = true → Way (Edge n E) a b
def Grows (M M' : Nat → Nat → Bool) : Prop := ∀ a b, M a b = true → M' a b = true
theorem stepJ_sound {M : Nat → Nat → Bool} {k i j : Nat} (h : Sound n E M) (hk : k < n) (hi : i < n) (hj : j < n) : Sound n E (stepJ k i M j) := by
  intro a b ha hb hm
  unfold stepJ upd2 at hm
  split at hm
  · rename_i e
    obtain ⟨rfl, rfl⟩ := e
    rw [Bool.or_eq_true, Bool.and_eq_true] at hm
    rcases hm with hm | ⟨h1, h2⟩
    · exact h _ _ ha hb hm
    · exact (h _ _ ha hk h1).trans (h _ _ hk hb h2)
  · exact h _ _ ha hb hm
theorem stepJ_grows (M : Nat → Nat → Bool) (k i j : Nat) : Grows M (stepJ k i M j) := by
  intro a b hm
  unfold stepJ upd2
  split
  · rename_i e
    obtain ⟨rfl, rfl⟩ := e
    rw [hm, Bool.true_or]
  · exact hm
theorem Grows.trans {A B C : Nat → Nat → Bool} (h : Grows A B) (k : Grows B C) : Grows A C := fun a b x => k a b (h a b x)
theorem Grows.refl (A : Nat → Nat → Bool) : Grows A A := fun _ _ x => x
theorem rows_spec {k i : Nat} (hk : k < n) (hi : i < n) : ∀ (m : Nat), m ≤ n → ∀ M, Sound n E M → Sound n E ((List.range m).foldl (stepJ k i) M) ∧ Grows M ((List.range m).foldl (stepJ k i) M) ∧ ∀ j, j < m → M i k = true → M k j = true → (List.range m).foldl (stepJ k i) M i j = true
  | 0, _, M, h => ⟨h, Grows.refl _, fun j hj => absurd hj (Nat.not_lt_zero _)⟩
  | m + 1, hm, M, h => by
    obtain ⟨h1, h2, h3⟩ := rows_spec hk hi m (by omega) M h
    rw [fold_range_succ]
    refine ⟨stepJ_sound h1 hk hi (by omega), h2.trans (stepJ_grows _ _ _ _), fun j hj a b => ?_⟩
    by_cases e : j = m
    · subst e
      have e1 := h2 _ _ a
      have e2 := h2 _ _ b
      generalize (List.range j).foldl (stepJ k i) M = M' at e1 e2 ⊢
      unfold stepJ upd2
      rw [if_pos ⟨rfl, rfl⟩, e1, e2, Bool.and_true, Bool.or_true]
    · exact stepJ_grows _ _ _ _ _ _ (h3 j (by omega) a b)
theorem cols_spec {k : Nat} (hk : k < n) : ∀ (m : Nat), m ≤ n → ∀ M, Sound n E M → Sound n E ((List.range m).foldl (rowW n k) M) ∧ Grows M ((List.range m).foldl (rowW n k) M) ∧ ∀ i j, i < m → j < n → M i k = true → M k j = true → (List.range m).foldl (rowW n k) M i j = true
  | 0, _, M, h => ⟨h, Grows.refl _, fun i j hi => absurd hi (Nat.not_lt_zero _)⟩
  | m + 1, hm, M, h => by
    obtain ⟨h1, h2, h3⟩ := cols_spec hk m (by omega) M h
    rw [fold_range_succ]
    obtain ⟨g1, g2, g3⟩ := rows_spec (E := E) hk (show m < n by omega) n (Nat.le_refl _) _ h1
    refine ⟨g1, h2.trans g2, fun i j hi hj a b => ?_⟩
    by_cases e : i = m
    · subst e
      exact g3 j hj (h2 _ _ a) (h2 _ _ b)
    · exact g2 _ _ (h3 i j (by omega) hj a b)
theorem wsh_spec : ∀ (m : Nat), m ≤ n → Sound n E ((List.range m).foldl (colW n) E) ∧ ∀ a b, a < n → b < n → Cl E m a b → (List.range m).foldl (colW n) E a b = true
  | 0, _ => ⟨fun a b ha hb h => .one ⟨ha, hb, h⟩, fun a b _ _ h => h⟩
  | m + 1, hm => by
    obtain ⟨h1, h2⟩ := wsh_spec m (by omega)
    rw [fold_range_succ]
    obtain ⟨g1, g2, g3⟩ := cols_spec (E := E) (show m < n by omega) n (Nat.le_refl _) _ h1
    refine ⟨g1, fun a b ha hb h => ?_⟩
    rcases h with h | ⟨h, h'⟩
    · exact g2 _ _ (h2 a b ha hb h)
    · exact g3 a b ha hb (h2 a m ha (by omega) h) (h2 m b (by omega) hb h')
theorem wsh_way {a b : Nat} (ha : a < n) (hb : b < n) : wsh n E a b = true ↔ Way (Edge n E) a b :=
  ⟨(wsh_spec n (Nat.le_refl _)).1 a b ha hb, fun h => (wsh_spec n (Nat.le_refl _)).2 a b ha hb (Cl.of_way h)⟩
end
def StepG (G : List S39) (least : Int) : Nat → Nat → Prop := Edge G.length (edgeM G least)
def feeds (G : List S39) (a b : Nat) : Prop := (a : Int) ∈ (rd_T39 G (b : Int)).f4
def depthAt (G : List S39) (a : Nat) : Int := (rd_T39 G (a : Int)).f3
theorem stepG_iff (G : List S39) (least : Int) (a b : Nat) : StepG G least a b ↔ a < G.length ∧ b < G.length ∧ feeds G a b ∧ staysAt G least a = true ∧ staysAt G least b = true := by
  unfold StepG Edge edgeM rowF
  rw [Bool.and_eq_true, Bool.and_eq_true, toL_has]
  constructor
  · rintro ⟨ha, hb, ⟨nd, h1, h2⟩, h3, h4⟩
    exact ⟨ha, hb, by unfold feeds rd_T39; simp [h1]; exact h2, h3, h4⟩
  · rintro ⟨ha, hb, h, h3, h4⟩
    refine ⟨ha, hb, ⟨G[b], List.getElem?_eq_getElem hb, ?_⟩, h3, h4⟩
    unfold feeds rd_T39 at h
    simpa [hb] using h
def Bad (G : List S39) (least : Int) (i : Nat) : Prop := ∃ j, j < G.length ∧ depthAt G j = least ∧ Way (StepG G least) i j ∧ Way (StepG G least) j i
theorem way_lt {G : List S39} {least : Int} {a b : Nat} (h : Way (StepG G least) a b) : a < G.length ∧ b < G.length := by
  induction h with
  | one h => exact ⟨h.1, h.2.1⟩
  | cons h _ ih => exact ⟨h.1, ih.2⟩
theorem stuckAt_iff (G : List S39) (least i : Nat) (hi : i < G.length) : stuckAt G least i = true ↔ Bad G (least : Int) i := by
  unfold stuckAt Bad
  rw [List.any_eq_true]
  constructor
  · rintro ⟨x, hx, h⟩
    obtain ⟨j, hj, rfl⟩ := placesL_mem hx
    unfold backB at h
    rw [Bool.and_eq_true, Bool.and_eq_true, Int.toNat_natCast] at h
    exact ⟨j, hj, by simpa [depthAt] using h.1, (wsh_way hi hj).1 h.2.1, (wsh_way hj hi).1 h.2.2⟩
  · rintro ⟨j, hj, hd, h1, h2⟩
    refine ⟨(j : Int), List.mem_map.2 ⟨j, List.mem_range.2 hj, rfl⟩, ?_⟩
    unfold backB
    rw [Bool.and_eq_true, Bool.and_eq_true, Int.toNat_natCast]
    exact ⟨by simpa [depthAt] using hd, (wsh_way hi hj).2 h1, (wsh_way hj hi).2 h2⟩
def StepD (G : List S39) (least : Int) (p q : Nat × Bool) : Prop :=
  p.1 < G.length ∧ q.1 < G.length ∧ feeds G p.1 q.1 ∧ staysAt G least q.1 = true ∧ q.2 = (p.2 || depthAt G q.1 == least)
theorem wayD_down {G : List S39} {least : Int} {p q : Nat × Bool} (h : Way (StepD G least) p q) : staysAt G least p.1 = true →
    Way (StepG G least) p.1 q.1 ∧ (q.2 = true → p.2 = true ∨ ∃ j, depthAt G j = least ∧ Way (StepG G least) p.1 j ∧ (j = q.1 ∨ Way (StepG G least) j q.1)) := by
  induction h with
  | one h =>
    intro hs
    obtain ⟨h1, h2, h3, h4, h5⟩ := h
    have hst := (stepG_iff G least _ _).2 ⟨h1, h2, h3, hs, h4⟩
    refine ⟨.one hst, fun ht => ?_⟩
    rw [h5, Bool.or_eq_true] at ht
    rcases ht with ht | ht
    · exact .inl ht
    · exact .inr ⟨_, by simpa using ht, .one hst, .inl rfl⟩
  | cons h _ ih =>
    intro hs
    obtain ⟨h1, h2, h3, h4, h5⟩ := h
    have hst := (stepG_iff G least _ _).2 ⟨h1, h2, h3, hs, h4⟩
    obtain ⟨g1, g2⟩ := ih h4
    refine ⟨.cons hst g1, fun ht => ?_⟩
    rcases g2 ht with ht | ⟨j, hj, w1, w2⟩
    · rw [h5, Bool.or_eq_true] at ht
      rcases ht with ht | ht
      · exact .inl ht
      · exact .inr ⟨_, by simpa using ht, .one hst, .inr g1⟩
    · exact .inr ⟨j, hj, .cons hst w1, w2⟩
theorem wayD_up {G : List S39} {least : Int} {a b : Nat} (h : Way (StepG G least) a b) : ∀ f : Bool, ∃ f' : Bool, Way (StepD G least) (a, f) (b, f') ∧ (f = true → f' = true) ∧ (depthAt G b = least → f' = true) := by
  induction h with
  | @one a b h =>
    intro f
    obtain ⟨h1, h2, h3, h4, h5⟩ := (stepG_iff G least _ _).1 h
    refine ⟨f || depthAt G b == least, .one ⟨h1, h2, h3, h5, rfl⟩, fun e => by rw [e]; rfl, fun e => by rw [e]; simp⟩
  | @cons a m b h _ ih =>
    intro f
    obtain ⟨h1, h2, h3, h4, h5⟩ := (stepG_iff G least _ _).1 h
    obtain ⟨f', w, g1, g2⟩ := ih (f || depthAt G m == least)
    exact ⟨f', .cons ⟨h1, h2, h3, h5, rfl⟩ w, fun e => g1 (by rw [e]; rfl), g2⟩
theorem bad_iff (G : List S39) (least : Int) (i : Nat) (hi : i < G.length) (hs : staysAt G least i = true) :
    Bad G least i ↔ Way (StepD G least) (i, depthAt G i == least) (i, true) := by
  constructor
  · rintro ⟨j, hj, hd, w1, w2⟩
    obtain ⟨f1, v1, _, g1⟩ := wayD_up w1 (depthAt G i == least)
    obtain ⟨f2, v2, g2, _⟩ := wayD_up w2 f1
    have := g2 (g1 hd)
    subst this
    exact v1.trans v2
  · intro h
    obtain ⟨g1, g2⟩ := wayD_down h hs
    rcases g2 rfl with e | ⟨j, hj, w1, w2⟩
    · exact ⟨i, hi, by simpa using e, g1, g1⟩
    · rcases w2 with rfl | w2
      · exact ⟨_, hi, hj, w1, w1⟩
      · exact ⟨j, (way_lt w1).2, hj, w1, w2⟩
theorem bad_stays {G : List S39} {least : Int} {i : Nat} (h : Bad G least i) : staysAt G least i = true := by
  obtain ⟨j, _, _, w, _⟩ := h
  cases w with
  | one h => exact ((stepG_iff _ _ _ _).1 h).2.2.2.1
  | cons h _ => exact ((stepG_iff _ _ _ _).1 h).2.2.2.1
theorem stays_depth {G : List S39} {least : Int} {i : Nat} (h : staysAt G least i = true) : least ≤ depthAt G i := by
  unfold staysAt staysB at h
  simp only [Bool.or_eq_true, decide_eq_true_eq, Bool.and_eq_true, beq_iff_eq] at h
  unfold depthAt
  omega
end Go.Proofs.Ytnjlonenckifpaa.X
namespace Go.Proofs.Ytnjlonenckifpaa.X
set_option linter.unusedVariables false
set_option linter.unusedSimpArgs false
open Go.RowKit Go.Proofs.YtnjlonenckifpaaW.PrintWords Go.Proofs.YtnjlonenckifpaaW.PrintLast Go.Proofs.YtnjlonenckifpaaW.PrintMore
def conv (p : S69) : S65 := ⟨p.f0, p.f1⟩
theorem rto_l1 (G : List S39) (i : Int) (a : Nat) (ha : a < G.length) (hs : small G = true) (r : List S65) : ∀ (d q : Nat) (out : List S65), q + d = (rd_T39 G (a : Int)).f4.length → out.length + d ≤ 1000000 →
    Ev (fun k => tailraceref09_To.l0 k G i (out ++ (portsOf i (a : Int) ((rd_T39 G (a : Int)).f4.drop q) (q : Int)).map conv) (wrap64 ((a : Int) + 1))) r → Ev (fun k => tailraceref09_To.l1 k G i out (a : Int) (q : Int)) r
  | 0, q, out, hq, _, h => by
    rw [List.drop_eq_nil_of_le (by omega)] at h
    simp only [portsOf, List.map_nil, List.append_nil] at h
    exact Ev.step (fun k => by rw [tailraceref09_To.l1, if_pos (by omega), if_pos (by omega), if_neg (by omega)]) h
  | d + 1, q, out, hq, hout, h => by
    have hl := small_in hs (a : Int)
    have hlt : q < (rd_T39 G (a : Int)).f4.length := by omega
    rw [drop_cons _ q hlt, portsOf] at h
    by_cases hx : (rd_T39 G (a : Int)).f4.getD q 0 = i
    · rw [if_pos hx] at h
      have ih := rto_l1 G i a ha hs r d (q + 1) (out ++ [⟨(a : Int), (q : Int)⟩]) (by omega) (by simp; omega) (by
        rw [List.append_assoc]
        exact h)
      refine Ev.step (fun k => ?_) ih
      rw [tailraceref09_To.l1, if_pos (by omega), if_pos (by omega), if_pos (by omega), if_pos (by omega), rd_nat, if_pos hx, if_pos (by omega), wrap_small (by omega) (by omega)]
      rfl
    · rw [if_neg hx] at h
      have ih := rto_l1 G i a ha hs r d (q + 1) out (by omega) (by omega) h
      refine Ev.step (fun k => ?_) ih
      rw [tailraceref09_To.l1, if_pos (by omega), if_pos (by omega), if_pos (by omega), if_pos (by omega), rd_nat, if_neg hx, wrap_small (by omega) (by omega)]
      rfl
theorem rto_l0 (G : List S39) (i : Int) (hs : small G = true) : ∀ (d a : Nat) (out : List S65), a + d = G.length → out.length + d * 64 ≤ 900000 →
    Ev (fun k => tailraceref09_To.l0 k G i out (a : Int)) (out ++ (toFrom i (G.drop a) (a : Int)).map conv)
  | 0, a, out, ha, _ => by
    rw [List.drop_eq_nil_of_le (by omega)]
    refine Ev.step (f := fun _ => some out) (fun k => by rw [tailraceref09_To.l0, if_neg (by omega)]) ?_
    simpa [toFrom] using Ev.now out
  | d + 1, a, out, ha, hout => by
    have hlt : a < G.length := by omega
    have hGl := small_len hs
    have hl := small_in hs (a : Int)
    have hp := portsOf_length i (a : Int) ((rd_T39 G (a : Int)).f4) 0
    have hd : G.drop a = rd_T39 G (a : Int) :: G.drop (a + 1) := by rw [List.drop_eq_getElem_cons hlt]; simp [rd_T39, hlt]
    rw [hd, toFrom, List.map_append, ← List.append_assoc]
    have ih := rto_l0 G i hs d (a + 1) (out ++ (portsOf i (a : Int) (rd_T39 G (a : Int)).f4 0).map conv) (by omega) (by simp; omega)
    refine Ev.step (f := fun k => tailraceref09_To.l1 k G i out (a : Int) ((0 : Nat) : Int)) (fun k => by rw [tailraceref09_To.l0, if_pos (by omega)]; rfl) (rto_l1 G i a hlt hs _ (rd_T39 G (a : Int)).f4.length 0 out (by omega) (by omega) ?_)
    rw [List.drop_zero, wrap_small (by omega) (by omega)]
    exact ih
theorem rto_ev (G : List S39) (i : Int) (hs : small G = true) : Ev (fun k => tailraceref09_To.f k G i) ((toL G i).map conv) := by
  have hGl := small_len hs
  have := rto_l0 G i hs G.length 0 [] (by omega) (by simp; omega)
  rw [List.drop_zero, List.nil_append] at this
  exact this
theorem ref_stays (n : S39) (least : Int) : tailraceref10_stays.f n.f0 n.f1 n.f2 n.f3 n.f4 least = some (staysB n.f0 n.f3 least) := by
  unfold tailraceref10_stays.f staysB
  by_cases h : n.f3 > least
  · rw [if_pos h, decide_eq_true (show least < n.f3 from h)]; rfl
  · rw [if_neg h, decide_eq_false (show ¬ least < n.f3 from h)]
    by_cases e : n.f3 = least
    · rw [if_pos e]; simp [e]
    · rw [if_neg e]; simp [e]
def code (p : Nat × Bool) : Nat := 2 * p.1 + if p.2 = true then 1 else 0
theorem code_inj {p q : Nat × Bool} (h : code p = code q) : p = q := by
  obtain ⟨a, f⟩ := p
  obtain ⟨b, g⟩ := q
  unfold code at h
  cases f <;> cases g <;> simp at h <;> simp <;> omega
theorem code_lt {p : Nat × Bool} {n : Nat} (h : p.1 < n) : code p < 2 * n := by
  unfold code
  split <;> omega
def startOf (G : List S39) (least : Int) (i : Nat) : Nat × Bool := (i, depthAt G i == least)
structure Inv (G : List S39) (least : Int) (i0 : Nat) (seen : List Bool) (td : List (Nat × Bool)) (i : Nat) : Prop where
  len : seen.length = 2 * G.length
  valid : ∀ p ∈ td, p.1 < G.length ∧ (p = startOf G least i0 ∨ Way (StepD G least) (startOf G least i0) p)
  seen_td : ∀ p : Nat × Bool, p.1 < G.length → seen.getD (code p) false = true → p ∈ td
  closed : ∀ j p, j < i → td[j]? = some p → ∀ q, StepD G least p q → q ≠ (i0, true) ∧ seen.getD (code q) false = true
  count : td.length + seen.count false ≤ 2 * G.length + 1
def Tells (G : List S39) (least : Int) (i0 : Nat) (g : Nat → Option Bool) : Prop := ∃ r, Ev g r ∧ (r = true ↔ Way (StepD G least) (startOf G least i0) (i0, true))
theorem Tells.step {G : List S39} {least : Int} {i0 : Nat} {g f : Nat → Option Bool} (h : ∀ k, g (k + 1) = f k) (k : Tells G least i0 f) : Tells G least i0 g := let ⟨r, h1, h2⟩ := k; ⟨r, Ev.step h h1, h2⟩
theorem Inv.done {G : List S39} {least : Int} {i0 : Nat} {seen : List Bool} {td : List (Nat × Bool)} {i : Nat} (h : Inv G least i0 seen td i) (hi : td.length ≤ i) (h0 : startOf G least i0 ∈ td) : ¬ Way (StepD G least) (startOf G least i0) (i0, true) := by
  have key : ∀ {p q : Nat × Bool}, Way (StepD G least) p q → p ∈ td → q ≠ (i0, true) := by
    intro p q hw
    induction hw with
    | one hs =>
      intro hp
      obtain ⟨j, hj, e⟩ := List.getElem_of_mem hp
      exact (h.closed j _ (by omega) (by rw [List.getElem?_eq_getElem hj, e]) _ hs).1
    | cons hs _ ih =>
      intro hp
      obtain ⟨j, hj, e⟩ := List.getElem_of_mem hp
      exact ih (h.seen_td _ hs.2.1 (h.closed j _ (by omega) (by rw [List.getElem?_eq_getElem hj, e]) _ hs).2)
  exact fun hw => key hw h0 rfl
theorem rd_map (td : List (Nat × Bool)) (i : Nat) (p : Nat × Bool) (h : td[i]? = some p) : rd (td.map fun p => (code p : Int)) (i : Int) = (code p : Int) := by
  rw [rd_nat, List.getD_eq_getElem?_getD, List.getElem?_map, h]; rfl
theorem node_of (p : Nat × Bool) (h : p.1 < 100) : wrap64 (Int.tdiv (code p : Int) 2) = (p.1 : Int) := by
  have : Int.tdiv (code p : Int) 2 = (p.1 : Int) := by
    rw [Int.tdiv_eq_ediv_of_nonneg (by omega)]
    unfold code
    split <;> omega
  rw [this, wrap_small (by omega) (by omega)]
theorem mark_of (p : Nat × Bool) : Int.tmod (code p : Int) 2 = if p.2 = true then 1 else 0 := by
  rw [Int.tmod_eq_emod_of_nonneg (by omega)]
  unfold code
  split <;> omega
theorem rdOf_nat (xs : List Bool) (k : Nat) : rdOf false xs (k : Int) = xs.getD k false := by simp [rdOf]
theorem getD_set (xs : List Bool) (a b : Nat) (ha : a < xs.length) : (xs.set a true).getD b false = if b = a then true else xs.getD b false := by
  simp only [List.getD_eq_getElem?_getD, List.getElem?_set]
  by_cases e : a = b
  · subst e; simp [ha]
  · simp [e, Ne.symm e]
end Go.Proofs.Ytnjlonenckifpaa.X
namespace Go.Proofs.Ytnjlonenckifpaa.X
set_option linter.unusedVariables false
set_option linter.unusedSimpArgs false
open Go.RowKit Go.Proofs.YtnjlonenckifpaaW.PrintWords Go.Proofs.YtnjlonenckifpaaW.PrintLast Go.Proofs.YtnjlonenckifpaaW.PrintMore
structure PortsTo (G : List S39) (a : Nat) (l : List S65) : Prop where
  node : ∀ m, m < l.length → ∃ b : Nat, (rd_T65 l (m : Int)).f0 = (b : Int) ∧ b < G.length ∧ feeds G a b
  all : ∀ b, b < G.length → feeds G a b → ∃ m, m < l.length ∧ (rd_T65 l (m : Int)).f0 = (b : Int)
  len : l.length ≤ 10000
theorem feeds_iff (G : List S39) (a b : Nat) (hb : b < G.length) : feeds G a b ↔ ∃ n, G[b]? = some n ∧ (a : Int) ∈ n.f4 := by
  unfold feeds rd_T39
  simp [hb]
theorem portsTo (G : List S39) (a : Nat) (hs : small G = true) : PortsTo G a ((toL G (a : Int)).map conv) where
  node := fun m hm => by
    rw [List.length_map] at hm
    have e : rd_T65 ((toL G (a : Int)).map conv) (m : Int) = conv (toL G (a : Int))[m] := by simp [rd_T65, hm]
    have hp : (toL G (a : Int))[m] ∈ toL G (a : Int) := List.getElem_mem hm
    rw [e]
    have h1 := toL_mem hp
    refine ⟨((toL G (a : Int))[m]).f0.toNat, by simp [conv]; omega, by omega, ?_⟩
    rw [feeds_iff _ _ _ (by omega)]
    exact (toFrom_has (a : Int) G 0 _).1 ⟨_, hp, by omega⟩
  all := fun b hb h => by
    rw [feeds_iff _ _ _ hb] at h
    obtain ⟨p, hp, e⟩ := (toFrom_has (a : Int) G 0 b).2 h
    obtain ⟨m, hm, e'⟩ : ∃ m, ∃ hm : m < (toL G (a : Int)).length, (toL G (a : Int))[m] = p := List.getElem_of_mem hp
    refine ⟨m, by rw [List.length_map]; exact hm, ?_⟩
    have : rd_T65 ((toL G (a : Int)).map conv) (m : Int) = conv (toL G (a : Int))[m] := by simp [rd_T65, hm]
    rw [this, e']
    simp [conv]; omega
  len := by
    have h1 := toFrom_length (a : Int) G 0 (by simp [small] at hs; exact hs.2)
    have h2 := small_len hs
    have : (toL G (a : Int)).length ≤ G.length * 64 := h1
    rw [List.length_map]
    omega
def Part (G : List S39) (least : Int) (i0 : Nat) (p : Nat × Bool) (l : List S65) (seen : List Bool) (m : Nat) : Prop :=
  ∀ j, j < m → ∀ q, StepD G least p q → (rd_T65 l (j : Int)).f0 = (q.1 : Int) → q ≠ (i0, true) ∧ seen.getD (code q) false = true
theorem Part.next {G : List S39} {least : Int} {i0 : Nat} {p : Nat × Bool} {l : List S65} {seen : List Bool} {m : Nat} (h : Part G least i0 p l seen m)
    (k : ∀ q, StepD G least p q → (rd_T65 l (m : Int)).f0 = (q.1 : Int) → q ≠ (i0, true) ∧ seen.getD (code q) false = true) : Part G least i0 p l seen (m + 1) := fun j hj => by
  by_cases e : j = m
  · subst e; exact k
  · exact h j (by omega)
theorem getD_grow {xs : List Bool} {a b : Nat} (ha : a < xs.length) (h : xs.getD b false = true) : (xs.set a true).getD b false = true := by
  rw [getD_set _ _ _ ha]
  split
  · rfl
  · exact h
theorem Part.grow {G : List S39} {least : Int} {i0 : Nat} {p : Nat × Bool} {l : List S65} {seen : List Bool} {m a : Nat} (ha : a < seen.length) (h : Part G least i0 p l seen m) : Part G least i0 p l (seen.set a true) m :=
  fun j hj q hq he => ⟨(h j hj q hq he).1, getD_grow ha (h j hj q hq he).2⟩
theorem Inv.put {G : List S39} {least : Int} {i0 : Nat} {seen : List Bool} {td : List (Nat × Bool)} {i : Nat} {q : Nat × Bool} (h : Inv G least i0 seen td i) (hi : i < td.length) (hq : q.1 < G.length) (hs : seen.getD (code q) false = false)
    (hw : Way (StepD G least) (startOf G least i0) q) : Inv G least i0 (seen.set (code q) true) (td ++ [q]) i where
  len := by rw [List.length_set]; exact h.len
  valid := fun p hp => by
    rcases List.mem_append.1 hp with hp | hp
    · exact h.valid p hp
    · rw [List.mem_singleton] at hp
      subst hp
      exact ⟨hq, .inr hw⟩
  seen_td := fun p hp e => by
    rw [getD_set _ _ _ (by rw [h.len]; exact code_lt hq)] at e
    split at e
    · rename_i e'
      rw [code_inj e']
      simp
    · exact List.mem_append_left _ (h.seen_td p hp e)
  closed := fun j p hj e q' hq' => by
    rw [List.getElem?_append_left (by omega)] at e
    obtain ⟨h1, h2⟩ := h.closed j p hj e q' hq'
    exact ⟨h1, getD_grow (by rw [h.len]; exact code_lt hq) h2⟩
  count := by
    have := count_set (by rw [h.len]; exact code_lt hq) hs
    have := h.count
    rw [List.length_append, List.length_singleton]
    omega
theorem stuck_l1 (G : List S39) (least : Int) (i0 : Nat) (hi0 : i0 < G.length) (hs : small G = true) (i : Nat) (p : Nat × Bool) (l : List S65) (hp : p.1 < G.length) (hl : PortsTo G p.1 l) (hi : i < 1000)
    (hw : p = startOf G least i0 ∨ Way (StepD G least) (startOf G least i0) p)
    (next : ∀ seen td, Inv G least i0 seen td (i + 1) → startOf G least i0 ∈ td → Tells G least i0 (fun k => tailraceref10_stuck.l0 k G (i0 : Int) least seen (td.map fun p => (code p : Int)) ((i + 1 : Nat) : Int))) :
    ∀ (d m : Nat) (seen : List Bool) (td : List (Nat × Bool)), m + d = l.length → Inv G least i0 seen td i → startOf G least i0 ∈ td → td[i]? = some p → Part G least i0 p l seen m →
      Tells G least i0 (fun k => tailraceref10_stuck.l1 k G (i0 : Int) least seen (td.map fun p => (code p : Int)) (i : Int) l (m : Int))
  | 0, m, seen, td, hm, hI, h0, he, hP => by
    refine Tells.step (fun k => ?_) (next seen td ⟨hI.len, hI.valid, hI.seen_td, fun j p' hj e q hq => ?_, hI.count⟩ h0)
    · rw [tailraceref10_stuck.l1, if_neg (by omega), wrap_small (by omega) (by omega)]
      rfl
    · by_cases e' : j = i
      · subst e'
        rw [he] at e
        obtain rfl : p = p' := by simpa using e
        obtain ⟨b, hb, e2⟩ := hl.all q.1 hq.2.1 hq.2.2.1
        exact hP b (by omega) q hq e2
      · exact hI.closed j p' (by omega) e q hq
  | d + 1, m, seen, td, hm, hI, h0, he, hP => by
    have hlen := hl.len
    have hGl := small_len hs
    obtain ⟨b, hb, hbl, hf⟩ := hl.node m (by omega)
    have hti : i < td.length := by
      rcases Nat.lt_or_ge i td.length with h | h
      · exact h
      · rw [List.getElem?_eq_none h] at he; exact absurd he (by simp)
    have rest : ∀ seen td, Inv G least i0 seen td i → startOf G least i0 ∈ td → td[i]? = some p → Part G least i0 p l seen (m + 1) →
        Tells G least i0 (fun k => tailraceref10_stuck.l1 k G (i0 : Int) least seen (td.map fun p => (code p : Int)) (i : Int) l (wrap64 ((m : Int) + 1))) := fun seen td a b c d' => by
      rw [wrap_small (by omega) (by omega)]
      exact stuck_l1 G least i0 hi0 hs i p l hp hl hi hw next d (m + 1) seen td (by omega) a b c d'
    by_cases hst : staysAt G least b = true
    · -- the node stays
      have hq : StepD G least p (b, p.2 || depthAt G b == least) := ⟨hp, hbl, hf, hst, rfl⟩
      have hwq : Way (StepD G least) (startOf G least i0) (b, p.2 || depthAt G b == least) := by
        rcases hw with rfl | hw
        · exact .one hq
        · exact hw.snoc hq
      refine Tells.step (f := fun k => tailraceref10_stuck.j3 k G (i0 : Int) least seen (td.map fun p => (code p : Int)) (i : Int) l (m : Int) (code (b, p.2 || depthAt G b == least) : Int)) (fun k => ?_) ?_
      · rw [tailraceref10_stuck.l1, if_pos (by omega), if_pos (by omega), hb, if_pos (by omega), if_pos (by omega), ref_stays]
        simp only [Option.bind_some]
        rw [if_pos (by exact hst), if_pos (by omega), if_pos (by rw [List.length_map]; omega), rd_map td i p he, mark_of]
        by_cases e : depthAt G b = least
        · rw [if_pos (by exact e)]
          congr 1
          rw [wrap_small (x := 2 * (b : Int)) (by omega) (by omega), wrap_small (by omega) (by omega)]
          unfold code
          simp [e]
        · rw [if_neg (by exact e)]
          congr 1
          rw [wrap_small (x := 2 * (b : Int)) (by omega) (by omega)]
          cases h2 : p.2
          · rw [wrap_small (by simp; omega) (by simp; omega)]; simp [code, e]
          · rw [wrap_small (by simp; omega) (by simp; omega)]; simp [code]
      · generalize hqe : (b, p.2 || depthAt G b == least) = q at hq hwq
        have hqb : q.1 = b := by rw [← hqe]
        have hqu : ∀ q', StepD G least p q' → (rd_T65 l (m : Int)).f0 = (q'.1 : Int) → q' = q := by
          intro q' h1 h2
          rw [hb] at h2
          obtain ⟨x, y⟩ := q'
          have hx : x = b := by simp at h2; omega
          subst hx
          rw [← hqe]
          exact Prod.ext rfl h1.2.2.2.2
        have hT : wrap64 (wrap64 (2 * (i0 : Int)) + 1) = (code (i0, true) : Int) := by
          rw [wrap_small (x := 2 * (i0 : Int)) (by omega) (by omega), wrap_small (by omega) (by omega)]
          simp [code]
        by_cases eT : q = (i0, true)
        · refine Tells.step (f := fun _ => some true) (fun k => ?_) ⟨true, Ev.now _, ⟨fun _ => ?_, fun _ => rfl⟩⟩
          · rw [tailraceref10_stuck.j3, hT, eT, if_pos rfl]
          · rw [← eT]; exact hwq
        · have hcl := code_lt (p := q) hq.2.1
          have hne : (code q : Int) ≠ (code (i0, true) : Int) := fun e => eT (code_inj (by omega))
          by_cases hsn : seen.getD (code q) false = true
          · refine Tells.step (fun k => ?_) (rest seen td hI h0 he (hP.next fun q' h1 h2 => ?_))
            · rw [tailraceref10_stuck.j3, hT, if_neg hne, if_pos (by omega), if_pos (by rw [hI.len]; omega), rdOf_nat, if_pos hsn]
            · rw [hqu q' h1 h2]
              exact ⟨eT, hsn⟩
          · have hsf : seen.getD (code q) false = false := by simpa using hsn
            have hc := hI.count
            refine Tells.step (fun k => ?_) (rest (seen.set (code q) true) (td ++ [q]) (hI.put hti hq.2.1 hsf hwq) (List.mem_append_left _ h0) (by rw [List.getElem?_append_left hti]; exact he) ((hP.grow (by rw [hI.len]; exact hcl)).next fun q' h1 h2 => ?_))
            · rw [tailraceref10_stuck.j3, hT, if_neg hne, if_pos (by omega), if_pos (by rw [hI.len]; omega), rdOf_nat, if_neg hsn, if_pos (by rw [List.length_map]; omega), List.map_append]
              rfl
            · rw [hqu q' h1 h2, getD_set _ _ _ (by rw [hI.len]; exact hcl), if_pos rfl]
              exact ⟨eT, rfl⟩
    · refine Tells.step (fun k => ?_) (rest seen td hI h0 he (hP.next fun q h1 h2 => ?_))
      · rw [tailraceref10_stuck.l1, if_pos (by omega), if_pos (by omega), hb, if_pos (by omega), if_pos (by omega), ref_stays]
        simp only [Option.bind_some]
        rw [if_neg (by exact hst)]
      · rw [hb] at h2
        have : q.1 = b := by omega
        exact absurd (this ▸ h1.2.2.2.1) hst
theorem stuck_l0 (G : List S39) (least : Int) (i0 : Nat) (hi0 : i0 < G.length) (hs : small G = true) : ∀ (d i : Nat) (seen : List Bool) (td : List (Nat × Bool)), i + d = 2 * G.length + 1 → Inv G least i0 seen td i → startOf G least i0 ∈ td →
    Tells G least i0 (fun k => tailraceref10_stuck.l0 k G (i0 : Int) least seen (td.map fun p => (code p : Int)) (i : Int))
  | d, i, seen, td, hd, hI, h0 => by
    have hGl := small_len hs
    have hc := hI.count
    by_cases hi : i < td.length
    · obtain _ | d := d
      · omega
      have he : td[i]? = some td[i] := List.getElem?_eq_getElem hi
      have hv := hI.valid td[i] (List.getElem_mem hi)
      obtain ⟨r, h1, h2⟩ := stuck_l1 G least i0 hi0 hs i td[i] _ hv.1 (portsTo G _ hs) (by omega) hv.2 (fun seen td a b => stuck_l0 G least i0 hi0 hs d (i + 1) seen td (by omega) a b) ((toL G ((td[i]).1 : Int)).map conv).length 0 seen td (Nat.zero_add _) hI h0 he (fun j hj => absurd hj (Nat.not_lt_zero _))
      refine ⟨r, Ev.step (fun k => ?_) (Ev.bind (f := fun k l => tailraceref10_stuck.l1 k G (i0 : Int) least seen (td.map fun p => (code p : Int)) (i : Int) l ((0 : Nat) : Int)) (rto_ev G ((td[i]).1 : Int) hs) h1), h2⟩
      rw [tailraceref10_stuck.l0, if_pos (by rw [List.length_map]; omega), if_pos (by omega), rd_map td i _ he, node_of _ (by omega)]
      rfl
    · refine ⟨false, Ev.step (f := fun _ => some false) (fun k => ?_) (Ev.now _), ?_⟩
      · rw [tailraceref10_stuck.l0, if_neg (by rw [List.length_map]; omega)]
      · exact ⟨fun h => absurd h (by simp), fun h => absurd h (hI.done (by omega) h0)⟩
theorem ref_stuck (G : List S39) (least : Int) (i : Nat) (hi : i < G.length) (hs : small G = true) : ∃ r, Ev (fun k => tailraceref10_stuck.f k G (i : Int) least) r ∧ (r = true ↔ Bad G least i) := by
  have hGl := small_len hs
  by_cases hst : staysAt G least i = true
  · have hI : Inv G least i (List.replicate (2 * G.length) false) [startOf G least i] 0 := by
      refine ⟨List.length_replicate, fun p hp => ?_, fun p hp e => ?_, fun j p hj => absurd hj (Nat.not_lt_zero _), ?_⟩
      · rw [List.mem_singleton] at hp
        subst hp
        exact ⟨hi, .inl rfl⟩
      · simp [List.getD_eq_getElem?_getD, List.getElem?_replicate] at e
        split at e <;> simp at e
      · simp [List.count_replicate]; omega
    obtain ⟨r, h1, h2⟩ := stuck_l0 G least i hi hs _ 0 _ _ (by rw [Nat.zero_add]) hI (by simp)
    refine ⟨r, Ev.congr (f := fun k => tailraceref10_stuck.j0 k G (i : Int) least (List.replicate (2 * G.length) false) (code (startOf G least i) : Int)) (fun k => ?_) (Ev.step (fun k => ?_) h1), h2.trans (bad_iff G least i hi hst).symm⟩
    · unfold tailraceref10_stuck.f
      rw [if_pos (by omega), if_pos (by omega), ref_stays]
      simp only [Option.bind_some]
      rw [if_pos (by exact hst), wrap_small (x := 2 * (G.length : Int)) (by omega) (by omega), if_pos (by omega), if_pos (by omega)]
      have e2 : (2 * (G.length : Int)).toNat = 2 * G.length := by omega
      rw [e2]
      have e3 : wrap64 (2 * (i : Int)) = 2 * (i : Int) := wrap_small (by omega) (by omega)
      rw [e3, wrap_small (x := 2 * (i : Int) + 1) (by omega) (by omega)]
      by_cases e : depthAt G i = least
      · rw [if_pos (by exact e)]
        congr 1
        simp [startOf, code, e]
      · rw [if_neg (by exact e)]
        congr 1
        simp [startOf, code, e]
    · rw [tailraceref10_stuck.j0]
      rfl
  · refine ⟨false, Ev.congr (f := fun _ => some false) (fun k => ?_) (Ev.now _), ⟨fun h => absurd h (by simp), fun h => absurd (bad_stays h) hst⟩⟩
    unfold tailraceref10_stuck.f
    rw [if_pos (by omega), if_pos (by omega), ref_stays]
    simp only [Option.bind_some]
    rw [if_neg (by exact hst)]
end Go.Proofs.Ytnjlonenckifpaa.X
