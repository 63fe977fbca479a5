/- Printed out of the translation by this session's program: for Go functions, Lean functions with the same answers, and the proofs of that. -/
import Derived.Test.YtpanefmemabckabGenSx0
import Derived.Test.YtpanefmemabckabGenSx5
namespace Go.Proofs.Ytpanefmemabckab.GenS
open Go.RowKit Go.Proofs.Ytpanefmemabckab.NumA Go.Proofs.YtpanefmemabckabW.PrintWords Go.Proofs.YtpanefmemabckabW.PrintLast Go.Proofs.YtpanefmemabckabW.PrintMore
attribute [local go_sem] max2_int min2_int max_two min_two max_three min_three max_four min_four   -- for this text's walks alone
set_option linter.unusedVariables false
set_option linter.unusedSimpArgs false

/-! ### cardexref22_How: function 42 -/
mutual
def cardexref22_How.j0 : Nat → Int → List Int → Bool → Int → List (S58) → List (S60) → Int → List (S58) → List (S60) → List Int → List Int → Bool → Int → Int → Option (Int)
  | 0, _, _, _, _, _, _, _, _, _, _, _, _, _, _ => none
  | k + 1, x1, x2, x15, x180000, x180001, x180002, x180003, x180004, x180005, x180006, x180007, x180008, x180009, x180010 => if x15 = true then (some 2) else (if x180000 = 0 then (cardexref22_How.j1 k x1 false x180000 x180001 x180002 x180003 x180004 x180005 x180006 x180007 x180008 x180009 x180010) else (if x1 = x180003 then ((cardexref00_Same.f x180006 x2).bind fun t180 => (cardexref22_How.j1 k x1 t180 x180000 x180001 x180002 x180003 x180004 x180005 x180006 x180007 x180008 x180009 x180010)) else (cardexref22_How.j1 k x1 false x180000 x180001 x180002 x180003 x180004 x180005 x180006 x180007 x180008 x180009 x180010)))
def cardexref22_How.j1 : Nat → Int → Bool → Int → List (S58) → List (S60) → Int → List (S58) → List (S60) → List Int → List Int → Bool → Int → Int → Option (Int)
  | 0, _, _, _, _, _, _, _, _, _, _, _, _, _ => none
  | k + 1, x1, x32, x180000, x180001, x180002, x180003, x180004, x180005, x180006, x180007, x180008, x180009, x180010 => if x32 = true then (some 3) else (if x1 = 0 then (some 1) else (if x1 = x180003 then (some 4) else (some 0)))
end
def cardexref22_How.f (k : Nat) (a0_0 : Int) (l0_1 : List (S58)) (l0_2 : List (S60)) (a0_3 : Int) (l0_4 : List (S58)) (l0_5 : List (S60)) (l0_6 : List Int) (l0_7 : List Int) (a0_8 : Bool) (a0_9 : Int) (a0_10 : Int) (a1 : Int) (l2 : List Int) : Option (Int) := if a1 = 0 then (cardexref22_How.j0 k a1 l2 false a0_0 l0_1 l0_2 a0_3 l0_4 l0_5 l0_6 l0_7 a0_8 a0_9 a0_10) else (cardexref22_How.j0 k a1 l2 (a1 == a0_0) a0_0 l0_1 l0_2 a0_3 l0_4 l0_5 l0_6 l0_7 a0_8 a0_9 a0_10)
theorem cardexref22_How.mono_l : ∀ k, (∀ y0 y1 y2 y3 y4 y5 y6 y7 y8 y9 y10 y11 y12 y13, LeO (cardexref22_How.j0 k y0 y1 y2 y3 y4 y5 y6 y7 y8 y9 y10 y11 y12 y13) (cardexref22_How.j0 (k + 1) y0 y1 y2 y3 y4 y5 y6 y7 y8 y9 y10 y11 y12 y13)) ∧ (∀ y0 y1 y2 y3 y4 y5 y6 y7 y8 y9 y10 y11 y12, LeO (cardexref22_How.j1 k y0 y1 y2 y3 y4 y5 y6 y7 y8 y9 y10 y11 y12) (cardexref22_How.j1 (k + 1) y0 y1 y2 y3 y4 y5 y6 y7 y8 y9 y10 y11 y12))
  | 0 => ⟨fun _ _ _ _ _ _ _ _ _ _ _ _ _ _ r h => by simp [cardexref22_How.j0] at h, fun _ _ _ _ _ _ _ _ _ _ _ _ _ r h => by simp [cardexref22_How.j1] at h⟩
  | k + 1 => by
    obtain ⟨ih0, ih1⟩ := cardexref22_How.mono_l k
    refine ⟨?_, ?_⟩
    · intro y0 y1 y2 y3 y4 y5 y6 y7 y8 y9 y10 y11 y12 y13
      unfold cardexref22_How.j0
      repeat' first
      | (with_reducible exact ih0 _ _ _ _ _ _ _ _ _ _ _ _ _ _)
      | (with_reducible exact ih1 _ _ _ _ _ _ _ _ _ _ _ _ _)
      | (with_reducible exact LeO.refl _)
      | (with_reducible exact LeO.none _)
      | (with_reducible refine LeO.ite ?_ ?_)
      | (with_reducible refine LeO.bind ?_ (fun _ => ?_))
      | exact ih0 _ _ _ _ _ _ _ _ _ _ _ _ _ _
      | exact ih1 _ _ _ _ _ _ _ _ _ _ _ _ _
      | exact LeO.none _
      | refine LeO.ite ?_ ?_
      | refine LeO.bind ?_ (fun _ => ?_)
    · intro y0 y1 y2 y3 y4 y5 y6 y7 y8 y9 y10 y11 y12
      unfold cardexref22_How.j1
      repeat' first
      | (with_reducible exact ih0 _ _ _ _ _ _ _ _ _ _ _ _ _ _)
      | (with_reducible exact ih1 _ _ _ _ _ _ _ _ _ _ _ _ _)
      | (with_reducible exact LeO.refl _)
      | (with_reducible exact LeO.none _)
      | (with_reducible refine LeO.ite ?_ ?_)
      | (with_reducible refine LeO.bind ?_ (fun _ => ?_))
      | exact ih0 _ _ _ _ _ _ _ _ _ _ _ _ _ _
      | exact ih1 _ _ _ _ _ _ _ _ _ _ _ _ _
      | exact LeO.none _
      | refine LeO.ite ?_ ?_
      | refine LeO.bind ?_ (fun _ => ?_)
theorem cardexref22_How.mono : ∀ a0 a1 a2 a3 a4 a5 a6 a7 a8 a9 a10 a11 a12 k, LeO (cardexref22_How.f k a0 a1 a2 a3 a4 a5 a6 a7 a8 a9 a10 a11 a12) (cardexref22_How.f (k + 1) a0 a1 a2 a3 a4 a5 a6 a7 a8 a9 a10 a11 a12) := by
  intro a0 a1 a2 a3 a4 a5 a6 a7 a8 a9 a10 a11 a12 k
  obtain ⟨ih0, ih1⟩ := cardexref22_How.mono_l k
  unfold cardexref22_How.f
  repeat' first
      | (with_reducible exact ih0 _ _ _ _ _ _ _ _ _ _ _ _ _ _)
      | (with_reducible exact ih1 _ _ _ _ _ _ _ _ _ _ _ _ _)
      | (with_reducible exact LeO.refl _)
      | (with_reducible exact LeO.none _)
      | (with_reducible refine LeO.ite ?_ ?_)
      | (with_reducible refine LeO.bind ?_ (fun _ => ?_))
      | exact ih0 _ _ _ _ _ _ _ _ _ _ _ _ _ _
      | exact ih1 _ _ _ _ _ _ _ _ _ _ _ _ _
      | exact LeO.none _
      | refine LeO.ite ?_ ?_
      | refine LeO.bind ?_ (fun _ => ?_)
set_option maxHeartbeats 8000000 in
set_option maxRecDepth 100000 in
theorem cardexref22_How.calls (k : Nat) (a0_0 : Int) (A0_1 : Option Addr) (c0_1 : Nat) (l0_1 : List (S58)) (A0_2 : Option Addr) (c0_2 : Nat) (l0_2 : List (S60)) (a0_3 : Int) (A0_4 : Option Addr) (c0_4 : Nat) (l0_4 : List (S58)) (A0_5 : Option Addr) (c0_5 : Nat) (l0_5 : List (S60)) (A0_6 : Option Addr) (c0_6 : Nat) (l0_6 : List Int) (A0_7 : Option Addr) (c0_7 : Nat) (l0_7 : List Int) (a0_8 : Bool) (a0_9 : Int) (a0_10 : Int) (a1 : Int) (A2 : Option Addr) (c2 : Nat) (l2 : List Int) (r : Int) (w : World) (hr0_1 : Kd.C k58 w A0_1 l0_1.length l0_1) (hc0_1 : l0_1.length ≤ c0_1) (hr0_2 : Kd.C k60 w A0_2 l0_2.length l0_2) (hc0_2 : l0_2.length ≤ c0_2) (hr0_4 : Kd.C k58 w A0_4 l0_4.length l0_4) (hc0_4 : l0_4.length ≤ c0_4) (hr0_5 : Kd.C k60 w A0_5 l0_5.length l0_5) (hc0_5 : l0_5.length ≤ c0_5) (hr0_6 : Kd.C (Kd.int .u8) w A0_6 l0_6.length l0_6) (hc0_6 : l0_6.length ≤ c0_6) (hr0_7 : Kd.C (Kd.int .u8) w A0_7 l0_7.length l0_7) (hc0_7 : l0_7.length ≤ c0_7) (hr2 : Kd.C (Kd.int .u8) w A2 l2.length l2) (hc2 : l2.length ≤ c2) (h : cardexref22_How.f k a0_0 l0_1 l0_2 a0_3 l0_4 l0_5 l0_6 l0_7 a0_8 a0_9 a0_10 a1 l2 = some r) :
    Calls Try.prog 42 #[.agg #[.int .u32 a0_0, .slice A0_1 l0_1.length c0_1, .slice A0_2 l0_2.length c0_2, .int .u32 a0_3, .slice A0_4 l0_4.length c0_4, .slice A0_5 l0_5.length c0_5, .slice A0_6 l0_6.length c0_6, .slice A0_7 l0_7.length c0_7, .bool a0_8, .int .u8 a0_9, .int .u8 a0_10], .int .u32 a1, .slice A2 l2.length c2] w fun e w' => e = .returned (.int .u8 r) ∧ Below w.heap.size w w' := by
  have hu51 := Try.underlying51
  have HR0_1 := Aside0.mk hr0_1
  have HC0_1 := Aside0.mk hc0_1
  clear hr0_1 hc0_1
  have HR0_2 := Aside0.mk hr0_2
  have HC0_2 := Aside0.mk hc0_2
  clear hr0_2 hc0_2
  have HR0_4 := Aside0.mk hr0_4
  have HC0_4 := Aside0.mk hc0_4
  clear hr0_4 hc0_4
  have HR0_5 := Aside0.mk hr0_5
  have HC0_5 := Aside0.mk hc0_5
  clear hr0_5 hc0_5
  have HR0_6 := Aside0.mk hr0_6
  have HC0_6 := Aside0.mk hc0_6
  clear hr0_6 hc0_6
  have HR0_7 := Aside0.mk hr0_7
  have HC0_7 := Aside0.mk hc0_7
  clear hr0_7 hc0_7
  have HR2 := Aside0.mk hr2
  have HC2 := Aside0.mk hc2
  clear hr2 hc2
  have HB := Aside0.mk (Below.refl w.heap.size w)
  have H : (if a1 = 0 then (cardexref22_How.j0 k a1 l2 false a0_0 l0_1 l0_2 a0_3 l0_4 l0_5 l0_6 l0_7 a0_8 a0_9 a0_10) else (cardexref22_How.j0 k a1 l2 (a1 == a0_0) a0_0 l0_1 l0_2 a0_3 l0_4 l0_5 l0_6 l0_7 a0_8 a0_9 a0_10)) = some r := h
  clear h
  have HC4 := Aside0.mk H
  clear H
  go_enter Try.func42, Try.ntmps42
  go_upto_region 1 with (first | ((with_reducible refine gate_dst (N := 3) rfl ?_); refine box_event ?hg (N := 3) ?hd (cs := #[.int .u32 a0_0, .slice A0_1 l0_1.length c0_1, .slice A0_2 l0_2.length c0_2, .int .u32 a0_3, .slice A0_4 l0_4.length c0_4, .slice A0_5 l0_5.length c0_5, .slice A0_6 l0_6.length c0_6, .slice A0_7 l0_7.length c0_7, .bool a0_8, .int .u8 a0_9, .int .u8 a0_10]) (t := 51) ?hr ?_; (case hd => rfl); (case hg => rfl); (case hr => first | (go_simp; done) | (go_simp; rfl)); intro gb179 hg w5 hbox hb; have n0_ := Aside0.mk (below_step (by repeat (first | (with_reducible first | exact HB.out | apply below_alloc | apply pw_below_drewN | apply below_drew1) | exact HB.out)) hb); have n1_ := Aside0.mk (hbox); have n2_ := Aside0.mk ((by rw [hg]; exact (below_size (by repeat (first | (with_reducible first | exact HB.out | apply below_alloc | apply pw_below_drewN | apply below_drew1) | exact HB.out))) : w.heap.size ≤ gb179)); have n3_ := Aside0.mk ((by rw [hg]; exact (below_size (by repeat (first | (with_reducible first | exact HB.out | apply below_alloc | apply pw_below_drewN | apply below_drew1) | exact HB.out))) : w.heap.size ≤ gb179)); clear HB; have HB := n0_; have BK179 := n1_; have GW179 := n2_; have GE179 := n3_; clear n0_ n1_ n2_ n3_; clear hb hbox hg))
  (try simp only [Act.put, List.setIfInBounds_toArray, List.set_cons_zero, List.set_cons_succ])
  go_cut [15] (fun v15 wc => ∃ (kq : Nat) (x15_3 : Bool), v15 = .bool x15_3 ∧ Aside0 (cardexref22_How.j0 kq a1 l2 x15_3 a0_0 l0_1 l0_2 a0_3 l0_4 l0_5 l0_6 l0_7 a0_8 a0_9 a0_10 = some r) ∧ Aside0 (kq ≤ k) ∧ Aside0 (wc.heap[gb179]? = some (.cells #[.int .u32 a0_0, (.slice A0_1 l0_1.length c0_1), (.slice A0_2 l0_2.length c0_2), .int .u32 a0_3, (.slice A0_4 l0_4.length c0_4), (.slice A0_5 l0_5.length c0_5), (.slice A0_6 l0_6.length c0_6), (.slice A0_7 l0_7.length c0_7), .bool a0_8, .int .u8 a0_9, .int .u8 a0_10] 51 (0, 0))) ∧ Aside0 (Below w.heap.size w wc))
  case first =>
    have H := HC4.out
    clear HC4
    by_cases c6 : a1 = 0
    · rw [if_pos c6] at H
      have c6b0 : (a1 == 0) = true := beq_iff_eq.mpr c6
      have c6b1 : (a1 != 0) = false := bne_eq_false_iff_eq.mpr c6
      clear c6
      (first | rw [c6b0] | (simp only [i64_w, i32_w]; rw [c6b0]) | skip)
      have H' := Aside0.mk H
      clear H
      go_wp2
      go_meet
      case rel => exact ⟨_, (false), (by first | rfl | (simp; done) | (simp [*]; done)), H', ⟨by first | omega | exact Nat.le_refl _⟩, ⟨by (with_reducible repeat (first | refine blk_drewN ?_ _ | refine blk_drew ?_ | refine blk_alloc ?_ _)); exact BK179.out⟩, ⟨by repeat (first | (with_reducible first | exact HB.out | apply below_alloc | apply pw_below_drewN | apply below_drew1 | refine below_set ?_ GE179.out) | exact HB.out)⟩⟩
    · rw [if_neg c6] at H
      have c6b0 : (a1 == 0) = false := beq_eq_false_iff_ne.mpr c6
      have c6b1 : (a1 != 0) = true := bne_iff_ne.mpr c6
      (first | rw [c6b0] | (simp only [i64_w, i32_w]; rw [c6b0]) | skip)
      have H' := Aside0.mk H
      clear H
      have hcz7_0 : w5.cell? ⟨gb179, 0, none⟩ = some (.int .u32 a0_0) := (blk_cell BK179.out 0).trans rfl
      have hcz7_1 : w5.cell? ⟨gb179, 1, none⟩ = some (.slice A0_1 l0_1.length c0_1) := (blk_cell BK179.out 1).trans rfl
      have hcz7_2 : w5.cell? ⟨gb179, 2, none⟩ = some (.slice A0_2 l0_2.length c0_2) := (blk_cell BK179.out 2).trans rfl
      have hcz7_3 : w5.cell? ⟨gb179, 3, none⟩ = some (.int .u32 a0_3) := (blk_cell BK179.out 3).trans rfl
      have hcz7_4 : w5.cell? ⟨gb179, 4, none⟩ = some (.slice A0_4 l0_4.length c0_4) := (blk_cell BK179.out 4).trans rfl
      have hcz7_5 : w5.cell? ⟨gb179, 5, none⟩ = some (.slice A0_5 l0_5.length c0_5) := (blk_cell BK179.out 5).trans rfl
      have hcz7_6 : w5.cell? ⟨gb179, 6, none⟩ = some (.slice A0_6 l0_6.length c0_6) := (blk_cell BK179.out 6).trans rfl
      have hcz7_7 : w5.cell? ⟨gb179, 7, none⟩ = some (.slice A0_7 l0_7.length c0_7) := (blk_cell BK179.out 7).trans rfl
      have hcz7_8 : w5.cell? ⟨gb179, 8, none⟩ = some (.bool a0_8) := (blk_cell BK179.out 8).trans rfl
      have hcz7_9 : w5.cell? ⟨gb179, 9, none⟩ = some (.int .u8 a0_9) := (blk_cell BK179.out 9).trans rfl
      have hcz7_10 : w5.cell? ⟨gb179, 10, none⟩ = some (.int .u8 a0_10) := (blk_cell BK179.out 10).trans rfl
      have hfz7_0 := blk_frozen BK179.out 0
      have hfz7_1 := blk_frozen BK179.out 1
      have hfz7_2 := blk_frozen BK179.out 2
      have hfz7_3 := blk_frozen BK179.out 3
      have hfz7_4 := blk_frozen BK179.out 4
      have hfz7_5 := blk_frozen BK179.out 5
      have hfz7_6 := blk_frozen BK179.out 6
      have hfz7_7 := blk_frozen BK179.out 7
      have hfz7_8 := blk_frozen BK179.out 8
      have hfz7_9 := blk_frozen BK179.out 9
      have hfz7_10 := blk_frozen BK179.out 10
      go_wp2
      go_meet
      case rel => exact ⟨_, ((a1 == a0_0)), (by first | rfl | (simp; done) | (simp [*]; done)), H', ⟨by first | omega | exact Nat.le_refl _⟩, ⟨by (with_reducible repeat (first | refine blk_drewN ?_ _ | refine blk_drew ?_ | refine blk_alloc ?_ _)); exact BK179.out⟩, ⟨by repeat (first | (with_reducible first | exact HB.out | apply below_alloc | apply pw_below_drewN | apply below_drew1 | refine below_set ?_ GE179.out) | exact HB.out)⟩⟩
  case rest =>
    clear HC4
    try clear c2
    try clear p2
    try clear c4
    try clear c6
    try clear c6b0
    try clear c6b1
    try clear hcz7_0
    try clear hcz7_1
    try clear hcz7_10
    try clear hcz7_2
    try clear hcz7_3
    try clear hcz7_4
    try clear hcz7_5
    try clear hcz7_6
    try clear hcz7_7
    try clear hcz7_8
    try clear hcz7_9
    try clear hfz7_0
    try clear hfz7_1
    try clear hfz7_10
    try clear hfz7_2
    try clear hfz7_3
    try clear hfz7_4
    try clear hfz7_5
    try clear hfz7_6
    try clear hfz7_7
    try clear hfz7_8
    try clear hfz7_9
    obtain ⟨kq, x15_3, rfl, HA, HJ3, BK179, HB⟩ := hcut
    cases kq with
    | zero => exact absurd HA.out (by simp [cardexref22_How.j0])
    | succ kj3 =>
      have H := HA.out
      clear HA
      simp only [cardexref22_How.j0] at H
      by_cases c8 : x15_3 = true
      · subst c8
        have H1 : (some 2) = some r := by rw [if_pos rfl] at H; exact H
        clear H
        have H := H1
        clear H1
        obtain rfl := Option.some.inj H
        go_wp2
        go_ret
        exact ⟨by first | rfl | (simp [errW_none, errW_some] <;> rfl) | (simp [*, errW_none, errW_some] <;> rfl), by repeat (first | (with_reducible first | exact HB.out | apply below_alloc | apply pw_below_drewN | apply below_drew1 | refine below_set ?_ GE179.out) | exact HB.out)⟩
      · replace c8 := Bool.eq_false_iff.mpr c8
        subst c8
        have H1 : (if a0_0 = 0 then (cardexref22_How.j1 kj3 a1 false a0_0 l0_1 l0_2 a0_3 l0_4 l0_5 l0_6 l0_7 a0_8 a0_9 a0_10) else (if a1 = a0_3 then ((cardexref00_Same.f l0_6 l2).bind fun t180 => (cardexref22_How.j1 kj3 a1 t180 a0_0 l0_1 l0_2 a0_3 l0_4 l0_5 l0_6 l0_7 a0_8 a0_9 a0_10)) else (cardexref22_How.j1 kj3 a1 false a0_0 l0_1 l0_2 a0_3 l0_4 l0_5 l0_6 l0_7 a0_8 a0_9 a0_10))) = some r := by rw [if_neg (show ¬ (false = true) by decide)] at H; exact H
        clear H
        have H := H1
        clear H1
        have HC9 := Aside0.mk H
        clear H
        go_upto_region 3 with (fail)
        go_cut [32] (fun v32 wc => ∃ (kq : Nat) (x32_8 : Bool), v32 = .bool x32_8 ∧ Aside0 (cardexref22_How.j1 kq a1 x32_8 a0_0 l0_1 l0_2 a0_3 l0_4 l0_5 l0_6 l0_7 a0_8 a0_9 a0_10 = some r) ∧ Aside0 (kq ≤ kj3) ∧ Aside0 (wc.heap[gb179]? = some (.cells #[.int .u32 a0_0, (.slice A0_1 l0_1.length c0_1), (.slice A0_2 l0_2.length c0_2), .int .u32 a0_3, (.slice A0_4 l0_4.length c0_4), (.slice A0_5 l0_5.length c0_5), (.slice A0_6 l0_6.length c0_6), (.slice A0_7 l0_7.length c0_7), .bool a0_8, .int .u8 a0_9, .int .u8 a0_10] 51 (0, 0))) ∧ Aside0 (Below w.heap.size w wc))
        case first =>
          have H := HC9.out
          clear HC9
          by_cases c10 : a0_0 = 0
          · rw [if_pos c10] at H
            have c10b0 : (a0_0 == 0) = true := beq_iff_eq.mpr c10
            have c10b1 : (a0_0 != 0) = false := bne_eq_false_iff_eq.mpr c10
            clear c10
            (first | rw [c10b0] | (simp only [i64_w, i32_w]; rw [c10b0]) | skip)
            have H' := Aside0.mk H
            clear H
            have hcz11_0 : wc.cell? ⟨gb179, 0, none⟩ = some (.int .u32 a0_0) := (blk_cell BK179.out 0).trans rfl
            have hcz11_1 : wc.cell? ⟨gb179, 1, none⟩ = some (.slice A0_1 l0_1.length c0_1) := (blk_cell BK179.out 1).trans rfl
            have hcz11_2 : wc.cell? ⟨gb179, 2, none⟩ = some (.slice A0_2 l0_2.length c0_2) := (blk_cell BK179.out 2).trans rfl
            have hcz11_3 : wc.cell? ⟨gb179, 3, none⟩ = some (.int .u32 a0_3) := (blk_cell BK179.out 3).trans rfl
            have hcz11_4 : wc.cell? ⟨gb179, 4, none⟩ = some (.slice A0_4 l0_4.length c0_4) := (blk_cell BK179.out 4).trans rfl
            have hcz11_5 : wc.cell? ⟨gb179, 5, none⟩ = some (.slice A0_5 l0_5.length c0_5) := (blk_cell BK179.out 5).trans rfl
            have hcz11_6 : wc.cell? ⟨gb179, 6, none⟩ = some (.slice A0_6 l0_6.length c0_6) := (blk_cell BK179.out 6).trans rfl
            have hcz11_7 : wc.cell? ⟨gb179, 7, none⟩ = some (.slice A0_7 l0_7.length c0_7) := (blk_cell BK179.out 7).trans rfl
            have hcz11_8 : wc.cell? ⟨gb179, 8, none⟩ = some (.bool a0_8) := (blk_cell BK179.out 8).trans rfl
            have hcz11_9 : wc.cell? ⟨gb179, 9, none⟩ = some (.int .u8 a0_9) := (blk_cell BK179.out 9).trans rfl
            have hcz11_10 : wc.cell? ⟨gb179, 10, none⟩ = some (.int .u8 a0_10) := (blk_cell BK179.out 10).trans rfl
            have hfz11_0 := blk_frozen BK179.out 0
            have hfz11_1 := blk_frozen BK179.out 1
            have hfz11_2 := blk_frozen BK179.out 2
            have hfz11_3 := blk_frozen BK179.out 3
            have hfz11_4 := blk_frozen BK179.out 4
            have hfz11_5 := blk_frozen BK179.out 5
            have hfz11_6 := blk_frozen BK179.out 6
            have hfz11_7 := blk_frozen BK179.out 7
            have hfz11_8 := blk_frozen BK179.out 8
            have hfz11_9 := blk_frozen BK179.out 9
            have hfz11_10 := blk_frozen BK179.out 10
            go_wp2
            go_meet
            case rel => exact ⟨_, (false), (by first | rfl | (simp; done) | (simp [*]; done)), H', ⟨by have := HJ3.out; first | omega | exact Nat.le_refl _⟩, ⟨by (with_reducible repeat (first | refine blk_drewN ?_ _ | refine blk_drew ?_ | refine blk_alloc ?_ _)); exact BK179.out⟩, ⟨by repeat (first | (with_reducible first | exact HB.out | apply below_alloc | apply pw_below_drewN | apply below_drew1 | refine below_set ?_ GE179.out) | exact HB.out)⟩⟩
          · rw [if_neg c10] at H
            have c10b0 : (a0_0 == 0) = false := beq_eq_false_iff_ne.mpr c10
            have c10b1 : (a0_0 != 0) = true := bne_iff_ne.mpr c10
            (first | rw [c10b0] | (simp only [i64_w, i32_w]; rw [c10b0]) | skip)
            by_cases c12 : a1 = a0_3
            · rw [if_pos c12] at H
              have c12b0 : (a1 == a0_3) = true := beq_iff_eq.mpr c12
              have c12b1 : (a1 != a0_3) = false := bne_eq_false_iff_eq.mpr c12
              clear c12
              replace H := Option.bind_eq_some_iff.mp H
              obtain ⟨t180, A130, H⟩ := H
              replace H : (cardexref22_How.j1 kj3 a1 t180 a0_0 l0_1 l0_2 a0_3 l0_4 l0_5 l0_6 l0_7 a0_8 a0_9 a0_10) = some r := H
              have A13 := Aside0.mk A130
              clear A130
              have H' := Aside0.mk H
              clear H
              have hcz14_0 : wc.cell? ⟨gb179, 0, none⟩ = some (.int .u32 a0_0) := (blk_cell BK179.out 0).trans rfl
              have hcz14_1 : wc.cell? ⟨gb179, 1, none⟩ = some (.slice A0_1 l0_1.length c0_1) := (blk_cell BK179.out 1).trans rfl
              have hcz14_2 : wc.cell? ⟨gb179, 2, none⟩ = some (.slice A0_2 l0_2.length c0_2) := (blk_cell BK179.out 2).trans rfl
              have hcz14_3 : wc.cell? ⟨gb179, 3, none⟩ = some (.int .u32 a0_3) := (blk_cell BK179.out 3).trans rfl
              have hcz14_4 : wc.cell? ⟨gb179, 4, none⟩ = some (.slice A0_4 l0_4.length c0_4) := (blk_cell BK179.out 4).trans rfl
              have hcz14_5 : wc.cell? ⟨gb179, 5, none⟩ = some (.slice A0_5 l0_5.length c0_5) := (blk_cell BK179.out 5).trans rfl
              have hcz14_6 : wc.cell? ⟨gb179, 6, none⟩ = some (.slice A0_6 l0_6.length c0_6) := (blk_cell BK179.out 6).trans rfl
              have hcz14_7 : wc.cell? ⟨gb179, 7, none⟩ = some (.slice A0_7 l0_7.length c0_7) := (blk_cell BK179.out 7).trans rfl
              have hcz14_8 : wc.cell? ⟨gb179, 8, none⟩ = some (.bool a0_8) := (blk_cell BK179.out 8).trans rfl
              have hcz14_9 : wc.cell? ⟨gb179, 9, none⟩ = some (.int .u8 a0_9) := (blk_cell BK179.out 9).trans rfl
              have hcz14_10 : wc.cell? ⟨gb179, 10, none⟩ = some (.int .u8 a0_10) := (blk_cell BK179.out 10).trans rfl
              have hfz14_0 := blk_frozen BK179.out 0
              have hfz14_1 := blk_frozen BK179.out 1
              have hfz14_2 := blk_frozen BK179.out 2
              have hfz14_3 := blk_frozen BK179.out 3
              have hfz14_4 := blk_frozen BK179.out 4
              have hfz14_5 := blk_frozen BK179.out 5
              have hfz14_6 := blk_frozen BK179.out 6
              have hfz14_7 := blk_frozen BK179.out 7
              have hfz14_8 := blk_frozen BK179.out 8
              have hfz14_9 := blk_frozen BK179.out 9
              have hfz14_10 := blk_frozen BK179.out 10
              go_wp2_with (first | (go_at_call 17; (with_reducible refine (cardexref00_Same.calls _ _ l0_6 _ _ l2 t180 _ ?side1 ?side2 ?side3 ?side4 A13.out).mono ?_); (case side1 => repeat (first | exact (Kd.C_below HR0_6.out HB.out) | (with_reducible refine Kd.C_alloc ?_ _) | (with_reducible refine Kd.C_drewN ?_ _) | (with_reducible refine Kd.C_drew ?_))); (case side2 => exact HC0_6.out); (case side3 => repeat (first | exact (Kd.C_below HR2.out HB.out) | (with_reducible refine Kd.C_alloc ?_ _) | (with_reducible refine Kd.C_drewN ?_ _) | (with_reducible refine Kd.C_drew ?_))); (case side4 => exact HC2.out); rintro e w' ⟨rfl, ⟨nd, rfl⟩⟩))
              go_meet
              case rel => exact ⟨_, (t180), (by first | rfl | (simp; done) | (simp [*]; done)), H', ⟨by have := HJ3.out; first | omega | exact Nat.le_refl _⟩, ⟨by (with_reducible repeat (first | refine blk_drewN ?_ _ | refine blk_drew ?_ | refine blk_alloc ?_ _)); exact BK179.out⟩, ⟨by repeat (first | (with_reducible first | exact HB.out | apply below_alloc | apply pw_below_drewN | apply below_drew1 | refine below_set ?_ GE179.out) | exact HB.out)⟩⟩
            · rw [if_neg c12] at H
              have c12b0 : (a1 == a0_3) = false := beq_eq_false_iff_ne.mpr c12
              have c12b1 : (a1 != a0_3) = true := bne_iff_ne.mpr c12
              have H' := Aside0.mk H
              clear H
              have hcz15_0 : wc.cell? ⟨gb179, 0, none⟩ = some (.int .u32 a0_0) := (blk_cell BK179.out 0).trans rfl
              have hcz15_1 : wc.cell? ⟨gb179, 1, none⟩ = some (.slice A0_1 l0_1.length c0_1) := (blk_cell BK179.out 1).trans rfl
              have hcz15_2 : wc.cell? ⟨gb179, 2, none⟩ = some (.slice A0_2 l0_2.length c0_2) := (blk_cell BK179.out 2).trans rfl
              have hcz15_3 : wc.cell? ⟨gb179, 3, none⟩ = some (.int .u32 a0_3) := (blk_cell BK179.out 3).trans rfl
              have hcz15_4 : wc.cell? ⟨gb179, 4, none⟩ = some (.slice A0_4 l0_4.length c0_4) := (blk_cell BK179.out 4).trans rfl
              have hcz15_5 : wc.cell? ⟨gb179, 5, none⟩ = some (.slice A0_5 l0_5.length c0_5) := (blk_cell BK179.out 5).trans rfl
              have hcz15_6 : wc.cell? ⟨gb179, 6, none⟩ = some (.slice A0_6 l0_6.length c0_6) := (blk_cell BK179.out 6).trans rfl
              have hcz15_7 : wc.cell? ⟨gb179, 7, none⟩ = some (.slice A0_7 l0_7.length c0_7) := (blk_cell BK179.out 7).trans rfl
              have hcz15_8 : wc.cell? ⟨gb179, 8, none⟩ = some (.bool a0_8) := (blk_cell BK179.out 8).trans rfl
              have hcz15_9 : wc.cell? ⟨gb179, 9, none⟩ = some (.int .u8 a0_9) := (blk_cell BK179.out 9).trans rfl
              have hcz15_10 : wc.cell? ⟨gb179, 10, none⟩ = some (.int .u8 a0_10) := (blk_cell BK179.out 10).trans rfl
              have hfz15_0 := blk_frozen BK179.out 0
              have hfz15_1 := blk_frozen BK179.out 1
              have hfz15_2 := blk_frozen BK179.out 2
              have hfz15_3 := blk_frozen BK179.out 3
              have hfz15_4 := blk_frozen BK179.out 4
              have hfz15_5 := blk_frozen BK179.out 5
              have hfz15_6 := blk_frozen BK179.out 6
              have hfz15_7 := blk_frozen BK179.out 7
              have hfz15_8 := blk_frozen BK179.out 8
              have hfz15_9 := blk_frozen BK179.out 9
              have hfz15_10 := blk_frozen BK179.out 10
              go_wp2
              go_meet
              case rel => exact ⟨_, (false), (by first | rfl | (simp; done) | (simp [*]; done)), H', ⟨by have := HJ3.out; first | omega | exact Nat.le_refl _⟩, ⟨by (with_reducible repeat (first | refine blk_drewN ?_ _ | refine blk_drew ?_ | refine blk_alloc ?_ _)); exact BK179.out⟩, ⟨by repeat (first | (with_reducible first | exact HB.out | apply below_alloc | apply pw_below_drewN | apply below_drew1 | refine below_set ?_ GE179.out) | exact HB.out)⟩⟩
        case rest =>
          clear HC9
          try clear c1
          try clear c2
          try clear p2
          try clear c4
          try clear c6
          try clear c6b0
          try clear c6b1
          try clear c8
          try clear c10
          try clear c10b0
          try clear c10b1
          try clear c12
          try clear c12b0
          try clear c12b1
          try clear hcz11_0
          try clear hcz11_1
          try clear hcz11_10
          try clear hcz11_2
          try clear hcz11_3
          try clear hcz11_4
          try clear hcz11_5
          try clear hcz11_6
          try clear hcz11_7
          try clear hcz11_8
          try clear hcz11_9
          try clear hcz14_0
          try clear hcz14_1
          try clear hcz14_10
          try clear hcz14_2
          try clear hcz14_3
          try clear hcz14_4
          try clear hcz14_5
          try clear hcz14_6
          try clear hcz14_7
          try clear hcz14_8
          try clear hcz14_9
          try clear hcz15_0
          try clear hcz15_1
          try clear hcz15_10
          try clear hcz15_2
          try clear hcz15_3
          try clear hcz15_4
          try clear hcz15_5
          try clear hcz15_6
          try clear hcz15_7
          try clear hcz15_8
          try clear hcz15_9
          try clear hcz7_0
          try clear hcz7_1
          try clear hcz7_10
          try clear hcz7_2
          try clear hcz7_3
          try clear hcz7_4
          try clear hcz7_5
          try clear hcz7_6
          try clear hcz7_7
          try clear hcz7_8
          try clear hcz7_9
          try clear hfz11_0
          try clear hfz11_1
          try clear hfz11_10
          try clear hfz11_2
          try clear hfz11_3
          try clear hfz11_4
          try clear hfz11_5
          try clear hfz11_6
          try clear hfz11_7
          try clear hfz11_8
          try clear hfz11_9
          try clear hfz14_0
          try clear hfz14_1
          try clear hfz14_10
          try clear hfz14_2
          try clear hfz14_3
          try clear hfz14_4
          try clear hfz14_5
          try clear hfz14_6
          try clear hfz14_7
          try clear hfz14_8
          try clear hfz14_9
          try clear hfz15_0
          try clear hfz15_1
          try clear hfz15_10
          try clear hfz15_2
          try clear hfz15_3
          try clear hfz15_4
          try clear hfz15_5
          try clear hfz15_6
          try clear hfz15_7
          try clear hfz15_8
          try clear hfz15_9
          try clear hfz7_0
          try clear hfz7_1
          try clear hfz7_10
          try clear hfz7_2
          try clear hfz7_3
          try clear hfz7_4
          try clear hfz7_5
          try clear hfz7_6
          try clear hfz7_7
          try clear hfz7_8
          try clear hfz7_9
          try clear p2
          obtain ⟨kq, x32_8, rfl, HA, HJ8, BK179, HB⟩ := hcut
          cases kq with
          | zero => exact absurd HA.out (by simp [cardexref22_How.j1])
          | succ kj8 =>
            have H := HA.out
            clear HA
            simp only [cardexref22_How.j1] at H
            by_cases c16 : x32_8 = true
            · subst c16
              have H1 : (some 3) = some r := by rw [if_pos rfl] at H; exact H
              clear H
              have H := H1
              clear H1
              obtain rfl := Option.some.inj H
              go_wp2
              go_ret
              exact ⟨by first | rfl | (simp [errW_none, errW_some] <;> rfl) | (simp [*, errW_none, errW_some] <;> rfl), by repeat (first | (with_reducible first | exact HB.out | apply below_alloc | apply pw_below_drewN | apply below_drew1 | refine below_set ?_ GE179.out) | exact HB.out)⟩
            · replace c16 := Bool.eq_false_iff.mpr c16
              subst c16
              have H1 : (if a1 = 0 then (some 1) else (if a1 = a0_3 then (some 4) else (some 0))) = some r := by rw [if_neg (show ¬ (false = true) by decide)] at H; exact H
              clear H
              have H := H1
              clear H1
              by_cases c17 : a1 = 0
              · rw [if_pos c17] at H
                have c17b0 : (a1 == 0) = true := beq_iff_eq.mpr c17
                have c17b1 : (a1 != 0) = false := bne_eq_false_iff_eq.mpr c17
                clear c17
                obtain rfl := Option.some.inj H
                go_wp2
                go_ret
                exact ⟨by first | rfl | (simp [errW_none, errW_some] <;> rfl) | (simp [*, errW_none, errW_some] <;> rfl), by repeat (first | (with_reducible first | exact HB.out | apply below_alloc | apply pw_below_drewN | apply below_drew1 | refine below_set ?_ GE179.out) | exact HB.out)⟩
              · rw [if_neg c17] at H
                have c17b0 : (a1 == 0) = false := beq_eq_false_iff_ne.mpr c17
                have c17b1 : (a1 != 0) = true := bne_iff_ne.mpr c17
                by_cases c18 : a1 = a0_3
                · rw [if_pos c18] at H
                  have c18b0 : (a1 == a0_3) = true := beq_iff_eq.mpr c18
                  have c18b1 : (a1 != a0_3) = false := bne_eq_false_iff_eq.mpr c18
                  clear c18
                  obtain rfl := Option.some.inj H
                  have hcz19_0 : wc.cell? ⟨gb179, 0, none⟩ = some (.int .u32 a0_0) := (blk_cell BK179.out 0).trans rfl
                  have hcz19_1 : wc.cell? ⟨gb179, 1, none⟩ = some (.slice A0_1 l0_1.length c0_1) := (blk_cell BK179.out 1).trans rfl
                  have hcz19_2 : wc.cell? ⟨gb179, 2, none⟩ = some (.slice A0_2 l0_2.length c0_2) := (blk_cell BK179.out 2).trans rfl
                  have hcz19_3 : wc.cell? ⟨gb179, 3, none⟩ = some (.int .u32 a0_3) := (blk_cell BK179.out 3).trans rfl
                  have hcz19_4 : wc.cell? ⟨gb179, 4, none⟩ = some (.slice A0_4 l0_4.length c0_4) := (blk_cell BK179.out 4).trans rfl
                  have hcz19_5 : wc.cell? ⟨gb179, 5, none⟩ = some (.slice A0_5 l0_5.length c0_5) := (blk_cell BK179.out 5).trans rfl
                  have hcz19_6 : wc.cell? ⟨gb179, 6, none⟩ = some (.slice A0_6 l0_6.length c0_6) := (blk_cell BK179.out 6).trans rfl
                  have hcz19_7 : wc.cell? ⟨gb179, 7, none⟩ = some (.slice A0_7 l0_7.length c0_7) := (blk_cell BK179.out 7).trans rfl
                  have hcz19_8 : wc.cell? ⟨gb179, 8, none⟩ = some (.bool a0_8) := (blk_cell BK179.out 8).trans rfl
                  have hcz19_9 : wc.cell? ⟨gb179, 9, none⟩ = some (.int .u8 a0_9) := (blk_cell BK179.out 9).trans rfl
                  have hcz19_10 : wc.cell? ⟨gb179, 10, none⟩ = some (.int .u8 a0_10) := (blk_cell BK179.out 10).trans rfl
                  have hfz19_0 := blk_frozen BK179.out 0
                  have hfz19_1 := blk_frozen BK179.out 1
                  have hfz19_2 := blk_frozen BK179.out 2
                  have hfz19_3 := blk_frozen BK179.out 3
                  have hfz19_4 := blk_frozen BK179.out 4
                  have hfz19_5 := blk_frozen BK179.out 5
                  have hfz19_6 := blk_frozen BK179.out 6
                  have hfz19_7 := blk_frozen BK179.out 7
                  have hfz19_8 := blk_frozen BK179.out 8
                  have hfz19_9 := blk_frozen BK179.out 9
                  have hfz19_10 := blk_frozen BK179.out 10
                  go_wp2
                  go_ret
                  exact ⟨by first | rfl | (simp [errW_none, errW_some] <;> rfl) | (simp [*, errW_none, errW_some] <;> rfl), by repeat (first | (with_reducible first | exact HB.out | apply below_alloc | apply pw_below_drewN | apply below_drew1 | refine below_set ?_ GE179.out) | exact HB.out)⟩
                · rw [if_neg c18] at H
                  have c18b0 : (a1 == a0_3) = false := beq_eq_false_iff_ne.mpr c18
                  have c18b1 : (a1 != a0_3) = true := bne_iff_ne.mpr c18
                  obtain rfl := Option.some.inj H
                  have hcz20_0 : wc.cell? ⟨gb179, 0, none⟩ = some (.int .u32 a0_0) := (blk_cell BK179.out 0).trans rfl
                  have hcz20_1 : wc.cell? ⟨gb179, 1, none⟩ = some (.slice A0_1 l0_1.length c0_1) := (blk_cell BK179.out 1).trans rfl
                  have hcz20_2 : wc.cell? ⟨gb179, 2, none⟩ = some (.slice A0_2 l0_2.length c0_2) := (blk_cell BK179.out 2).trans rfl
                  have hcz20_3 : wc.cell? ⟨gb179, 3, none⟩ = some (.int .u32 a0_3) := (blk_cell BK179.out 3).trans rfl
                  have hcz20_4 : wc.cell? ⟨gb179, 4, none⟩ = some (.slice A0_4 l0_4.length c0_4) := (blk_cell BK179.out 4).trans rfl
                  have hcz20_5 : wc.cell? ⟨gb179, 5, none⟩ = some (.slice A0_5 l0_5.length c0_5) := (blk_cell BK179.out 5).trans rfl
                  have hcz20_6 : wc.cell? ⟨gb179, 6, none⟩ = some (.slice A0_6 l0_6.length c0_6) := (blk_cell BK179.out 6).trans rfl
                  have hcz20_7 : wc.cell? ⟨gb179, 7, none⟩ = some (.slice A0_7 l0_7.length c0_7) := (blk_cell BK179.out 7).trans rfl
                  have hcz20_8 : wc.cell? ⟨gb179, 8, none⟩ = some (.bool a0_8) := (blk_cell BK179.out 8).trans rfl
                  have hcz20_9 : wc.cell? ⟨gb179, 9, none⟩ = some (.int .u8 a0_9) := (blk_cell BK179.out 9).trans rfl
                  have hcz20_10 : wc.cell? ⟨gb179, 10, none⟩ = some (.int .u8 a0_10) := (blk_cell BK179.out 10).trans rfl
                  have hfz20_0 := blk_frozen BK179.out 0
                  have hfz20_1 := blk_frozen BK179.out 1
                  have hfz20_2 := blk_frozen BK179.out 2
                  have hfz20_3 := blk_frozen BK179.out 3
                  have hfz20_4 := blk_frozen BK179.out 4
                  have hfz20_5 := blk_frozen BK179.out 5
                  have hfz20_6 := blk_frozen BK179.out 6
                  have hfz20_7 := blk_frozen BK179.out 7
                  have hfz20_8 := blk_frozen BK179.out 8
                  have hfz20_9 := blk_frozen BK179.out 9
                  have hfz20_10 := blk_frozen BK179.out 10
                  go_wp2
                  go_ret
                  exact ⟨by first | rfl | (simp [errW_none, errW_some] <;> rfl) | (simp [*, errW_none, errW_some] <;> rfl), by repeat (first | (with_reducible first | exact HB.out | apply below_alloc | apply pw_below_drewN | apply below_drew1 | refine below_set ?_ GE179.out) | exact HB.out)⟩

/-! ### cardexref22_Clients: function 36 -/
def cardexref22_Clients.f (k : Nat) (l0 : List (S60)) (l1 : List (S60)) : Option (Bool) := (cardexref22_sameClients.f k l0 l1).bind fun t181 => (some t181)
theorem cardexref22_Clients.mono : ∀ a0 a1 k, LeO (cardexref22_Clients.f k a0 a1) (cardexref22_Clients.f (k + 1) a0 a1) := by
  intro a0 a1 k
  unfold cardexref22_Clients.f
  repeat' first
      | (with_reducible exact cardexref22_sameClients.mono _ _ _)
      | (with_reducible exact LeO.refl _)
      | (with_reducible exact LeO.none _)
      | (with_reducible refine LeO.ite ?_ ?_)
      | (with_reducible refine LeO.bind ?_ (fun _ => ?_))
      | exact cardexref22_sameClients.mono _ _ _
      | exact LeO.none _
      | refine LeO.ite ?_ ?_
      | refine LeO.bind ?_ (fun _ => ?_)
set_option maxHeartbeats 8000000 in
set_option maxRecDepth 100000 in
theorem cardexref22_Clients.calls (k : Nat) (A0 : Option Addr) (c0 : Nat) (l0 : List (S60)) (A1 : Option Addr) (c1 : Nat) (l1 : List (S60)) (r : Bool) (w : World) (hr0 : Kd.C k60 w A0 l0.length l0) (hc0 : l0.length ≤ c0) (hr1 : Kd.C k60 w A1 l1.length l1) (hc1 : l1.length ≤ c1) (h : cardexref22_Clients.f k l0 l1 = some r) :
    Calls Try.prog 36 #[.slice A0 l0.length c0, .slice A1 l1.length c1] w fun e w' => e = .returned (.bool r) ∧ Drawn0 w w' := by
  have HR0 := Aside0.mk hr0
  have HC0 := Aside0.mk hc0
  clear hr0 hc0
  have HR1 := Aside0.mk hr1
  have HC1 := Aside0.mk hc1
  clear hr1 hc1
  have H : ((cardexref22_sameClients.f k l0 l1).bind fun t181 => (some t181)) = some r := h
  clear h
  replace H := Option.bind_eq_some_iff.mp H
  obtain ⟨t181, A30, H⟩ := H
  replace H : (some t181) = some r := H
  have A3 := Aside0.mk A30
  clear A30
  obtain rfl := Option.some.inj H
  go_enter Try.func36, Try.ntmps36
  go_wp2_with (first | ((with_reducible refine gate_callee (f := 60) rfl ?_); refine goesL_ (some 7) rfl rfl Try.func60 (by kernel_rfl) rfl #[.slice A0 l0.length c0, .slice A1 l1.length c1] rfl (by (try simp only [List.map_toArray, List.map_cons, List.map_nil]); first | done | rfl | (simp only [List.length_drop, List.length_take]; rfl)) ?_; (with_reducible refine (cardexref22_sameClients.calls k _ _ l0 _ _ l1 t181 _ ?side1 ?side2 ?side3 ?side4 A3.out).mono ?_); (case side1 => repeat (first | exact HR0.out | (with_reducible refine Kd.C_alloc ?_ _) | (with_reducible refine Kd.C_drewN ?_ _) | (with_reducible refine Kd.C_drew ?_))); (case side2 => exact HC0.out); (case side3 => repeat (first | exact HR1.out | (with_reducible refine Kd.C_alloc ?_ _) | (with_reducible refine Kd.C_drewN ?_ _) | (with_reducible refine Kd.C_drew ?_))); (case side4 => exact HC1.out); rintro e w' ⟨rfl, ⟨nd, rfl⟩⟩; refine ⟨_, rfl, ?_⟩))
  go_ret
  exact ⟨by first | rfl | (simp; done) | (simp [*]; done), by repeat (first | exact Drawn0.refl _ | apply Drawn0.step)⟩

end Go.Proofs.Ytpanefmemabckab.GenS
