/- Printed out of the translation by this session's program: for Go functions, Lean functions with the same answers, and the proofs of that. -/
import Derived.Test.YtpanefmemabckaaCrcOnx0
namespace Go.Proofs.Ytpanefmemabckaa.CrcOn
open Go.RowKit Go.Proofs.Ytpanefmemabckaa.CrcA Go.Proofs.YtpanefmemabckaaW.PrintWords Go.Proofs.YtpanefmemabckaaW.PrintLast Go.Proofs.YtpanefmemabckaaW.PrintMore
attribute [local go_sem] max2_int min2_int max_two min_two max_three min_three max_four min_four   -- for this text's walks alone
set_option linter.unusedVariables false
set_option linter.unusedSimpArgs false

-- NOT PRINTED: function 60 (crc_fours)

/-! ### cardexlaw03_lives: function 32 -/
def cardexlaw03_lives.f : Option (Bool) := some true
theorem cardexlaw03_lives.calls (r : Bool) (w : World) (h : cardexlaw03_lives.f = some r) :
    Calls Try.prog 32 #[] w fun e w' => e = .returned (.bool r) ∧ Below w.heap.size w w' := by
  obtain rfl := Option.some.inj h
  exact CrcLives.lives_calls w

/-! ### cardexlaw03_CrcOn: function 8 -/
mutual
def cardexlaw03_CrcOn.j0 : Nat → Int → Int → Bool → Option (Bool)
  | 0, _, _, _ => none
  | k + 1, x0, x9, x52 => if x52 = true then (some false) else (cardexlaw03_CrcOn.l0 k x0 x9 x0 0)
def cardexlaw03_CrcOn.l0 : Nat → Int → Int → Int → Int → Option (Bool)
  | 0, _, _, _, _ => none
  | k + 1, x0, x9, x11, x12 => if x12 < (Int.tmod x9 100) then ((crc_Into.f x11 0).bind fun t108 => (cardexlaw03_CrcOn.l0 k x0 x9 t108 (wrap64 (x12 + 1)))) else ((crc_On.f k x0 (Int.tmod x9 100)).bind fun t109 => (if x11 = t109 then ((cardexlaw03_lives.f).bind fun t110 => (some t110)) else (some false)))
end
def cardexlaw03_CrcOn.f (k : Nat) (a0 : Int) (a1 : Int) (a2 : Int) (a3 : Int) : Option (Bool) := (crc_On.f k a0 (wrap64 (Int.tmod a2 1073741824))).bind fun t101 => ((crc_On.f k t101 (wrap64 (Int.tmod a3 1073741824))).bind fun t102 => ((crc_On.f k a0 (wrap64 ((wrap64 (Int.tmod a2 1073741824)) + (wrap64 (Int.tmod a3 1073741824))))).bind fun t103 => (if t102 = t103 then ((crc_On.f k a0 (wrap64 (Int.tmod a2 1073741824))).bind fun t104 => ((crc_On.f k a1 (wrap64 (Int.tmod a2 1073741824))).bind fun t105 => ((crc_On.f k (Go.bits .xor .u32 a0 a1) (wrap64 (Int.tmod a2 1073741824))).bind fun t106 => (if (Go.bits .xor .u32 t104 t105) = t106 then ((crc_On.f k a0 (wrap64 (-(wrap64 (Int.tmod a3 1073741824))))).bind fun t107 => (cardexlaw03_CrcOn.j0 k a0 (wrap64 (Int.tmod a2 1073741824)) (t107 != a0))) else (cardexlaw03_CrcOn.j0 k a0 (wrap64 (Int.tmod a2 1073741824)) true))))) else (cardexlaw03_CrcOn.j0 k a0 (wrap64 (Int.tmod a2 1073741824)) true))))
theorem cardexlaw03_CrcOn.mono_l : ∀ k, (∀ y0 y1 y2, LeO (cardexlaw03_CrcOn.j0 k y0 y1 y2) (cardexlaw03_CrcOn.j0 (k + 1) y0 y1 y2)) ∧ (∀ y0 y1 y2 y3, LeO (cardexlaw03_CrcOn.l0 k y0 y1 y2 y3) (cardexlaw03_CrcOn.l0 (k + 1) y0 y1 y2 y3))
  | 0 => ⟨fun _ _ _ r h => by simp [cardexlaw03_CrcOn.j0] at h, fun _ _ _ _ r h => by simp [cardexlaw03_CrcOn.l0] at h⟩
  | k + 1 => by
    obtain ⟨ih0, ih1⟩ := cardexlaw03_CrcOn.mono_l k
    refine ⟨?_, ?_⟩
    · intro y0 y1 y2
      unfold cardexlaw03_CrcOn.j0
      repeat' first
      | (with_reducible exact ih0 _ _ _)
      | (with_reducible exact ih1 _ _ _ _)
      | (with_reducible exact crc_On.mono _ _ _)
      | (with_reducible exact LeO.refl _)
      | (with_reducible exact LeO.none _)
      | (with_reducible refine LeO.ite ?_ ?_)
      | (with_reducible refine LeO.bind ?_ (fun _ => ?_))
      | exact ih0 _ _ _
      | exact ih1 _ _ _ _
      | exact crc_On.mono _ _ _
      | exact LeO.none _
      | refine LeO.ite ?_ ?_
      | refine LeO.bind ?_ (fun _ => ?_)
    · intro y0 y1 y2 y3
      unfold cardexlaw03_CrcOn.l0
      repeat' first
      | (with_reducible exact ih0 _ _ _)
      | (with_reducible exact ih1 _ _ _ _)
      | (with_reducible exact crc_On.mono _ _ _)
      | (with_reducible exact LeO.refl _)
      | (with_reducible exact LeO.none _)
      | (with_reducible refine LeO.ite ?_ ?_)
      | (with_reducible refine LeO.bind ?_ (fun _ => ?_))
      | exact ih0 _ _ _
      | exact ih1 _ _ _ _
      | exact crc_On.mono _ _ _
      | exact LeO.none _
      | refine LeO.ite ?_ ?_
      | refine LeO.bind ?_ (fun _ => ?_)
theorem cardexlaw03_CrcOn.mono : ∀ a0 a1 a2 a3 k, LeO (cardexlaw03_CrcOn.f k a0 a1 a2 a3) (cardexlaw03_CrcOn.f (k + 1) a0 a1 a2 a3) := by
  intro a0 a1 a2 a3 k
  obtain ⟨ih0, ih1⟩ := cardexlaw03_CrcOn.mono_l k
  unfold cardexlaw03_CrcOn.f
  repeat' first
      | (with_reducible exact ih0 _ _ _)
      | (with_reducible exact ih1 _ _ _ _)
      | (with_reducible exact crc_On.mono _ _ _)
      | (with_reducible exact LeO.refl _)
      | (with_reducible exact LeO.none _)
      | (with_reducible refine LeO.ite ?_ ?_)
      | (with_reducible refine LeO.bind ?_ (fun _ => ?_))
      | exact ih0 _ _ _
      | exact ih1 _ _ _ _
      | exact crc_On.mono _ _ _
      | exact LeO.none _
      | refine LeO.ite ?_ ?_
      | refine LeO.bind ?_ (fun _ => ?_)
set_option maxHeartbeats 8000000 in
set_option maxRecDepth 100000 in
theorem cardexlaw03_CrcOn.calls (k : Nat) (a0 : Int) (a1 : Int) (a2 : Int) (a3 : Int) (r : Bool) (w : World) (h : cardexlaw03_CrcOn.f k a0 a1 a2 a3 = some r) :
    Calls Try.prog 8 #[.int .u32 a0, .int .u32 a1, .int .u32 a2, .int .u32 a3] w fun e w' => e = .returned (.bool r) ∧ Below w.heap.size w w' := by
  have HB := Aside0.mk (Below.refl w.heap.size w)
  have H : ((crc_On.f k a0 (wrap64 (Int.tmod a2 1073741824))).bind fun t101 => ((crc_On.f k t101 (wrap64 (Int.tmod a3 1073741824))).bind fun t102 => ((crc_On.f k a0 (wrap64 ((wrap64 (Int.tmod a2 1073741824)) + (wrap64 (Int.tmod a3 1073741824))))).bind fun t103 => (if t102 = t103 then ((crc_On.f k a0 (wrap64 (Int.tmod a2 1073741824))).bind fun t104 => ((crc_On.f k a1 (wrap64 (Int.tmod a2 1073741824))).bind fun t105 => ((crc_On.f k (Go.bits .xor .u32 a0 a1) (wrap64 (Int.tmod a2 1073741824))).bind fun t106 => (if (Go.bits .xor .u32 t104 t105) = t106 then ((crc_On.f k a0 (wrap64 (-(wrap64 (Int.tmod a3 1073741824))))).bind fun t107 => (cardexlaw03_CrcOn.j0 k a0 (wrap64 (Int.tmod a2 1073741824)) (t107 != a0))) else (cardexlaw03_CrcOn.j0 k a0 (wrap64 (Int.tmod a2 1073741824)) true))))) else (cardexlaw03_CrcOn.j0 k a0 (wrap64 (Int.tmod a2 1073741824)) true))))) = some r := h
  clear h
  have HC5 := Aside0.mk H
  clear H
  go_enter Try.func8, Try.ntmps8
  go_upto_region 2 with (fail)
  go_cut [52] (fun v52 wc => ∃ (kq : Nat) (x52_4 : Bool), v52 = .bool x52_4 ∧ Aside0 (cardexlaw03_CrcOn.j0 kq a0 (wrap64 (Int.tmod a2 1073741824)) x52_4 = some r) ∧ Aside0 (kq ≤ k) ∧ Aside0 (Below w.heap.size w wc))
  case first =>
    have H := HC5.out
    clear HC5
    replace H := Option.bind_eq_some_iff.mp H
    obtain ⟨t101, A60, H⟩ := H
    replace H : ((crc_On.f k t101 (wrap64 (Int.tmod a3 1073741824))).bind fun t102 => ((crc_On.f k a0 (wrap64 ((wrap64 (Int.tmod a2 1073741824)) + (wrap64 (Int.tmod a3 1073741824))))).bind fun t103 => (if t102 = t103 then ((crc_On.f k a0 (wrap64 (Int.tmod a2 1073741824))).bind fun t104 => ((crc_On.f k a1 (wrap64 (Int.tmod a2 1073741824))).bind fun t105 => ((crc_On.f k (Go.bits .xor .u32 a0 a1) (wrap64 (Int.tmod a2 1073741824))).bind fun t106 => (if (Go.bits .xor .u32 t104 t105) = t106 then ((crc_On.f k a0 (wrap64 (-(wrap64 (Int.tmod a3 1073741824))))).bind fun t107 => (cardexlaw03_CrcOn.j0 k a0 (wrap64 (Int.tmod a2 1073741824)) (t107 != a0))) else (cardexlaw03_CrcOn.j0 k a0 (wrap64 (Int.tmod a2 1073741824)) true))))) else (cardexlaw03_CrcOn.j0 k a0 (wrap64 (Int.tmod a2 1073741824)) true)))) = some r := H
    have A6 := Aside0.mk A60
    clear A60
    replace H := Option.bind_eq_some_iff.mp H
    obtain ⟨t102, A70, H⟩ := H
    replace H : ((crc_On.f k a0 (wrap64 ((wrap64 (Int.tmod a2 1073741824)) + (wrap64 (Int.tmod a3 1073741824))))).bind fun t103 => (if t102 = t103 then ((crc_On.f k a0 (wrap64 (Int.tmod a2 1073741824))).bind fun t104 => ((crc_On.f k a1 (wrap64 (Int.tmod a2 1073741824))).bind fun t105 => ((crc_On.f k (Go.bits .xor .u32 a0 a1) (wrap64 (Int.tmod a2 1073741824))).bind fun t106 => (if (Go.bits .xor .u32 t104 t105) = t106 then ((crc_On.f k a0 (wrap64 (-(wrap64 (Int.tmod a3 1073741824))))).bind fun t107 => (cardexlaw03_CrcOn.j0 k a0 (wrap64 (Int.tmod a2 1073741824)) (t107 != a0))) else (cardexlaw03_CrcOn.j0 k a0 (wrap64 (Int.tmod a2 1073741824)) true))))) else (cardexlaw03_CrcOn.j0 k a0 (wrap64 (Int.tmod a2 1073741824)) true))) = some r := H
    have A7 := Aside0.mk A70
    clear A70
    replace H := Option.bind_eq_some_iff.mp H
    obtain ⟨t103, A80, H⟩ := H
    replace H : (if t102 = t103 then ((crc_On.f k a0 (wrap64 (Int.tmod a2 1073741824))).bind fun t104 => ((crc_On.f k a1 (wrap64 (Int.tmod a2 1073741824))).bind fun t105 => ((crc_On.f k (Go.bits .xor .u32 a0 a1) (wrap64 (Int.tmod a2 1073741824))).bind fun t106 => (if (Go.bits .xor .u32 t104 t105) = t106 then ((crc_On.f k a0 (wrap64 (-(wrap64 (Int.tmod a3 1073741824))))).bind fun t107 => (cardexlaw03_CrcOn.j0 k a0 (wrap64 (Int.tmod a2 1073741824)) (t107 != a0))) else (cardexlaw03_CrcOn.j0 k a0 (wrap64 (Int.tmod a2 1073741824)) true))))) else (cardexlaw03_CrcOn.j0 k a0 (wrap64 (Int.tmod a2 1073741824)) true)) = some r := H
    have A8 := Aside0.mk A80
    clear A80
    by_cases c9 : t102 = t103
    · rw [if_pos c9] at H
      have c9b0 : (t102 == t103) = true := beq_iff_eq.mpr c9
      have c9b1 : (t102 != t103) = false := bne_eq_false_iff_eq.mpr c9
      clear c9
      (first | rw [c9b0] | (simp only [i64_w, i32_w]; rw [c9b0]) | skip)
      replace H := Option.bind_eq_some_iff.mp H
      obtain ⟨t104, A100, H⟩ := H
      replace H : ((crc_On.f k a1 (wrap64 (Int.tmod a2 1073741824))).bind fun t105 => ((crc_On.f k (Go.bits .xor .u32 a0 a1) (wrap64 (Int.tmod a2 1073741824))).bind fun t106 => (if (Go.bits .xor .u32 t104 t105) = t106 then ((crc_On.f k a0 (wrap64 (-(wrap64 (Int.tmod a3 1073741824))))).bind fun t107 => (cardexlaw03_CrcOn.j0 k a0 (wrap64 (Int.tmod a2 1073741824)) (t107 != a0))) else (cardexlaw03_CrcOn.j0 k a0 (wrap64 (Int.tmod a2 1073741824)) true)))) = some r := H
      have A10 := Aside0.mk A100
      clear A100
      replace H := Option.bind_eq_some_iff.mp H
      obtain ⟨t105, A110, H⟩ := H
      replace H : ((crc_On.f k (Go.bits .xor .u32 a0 a1) (wrap64 (Int.tmod a2 1073741824))).bind fun t106 => (if (Go.bits .xor .u32 t104 t105) = t106 then ((crc_On.f k a0 (wrap64 (-(wrap64 (Int.tmod a3 1073741824))))).bind fun t107 => (cardexlaw03_CrcOn.j0 k a0 (wrap64 (Int.tmod a2 1073741824)) (t107 != a0))) else (cardexlaw03_CrcOn.j0 k a0 (wrap64 (Int.tmod a2 1073741824)) true))) = some r := H
      have A11 := Aside0.mk A110
      clear A110
      replace H := Option.bind_eq_some_iff.mp H
      obtain ⟨t106, A120, H⟩ := H
      replace H : (if (Go.bits .xor .u32 t104 t105) = t106 then ((crc_On.f k a0 (wrap64 (-(wrap64 (Int.tmod a3 1073741824))))).bind fun t107 => (cardexlaw03_CrcOn.j0 k a0 (wrap64 (Int.tmod a2 1073741824)) (t107 != a0))) else (cardexlaw03_CrcOn.j0 k a0 (wrap64 (Int.tmod a2 1073741824)) true)) = some r := H
      have A12 := Aside0.mk A120
      clear A120
      by_cases c13 : (Go.bits .xor .u32 t104 t105) = t106
      · rw [if_pos c13] at H
        have c13b0 : ((Go.bits .xor .u32 t104 t105) == t106) = true := beq_iff_eq.mpr c13
        have c13b1 : ((Go.bits .xor .u32 t104 t105) != t106) = false := bne_eq_false_iff_eq.mpr c13
        clear c13
        replace H := Option.bind_eq_some_iff.mp H
        obtain ⟨t107, A140, H⟩ := H
        replace H : (cardexlaw03_CrcOn.j0 k a0 (wrap64 (Int.tmod a2 1073741824)) (t107 != a0)) = some r := H
        have A14 := Aside0.mk A140
        clear A140
        have H' := Aside0.mk H
        clear H
        go_wp2_with (first | ((with_reducible refine gate_callee (f := 21) rfl ?_); refine goesL_ (some 21) rfl rfl Try.func21 (by kernel_rfl) rfl #[.int .u32 a0, .int .i64 (wrap64 (Int.tmod a2 1073741824))] rfl (by (try simp only [List.map_toArray, List.map_cons, List.map_nil]); first | done | rfl | (simp only [List.length_drop, List.length_take]; rfl)) ?_; (with_reducible refine (crc_On.calls k a0 (wrap64 (Int.tmod a2 1073741824)) t101 _ A6.out).mono ?_); rintro e w' ⟨rfl, ⟨nd, rfl⟩⟩; refine ⟨_, rfl, ?_⟩) | ((with_reducible refine gate_callee (f := 21) rfl ?_); refine goesL_ (some 23) rfl rfl Try.func21 (by kernel_rfl) rfl #[.int .u32 t101, .int .i64 (wrap64 (Int.tmod a3 1073741824))] rfl (by (try simp only [List.map_toArray, List.map_cons, List.map_nil]); first | done | rfl | (simp only [List.length_drop, List.length_take]; rfl)) ?_; (with_reducible refine (crc_On.calls k t101 (wrap64 (Int.tmod a3 1073741824)) t102 _ A7.out).mono ?_); rintro e w' ⟨rfl, ⟨nd, rfl⟩⟩; refine ⟨_, rfl, ?_⟩) | ((with_reducible refine gate_callee (f := 21) rfl ?_); refine goesL_ (some 28) rfl rfl Try.func21 (by kernel_rfl) rfl #[.int .u32 a0, .int .i64 (wrap64 ((wrap64 (Int.tmod a2 1073741824)) + (wrap64 (Int.tmod a3 1073741824))))] rfl (by (try simp only [List.map_toArray, List.map_cons, List.map_nil]); first | done | rfl | (simp only [List.length_drop, List.length_take]; rfl)) ?_; (with_reducible refine (crc_On.calls k a0 (wrap64 ((wrap64 (Int.tmod a2 1073741824)) + (wrap64 (Int.tmod a3 1073741824)))) t103 _ A8.out).mono ?_); rintro e w' ⟨rfl, ⟨nd, rfl⟩⟩; refine ⟨_, rfl, ?_⟩) | (go_at_call 21; (with_reducible refine (crc_On.calls k a0 (wrap64 (Int.tmod a2 1073741824)) t104 _ A10.out).mono ?_); rintro e w' ⟨rfl, ⟨nd, rfl⟩⟩) | (go_at_call 21; (with_reducible refine (crc_On.calls k a1 (wrap64 (Int.tmod a2 1073741824)) t105 _ A11.out).mono ?_); rintro e w' ⟨rfl, ⟨nd, rfl⟩⟩) | (go_at_call 21; (with_reducible refine (crc_On.calls k (Go.bits .xor .u32 a0 a1) (wrap64 (Int.tmod a2 1073741824)) t106 _ A12.out).mono ?_); rintro e w' ⟨rfl, ⟨nd, rfl⟩⟩) | (go_at_call 21; (with_reducible refine (crc_On.calls k a0 (wrap64 (-(wrap64 (Int.tmod a3 1073741824)))) t107 _ A14.out).mono ?_); rintro e w' ⟨rfl, ⟨nd, rfl⟩⟩))
        go_meet
        case rel => exact ⟨_, ((t107 != a0)), (by first | rfl | (simp; done) | (simp [*]; done)), H', ⟨by first | omega | exact Nat.le_refl _⟩, ⟨by repeat (first | (with_reducible first | exact HB.out | apply below_alloc | apply pw_below_drewN | apply below_drew1) | exact HB.out)⟩⟩
      · rw [if_neg c13] at H
        have c13b0 : ((Go.bits .xor .u32 t104 t105) == t106) = false := beq_eq_false_iff_ne.mpr c13
        have c13b1 : ((Go.bits .xor .u32 t104 t105) != t106) = true := bne_iff_ne.mpr c13
        have H' := Aside0.mk H
        clear H
        go_wp2_with (first | ((with_reducible refine gate_callee (f := 21) rfl ?_); refine goesL_ (some 21) rfl rfl Try.func21 (by kernel_rfl) rfl #[.int .u32 a0, .int .i64 (wrap64 (Int.tmod a2 1073741824))] rfl (by (try simp only [List.map_toArray, List.map_cons, List.map_nil]); first | done | rfl | (simp only [List.length_drop, List.length_take]; rfl)) ?_; (with_reducible refine (crc_On.calls k a0 (wrap64 (Int.tmod a2 1073741824)) t101 _ A6.out).mono ?_); rintro e w' ⟨rfl, ⟨nd, rfl⟩⟩; refine ⟨_, rfl, ?_⟩) | ((with_reducible refine gate_callee (f := 21) rfl ?_); refine goesL_ (some 23) rfl rfl Try.func21 (by kernel_rfl) rfl #[.int .u32 t101, .int .i64 (wrap64 (Int.tmod a3 1073741824))] rfl (by (try simp only [List.map_toArray, List.map_cons, List.map_nil]); first | done | rfl | (simp only [List.length_drop, List.length_take]; rfl)) ?_; (with_reducible refine (crc_On.calls k t101 (wrap64 (Int.tmod a3 1073741824)) t102 _ A7.out).mono ?_); rintro e w' ⟨rfl, ⟨nd, rfl⟩⟩; refine ⟨_, rfl, ?_⟩) | ((with_reducible refine gate_callee (f := 21) rfl ?_); refine goesL_ (some 28) rfl rfl Try.func21 (by kernel_rfl) rfl #[.int .u32 a0, .int .i64 (wrap64 ((wrap64 (Int.tmod a2 1073741824)) + (wrap64 (Int.tmod a3 1073741824))))] rfl (by (try simp only [List.map_toArray, List.map_cons, List.map_nil]); first | done | rfl | (simp only [List.length_drop, List.length_take]; rfl)) ?_; (with_reducible refine (crc_On.calls k a0 (wrap64 ((wrap64 (Int.tmod a2 1073741824)) + (wrap64 (Int.tmod a3 1073741824)))) t103 _ A8.out).mono ?_); rintro e w' ⟨rfl, ⟨nd, rfl⟩⟩; refine ⟨_, rfl, ?_⟩) | (go_at_call 21; (with_reducible refine (crc_On.calls k a0 (wrap64 (Int.tmod a2 1073741824)) t104 _ A10.out).mono ?_); rintro e w' ⟨rfl, ⟨nd, rfl⟩⟩) | (go_at_call 21; (with_reducible refine (crc_On.calls k a1 (wrap64 (Int.tmod a2 1073741824)) t105 _ A11.out).mono ?_); rintro e w' ⟨rfl, ⟨nd, rfl⟩⟩) | (go_at_call 21; (with_reducible refine (crc_On.calls k (Go.bits .xor .u32 a0 a1) (wrap64 (Int.tmod a2 1073741824)) t106 _ A12.out).mono ?_); rintro e w' ⟨rfl, ⟨nd, rfl⟩⟩))
        go_meet
        case rel => exact ⟨_, (true), (by first | rfl | (simp; done) | (simp [*]; done)), H', ⟨by first | omega | exact Nat.le_refl _⟩, ⟨by repeat (first | (with_reducible first | exact HB.out | apply below_alloc | apply pw_below_drewN | apply below_drew1) | exact HB.out)⟩⟩
    · rw [if_neg c9] at H
      have c9b0 : (t102 == t103) = false := beq_eq_false_iff_ne.mpr c9
      have c9b1 : (t102 != t103) = true := bne_iff_ne.mpr c9
      (first | rw [c9b0] | (simp only [i64_w, i32_w]; rw [c9b0]) | skip)
      have H' := Aside0.mk H
      clear H
      go_wp2_with (first | ((with_reducible refine gate_callee (f := 21) rfl ?_); refine goesL_ (some 21) rfl rfl Try.func21 (by kernel_rfl) rfl #[.int .u32 a0, .int .i64 (wrap64 (Int.tmod a2 1073741824))] rfl (by (try simp only [List.map_toArray, List.map_cons, List.map_nil]); first | done | rfl | (simp only [List.length_drop, List.length_take]; rfl)) ?_; (with_reducible refine (crc_On.calls k a0 (wrap64 (Int.tmod a2 1073741824)) t101 _ A6.out).mono ?_); rintro e w' ⟨rfl, ⟨nd, rfl⟩⟩; refine ⟨_, rfl, ?_⟩) | ((with_reducible refine gate_callee (f := 21) rfl ?_); refine goesL_ (some 23) rfl rfl Try.func21 (by kernel_rfl) rfl #[.int .u32 t101, .int .i64 (wrap64 (Int.tmod a3 1073741824))] rfl (by (try simp only [List.map_toArray, List.map_cons, List.map_nil]); first | done | rfl | (simp only [List.length_drop, List.length_take]; rfl)) ?_; (with_reducible refine (crc_On.calls k t101 (wrap64 (Int.tmod a3 1073741824)) t102 _ A7.out).mono ?_); rintro e w' ⟨rfl, ⟨nd, rfl⟩⟩; refine ⟨_, rfl, ?_⟩) | ((with_reducible refine gate_callee (f := 21) rfl ?_); refine goesL_ (some 28) rfl rfl Try.func21 (by kernel_rfl) rfl #[.int .u32 a0, .int .i64 (wrap64 ((wrap64 (Int.tmod a2 1073741824)) + (wrap64 (Int.tmod a3 1073741824))))] rfl (by (try simp only [List.map_toArray, List.map_cons, List.map_nil]); first | done | rfl | (simp only [List.length_drop, List.length_take]; rfl)) ?_; (with_reducible refine (crc_On.calls k a0 (wrap64 ((wrap64 (Int.tmod a2 1073741824)) + (wrap64 (Int.tmod a3 1073741824)))) t103 _ A8.out).mono ?_); rintro e w' ⟨rfl, ⟨nd, rfl⟩⟩; refine ⟨_, rfl, ?_⟩))
      go_meet
      case rel => exact ⟨_, (true), (by first | rfl | (simp; done) | (simp [*]; done)), H', ⟨by first | omega | exact Nat.le_refl _⟩, ⟨by repeat (first | (with_reducible first | exact HB.out | apply below_alloc | apply pw_below_drewN | apply below_drew1) | exact HB.out)⟩⟩
  case rest =>
    clear HC5
    try clear c1
    try clear c2
    try clear p2
    try clear p6
    try clear c8
    try clear c9
    try clear c9b0
    try clear c9b1
    try clear c13
    try clear c13b0
    try clear c13b1
    obtain ⟨kq, x52_4, rfl, HA, HJ4, HB⟩ := hcut
    cases kq with
    | zero => exact absurd HA.out (by simp [cardexlaw03_CrcOn.j0])
    | succ kj4 =>
      have H := HA.out
      clear HA
      simp only [cardexlaw03_CrcOn.j0] at H
      by_cases c15 : x52_4 = true
      · subst c15
        have H1 : (some false) = some r := by rw [if_pos rfl] at H; exact H
        clear H
        have H := H1
        clear H1
        obtain rfl := Option.some.inj H
        go_wp2
        go_ret
        exact ⟨by first | rfl | (simp [errW_none, errW_some] <;> rfl) | (simp [*, errW_none, errW_some] <;> rfl), by repeat (first | (with_reducible first | exact HB.out | apply below_alloc | apply pw_below_drewN | apply below_drew1) | exact HB.out)⟩
      · replace c15 := Bool.eq_false_iff.mpr c15
        subst c15
        have H1 : (cardexlaw03_CrcOn.l0 kj4 a0 (wrap64 (Int.tmod a2 1073741824)) a0 0) = some r := by rw [if_neg (show ¬ (false = true) by decide)] at H; exact H
        clear H
        have H := H1
        clear H1
        have H' := Aside0.mk H
        clear H
        go_wp2
        go_loopg [11, 12] kj4 (fun kq v11 v12 w' => ∃ (x11_2 : Int) (x12_2 : Int), v11 = .int .u32 x11_2 ∧ v12 = .int .i64 x12_2 ∧ Aside0 (cardexlaw03_CrcOn.l0 kq a0 (wrap64 (Int.tmod a2 1073741824)) x11_2 x12_2 = some r) ∧ Aside0 (kq ≤ kj4) ∧ Aside0 (Below w.heap.size w w'))
        case atStart => exact ⟨(a0), (0), (by first | rfl | (simp; done) | (simp [*]; done)), (by first | rfl | (simp; done) | (simp [*]; done)), H', ⟨Nat.le_refl _⟩, ⟨by repeat (first | (with_reducible first | exact HB.out | apply below_alloc | apply pw_below_drewN | apply below_drew1) | exact HB.out)⟩⟩
        case round =>
          clear H'
          try clear c1
          try clear c2
          try clear p2
          try clear p6
          try clear c8
          try clear c9
          try clear c9b0
          try clear c9b1
          try clear c13
          try clear c13b0
          try clear c13b1
          try clear c15
          try clear p2
          try clear p6
          obtain ⟨x11_2, x12_2, rfl, rfl, HA, HK2, HB⟩ := hrel
          cases gk with
          | zero => exact absurd HA.out (by simp [cardexlaw03_CrcOn.l0])
          | succ k2 =>
            have H := HA.out
            clear HA
            simp only [cardexlaw03_CrcOn.l0] at H
            by_cases c16 : x12_2 < (Int.tmod (wrap64 (Int.tmod a2 1073741824)) 100)
            · rw [if_pos c16] at H
              have c16b0 : decide (x12_2 < (Int.tmod (wrap64 (Int.tmod a2 1073741824)) 100)) = true := decide_eq_true c16
              clear c16
              replace H := Option.bind_eq_some_iff.mp H
              obtain ⟨t108, A170, H⟩ := H
              replace H : (cardexlaw03_CrcOn.l0 k2 a0 (wrap64 (Int.tmod a2 1073741824)) t108 (wrap64 (x12_2 + 1))) = some r := H
              have A17 := Aside0.mk A170
              clear A170
              have H' := Aside0.mk H
              clear H
              go_wp2_with (first | ((with_reducible refine gate_callee (f := 25) rfl ?_); refine goesL_ (some 61) rfl rfl Try.func25 (by kernel_rfl) rfl #[.int .u32 x11_2, .int .u8 0] rfl (by (try simp only [List.map_toArray, List.map_cons, List.map_nil]); first | done | rfl | (simp only [List.length_drop, List.length_take]; rfl)) ?_; (with_reducible refine (crc_Into.calls x11_2 0 t108 _ A17.out).mono ?_); rintro e w18 ⟨rfl, hb⟩; refine ⟨_, rfl, ?_⟩; have n0_ := Aside0.mk (below_step (by repeat (first | (with_reducible first | exact HB.out | apply below_alloc | apply pw_below_drewN | apply below_drew1) | exact HB.out)) hb); clear HB; have HB := n0_; clear n0_; (try clear hb); (try clear hb2); (try clear hk); (try clear hi)))
              go_roundg k2
              case measure => have := HJ4.out; have := HK2.out; omega
              case rel => exact ⟨(t108), (wrap64 (x12_2 + 1)), (by first | rfl | (simp; done) | (simp [*]; done)), (by first | rfl | (simp; done) | (simp [*]; done)), H', ⟨by have := HJ4.out; have := HK2.out; omega⟩, ⟨by repeat (first | (with_reducible first | exact HB.out | apply below_alloc | apply pw_below_drewN | apply below_drew1) | exact HB.out)⟩⟩
            · rw [if_neg c16] at H
              have c16b0 : decide (x12_2 < (Int.tmod (wrap64 (Int.tmod a2 1073741824)) 100)) = false := decide_eq_false c16
              clear c16
              replace H := Option.bind_eq_some_iff.mp H
              obtain ⟨t109, A190, H⟩ := H
              replace H : (if x11_2 = t109 then ((cardexlaw03_lives.f).bind fun t110 => (some t110)) else (some false)) = some r := H
              have A19 := Aside0.mk A190
              clear A190
              by_cases c20 : x11_2 = t109
              · rw [if_pos c20] at H
                have c20b0 : (x11_2 == t109) = true := beq_iff_eq.mpr c20
                have c20b1 : (x11_2 != t109) = false := bne_eq_false_iff_eq.mpr c20
                clear c20
                replace H := Option.bind_eq_some_iff.mp H
                obtain ⟨t110, A210, H⟩ := H
                replace H : (some t110) = some r := H
                have A21 := Aside0.mk A210
                clear A210
                obtain rfl := Option.some.inj H
                go_wp2_with (first | ((with_reducible refine gate_callee (f := 21) rfl ?_); refine goesL_ (some 66) rfl rfl Try.func21 (by kernel_rfl) rfl #[.int .u32 a0, .int .i64 (Int.tmod (wrap64 (Int.tmod a2 1073741824)) 100)] rfl (by (try simp only [List.map_toArray, List.map_cons, List.map_nil]); first | done | rfl | (simp only [List.length_drop, List.length_take]; rfl)) ?_; (with_reducible refine (crc_On.calls k2 a0 (Int.tmod (wrap64 (Int.tmod a2 1073741824)) 100) t109 _ A19.out).mono ?_); rintro e w' ⟨rfl, ⟨nd, rfl⟩⟩; refine ⟨_, rfl, ?_⟩) | (go_at_call 32; (with_reducible refine (cardexlaw03_lives.calls  t110 _ A21.out).mono ?_); rintro e w22 ⟨rfl, hb⟩; have n0_ := Aside0.mk (below_step (by repeat (first | (with_reducible first | exact HB.out | apply below_alloc | apply pw_below_drewN | apply below_drew1) | exact HB.out)) hb); clear HB; have HB := n0_; clear n0_; (try clear hb); (try clear hb2); (try clear hk); (try clear hi)))
                go_ret
                exact ⟨by first | rfl | (simp [errW_none, errW_some] <;> rfl) | (simp [*, errW_none, errW_some] <;> rfl), by repeat (first | (with_reducible first | exact HB.out | apply below_alloc | apply pw_below_drewN | apply below_drew1) | exact HB.out)⟩
              · rw [if_neg c20] at H
                have c20b0 : (x11_2 == t109) = false := beq_eq_false_iff_ne.mpr c20
                have c20b1 : (x11_2 != t109) = true := bne_iff_ne.mpr c20
                obtain rfl := Option.some.inj H
                go_wp2_with (first | ((with_reducible refine gate_callee (f := 21) rfl ?_); refine goesL_ (some 66) rfl rfl Try.func21 (by kernel_rfl) rfl #[.int .u32 a0, .int .i64 (Int.tmod (wrap64 (Int.tmod a2 1073741824)) 100)] rfl (by (try simp only [List.map_toArray, List.map_cons, List.map_nil]); first | done | rfl | (simp only [List.length_drop, List.length_take]; rfl)) ?_; (with_reducible refine (crc_On.calls k2 a0 (Int.tmod (wrap64 (Int.tmod a2 1073741824)) 100) t109 _ A19.out).mono ?_); rintro e w' ⟨rfl, ⟨nd, rfl⟩⟩; refine ⟨_, rfl, ?_⟩))
                go_ret
                exact ⟨by first | rfl | (simp [errW_none, errW_some] <;> rfl) | (simp [*, errW_none, errW_some] <;> rfl), by repeat (first | (with_reducible first | exact HB.out | apply below_alloc | apply pw_below_drewN | apply below_drew1) | exact HB.out)⟩

/-- THE ONE PURE STATEMENT of cardexlaw03_CrcOn: yours. -/
def cardexlaw03_CrcOn.Pure : Prop := ∀ (a0 : Int) (a1 : Int) (a2 : Int) (a3 : Int), (Lit.int .u32 a0).wf = true → (Lit.int .u32 a1).wf = true → (Lit.int .u32 a2).wf = true → (Lit.int .u32 a3).wf = true → ∃ k, cardexlaw03_CrcOn.f k a0 a1 a2 a3 = some true
theorem cardexlaw03_CrcOn.walk (P : cardexlaw03_CrcOn.Pure) (a0 : Int) (a1 : Int) (a2 : Int) (a3 : Int) (w : World) (w0 : (Lit.int .u32 a0).wf = true) (w1 : (Lit.int .u32 a1).wf = true) (w2 : (Lit.int .u32 a2).wf = true) (w3 : (Lit.int .u32 a3).wf = true) :
    Calls Try.prog 8 #[.int .u32 a0, .int .u32 a1, .int .u32 a2, .int .u32 a3] w fun e w' => e = .returned (.bool true) ∧ Below w.heap.size w w' := by
  obtain ⟨k, h⟩ := P a0 a1 a2 a3 w0 w1 w2 w3
  refine (cardexlaw03_CrcOn.calls k a0 a1 a2 a3 true w h).mono ?_
  rintro e w' ⟨rfl, hd⟩
  exact ⟨rfl, hd⟩

end Go.Proofs.Ytpanefmemabckaa.CrcOn
