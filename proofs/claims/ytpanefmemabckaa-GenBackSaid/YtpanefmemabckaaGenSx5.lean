/- Printed out of the translation by this session's program: for Go functions, Lean functions with the same answers, and the proofs of that. -/
import Derived.Test.YtpanefmemabckaaGenSx0
namespace Go.Proofs.Ytpanefmemabckaa.GenS
open Go.RowKit Go.Proofs.Ytpanefmemabckaa.NumA Go.Proofs.YtpanefmemabckaaW.PrintWords Go.Proofs.YtpanefmemabckaaW.PrintLast Go.Proofs.YtpanefmemabckaaW.PrintMore
attribute [local go_sem] max2_int min2_int max_two min_two max_three min_three max_four min_four   -- for this text's walks alone
set_option linter.unusedVariables false
set_option linter.unusedSimpArgs false

/-! ### bytes_Clone: function 81 -/
def bytes_Clone.f (l0 : List Int) : Option (List Int) := if l0.length < 140737488355328 then some l0 else none
set_option maxRecDepth 100000 in
set_option maxHeartbeats 4000000 in
theorem bytes_Clone.calls (A0 : Option Addr) (c0 : Nat) (l0 : List Int) (r : List Int) (w : World) (hr0 : Kd.C (Kd.int .u8) w A0 l0.length l0) (hc0 : l0.length ≤ c0) (h : bytes_Clone.f l0 = some r) :
    Calls Try.prog 81 #[.slice A0 l0.length c0] w fun e w' => ∃ v0_ : Value, e = .returned (v0_) ∧ Kd.R (Kd.int .u8) 5 w' w.heap.size (fun _ => True) v0_ r ∧ Below w.heap.size w w' := by
  unfold bytes_Clone.f at h
  split at h
  case isFalse => cases h
  case isTrue h =>
  obtain rfl := Option.some.inj ‹some l0 = some r›
  cases A0 with
  | none =>
    have h0 : l0 = [] := by
      by_cases hz : 0 < l0.length
      · obtain ⟨ad, he, _⟩ := hr0.2.2 hz
        cases he
      · exact List.length_eq_zero_iff.1 (by omega)
    subst h0
    have hn : ∀ w : World, (binOp .eql 42 (.slice none 0 c0) (.slice none 0 0)).run Try.prog w = .ok (.bool true) w := fun w => by first | rfl | kernel_rfl | (go_simp; done) | (go_simp; rfl)
    go_enter Try.func81, Try.ntmps81
    go_wp2_with fail
    go_ret
    exact ⟨_, rfl, Kd.R_nil _ _ _ _ _, Below.refl _ _⟩
  | some a =>
    have HR0 := Aside0.mk hr0
    have LM := Aside0.mk ‹l0.length < 140737488355328›
    have O1 := Aside0.mk (GenKit.R_empty (Kd.int .u8) 5 w.heap.size w (Nat.le_refl _))
    have B1 := Aside0.mk ((Below.refl w.heap.size w).alloc (Nat.le_refl _) (.cells #[] 5))
    clear hr0 hc0
    have hn : ∀ w : World, (binOp .eql 42 (.slice (some a) l0.length c0) (.slice none 0 0)).run Try.prog w = .ok (.bool false) w := fun w => by first | rfl | kernel_rfl | (go_simp; done) | (go_simp; rfl)
    go_enter Try.func81, Try.ntmps81
    go_wp2_with (first | ((with_reducible refine gate_builtin (b := .append) (xs := #[.tmp 5, .tmp 6]) rfl ?_); at_builtin; refine Kd.R_append_rows (Kd.int .u8) (w0 := w) w.heap.size rfl (.tmp 5) (.tmp 6) 42 5 (.int .u8 0) 1 rfl Try.underlying42 info5 rfl (by decide) (by omega) (.slice (some ⟨w.heap.size, 0, none⟩) 0 0) ([] : List Int) l0 _ _ _ (fun _ => True) (fun _ => False) rfl rfl ?aO ?aR (fun _ _ h => h) (fun _ h => h.elim) ?aF ?aB ?aS ?aL ?_; (case aR => exact Kd.C_below HR0.out B1.out); (case aB => exact B1.out); (case aF => exact (fun _ _ => trivial)); (case aO => exact O1.out); (case aS => exact B1.out.size); (case aL => have := LM.out; simp; omega); intro v240 w3 ho hb hg hat; have O2 := Aside0.mk ho; have B2 := Aside0.mk hb; clear ho hb hg hat))
    go_ret
    exact ⟨_, rfl, O2.out, B2.out⟩

end Go.Proofs.Ytpanefmemabckaa.GenS
