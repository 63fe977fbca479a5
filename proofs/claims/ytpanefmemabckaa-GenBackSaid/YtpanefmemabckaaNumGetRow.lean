/- num.GetRow returns what the plain function num_GetRow.f tells; for every slice of bytes, every place and every limit at which num.Get's answer is told. -/
import Derived.Test.YtpanefmemabckaaNumAx
import Derived.Lib.Hide
namespace Go.Proofs.Ytpanefmemabckaa.NumGetRow
open Go.RowKit Go.Proofs.Ytpanefmemabckaa.NumA Go.Proofs.YtpanefmemabckaaW.PrintWords Go.Proofs.YtpanefmemabckaaW.PrintLast

def num_GetRow.f (k : Nat) (l0 : List Int) (a1 : Int) (a2 : Int) : Option (List Int × Int × Int) :=
  (num_Get.f k l0 a1 4).bind fun bt => if bt.2 = 0 then (if 0 ≤ a1 ∧ a1 + 4 ≤ (l0.length : Int) ∧ 0 ≤ bt.1 ∧ bt.1 < 4294967296 ∧ l0.length ≤ 140737488351232 then
    (if a2 < bt.1 then some ([], 0, 3) else if ((l0.length - (a1 + 4).toNat : Nat) : Int) < bt.1 then some ([], 0, 4) else some ((l0.drop (a1 + 4).toNat).take bt.1.toNat, a1 + 4 + bt.1, 0)) else none) else some ([], 0, bt.2)
theorem num_GetRow.mono : ∀ l0 a1 a2 k, LeO (num_GetRow.f k l0 a1 a2) (num_GetRow.f (k + 1) l0 a1 a2) :=
  fun l0 a1 _ k => LeO.bind (num_Get.mono l0 a1 4 k) (fun _ => LeO.refl _)
theorem info8 : (Try.prog.info? 5).map (fun i => (i.zero, i.size, i.bytes)) = some (some (.int .u8 0), 1, 1) := by kernel_rfl

set_option maxHeartbeats 2000000 in
set_option maxRecDepth 100000 in
theorem num_GetRow.calls (k : Nat) (A0 : Option Addr) (c0 : Nat) (l0 : List Int) (a1 : Int) (a2 : Int) (r1 : List Int) (r2 : Int) (r3 : Int) (w : World) (hr0 : Kd.C (Kd.int .u8) w A0 l0.length l0) (hc0 : l0.length ≤ c0) (h : num_GetRow.f k l0 a1 a2 = some (r1, r2, r3)) :
    Calls Try.prog 54 #[.slice A0 l0.length c0, .int .i64 a1, .int .i64 a2] w fun e w' => ∃ v0_ : Value, e = .returned (.tuple #[v0_, .int .i64 r2, .int .i64 r3]) ∧ Kd.R (Kd.int .u8) 5 w' w.heap.size (fun _ => True) v0_ r1 ∧ Below w.heap.size w w' := by
  have HR := Aside0.mk hr0
  have HC := Aside0.mk hc0
  clear hr0 hc0
  obtain ⟨⟨t, e⟩, h1, h2⟩ := Option.bind_eq_some_iff.mp h
  simp only at h2
  have H1 := Aside0.mk h1
  clear h h1
  by_cases he : e = 0
  · subst he
    rw [if_pos rfl] at h2
    by_cases hb : 0 ≤ a1 ∧ a1 + 4 ≤ (l0.length : Int) ∧ 0 ≤ t ∧ t < 4294967296 ∧ l0.length ≤ 140737488351232
    · rw [if_pos hb] at h2
      obtain ⟨hb1, hb2, hb3, hb4, hb5⟩ := hb
      by_cases hm : a2 < t
      · rw [if_pos hm] at h2
        simp only [Option.some.injEq, Prod.mk.injEq] at h2
        obtain ⟨rfl, rfl, rfl⟩ := h2
        go_enter Try.func54, Try.ntmps54
        go_wp2_with (go_at_call 46; refine (num_Get.calls k _ _ l0 a1 4 t 0 _ HR.out HC.out H1.out).mono ?_; rintro e w' ⟨rfl, nd, rfl⟩)
        go_ret3
        exact ⟨_, rfl, Kd.R_nil _ _ _ _ _, pw_below_drewN (Below.refl _ _) nd⟩
      · rw [if_neg hm] at h2
        obtain ⟨m, rfl⟩ := Int.eq_ofNat_of_zero_le hb1
        have e4 : (((m : Int) + 4)).toNat = m + 4 := by omega
        rw [e4] at h2
        obtain ⟨i0, hi0, _, hsz, _⟩ := info_parts info8
        obtain ⟨A8, hcut, hA8, hC8⟩ := print_drop_of (P := Try.prog) (Value.int .u8) 0 42 5 .i64 Try.underlying42 hi0 hsz A0 c0 l0 ((m : Int) + 4) (by omega) (by omega) HC.out
        have HR8 := Aside0.mk (Kd.C_of_reads (h1 := fun _ => rfl) (hA8 _ (Kd.reads_of_C HR.out)))
        have HC8 := Aside0.mk hC8
        rw [e4] at HR8 HC8 hcut
        clear hA8 hC8 hi0 hsz e4
        by_cases hl : ((l0.length - (m + 4) : Nat) : Int) < t
        · rw [if_pos hl] at h2
          simp only [Option.some.injEq, Prod.mk.injEq] at h2
          obtain ⟨rfl, rfl, rfl⟩ := h2
          have hl' : decide (t > ((l0.length - (m + 4) : Nat) : Int)) = true := decide_eq_true hl
          have hm' : decide (t > a2) = false := decide_eq_false hm
          clear hl hm hb1
          go_enter Try.func54, Try.ntmps54
          go_wp2_with (go_at_call 46; refine (num_Get.calls k _ _ l0 m 4 t 0 _ HR.out HC.out H1.out).mono ?_; rintro e w' ⟨rfl, nd, rfl⟩)
          go_ret3
          exact ⟨_, rfl, Kd.R_nil _ _ _ _ _, pw_below_drewN (Below.refl _ _) nd⟩
        · rw [if_neg hl] at h2
          simp only [Option.some.injEq, Prod.mk.injEq] at h2
          obtain ⟨rfl, rfl, rfl⟩ := h2
          have hl8 : (l0.drop (m + 4)).length = l0.length - (m + 4) := List.length_drop
          have HT := Aside0.mk (Kd.C_take (m := t.toNat) HR8.out (by omega))
          have hlt : ((l0.drop (m + 4)).take t.toNat).length = t.toNat := by rw [List.length_take]; omega
          have HL := Aside0.mk hlt
          have hq : t ≤ ((c0 - (m + 4) : Nat) : Int) := by have := HC.out; omega
          have hs2 : (t.toNat + 0) * 1 ≤ 140737488355328 := by omega
          clear hl8 hlt
          go_enter Try.func54, Try.ntmps54
          go_wp2_with (first | (go_at_call 46; refine (num_Get.calls k _ _ l0 m 4 t 0 _ HR.out HC.out H1.out).mono ?_; rintro e w' ⟨rfl, nd, rfl⟩) | ((with_reducible refine gate_builtin (b := .append) (xs := #[.const (.slice none 0 0), .tmp 38]) rfl ?_); at_builtin; refine Kd.R_append_rows (Kd.int .u8) (w0 := w) w.heap.size rfl (.const (.slice none 0 0)) (.tmp 38) 42 5 (.int .u8 0) 1 rfl Try.underlying42 info8 rfl (by decide) (by omega) (.slice none 0 0) [] ((l0.drop (m + 4)).take t.toNat) _ _ _ (fun _ => True) (fun _ => False) rfl rfl ?aO ?aR (fun _ _ h => h) (fun _ h => h.elim) ?aF ?aB ?aS ?aL ?_; (case aR => have hx_ := Kd.C_drewN HT.out nd; rw [HL.out] at hx_; exact hx_); (case aB => exact pw_below_drewN (Below.refl _ _) _); (case aF => exact (fun _ _ => trivial)); (case aO => exact Kd.R_nil _ _ _ _ _); (case aS => exact Nat.le_refl _); (case aL => simp; omega); intro v1 w1 ho hb hg hat; have HO := Aside0.mk ho; have HB := Aside0.mk hb; clear ho hb hg hat))
          go_ret3
          refine ⟨_, rfl, ?_, HB.out⟩
          have := HO.out
          rw [List.nil_append] at this
          exact this
    · rw [if_neg hb] at h2; cases h2
  · rw [if_neg he] at h2
    simp only [Option.some.injEq, Prod.mk.injEq] at h2
    obtain ⟨rfl, rfl, rfl⟩ := h2
    have hne : (e != 0) = true := bne_iff_ne.mpr he
    go_enter Try.func54, Try.ntmps54
    go_wp2_with (go_at_call 46; refine (num_Get.calls k _ _ l0 a1 4 t e _ HR.out HC.out H1.out).mono ?_; rintro e' w' ⟨rfl, nd, rfl⟩)
    go_ret3
    exact ⟨_, rfl, Kd.R_nil _ _ _ _ _, pw_below_drewN (Below.refl _ _) nd⟩
end Go.Proofs.Ytpanefmemabckaa.NumGetRow
