/- policy.Bytes: a contract by hand. -/
import Derived.Test.YtpanefmemabckabNumPure
import Derived.Lib.Hide
namespace Go.Proofs.Ytpanefmemabckab.PolicyBytes
open Go.RowKit Go.Proofs.Ytpanefmemabckab.NumA Go.Proofs.Ytpanefmemabckab.NumMath Go.Proofs.Ytpanefmemabckab.Bytes Go.Proofs.YtpanefmemabckabW.PrintWords Go.Proofs.YtpanefmemabckabW.PrintLast
set_option linter.unusedSimpArgs false

theorem heap_alloc_new (w : World) (o : Obj) : (w.alloc o).heap[w.heap.size]? = some o := by
  show (w.heap.push o)[w.heap.size]? = _
  simp
/-- the bytes of the first numbers -/
def acc (k t o : Nat) : Nat → List Nat
  | 0 => []
  | 1 => le 4 k
  | 2 => le 4 k ++ le 4 t
  | _ => le 4 k ++ le 4 t ++ le 4 o
theorem put4 (n : Nat) (h : n < 4294967296) : num_Put.f 9 (n : Int) 4 = some (ofN (le 4 n), 0) := by
  rw [NumPure.put_f 9 n 4 (by omega)]
  have e : putP n 4 = (le 4 n, 0) := by
    unfold putP
    rw [if_pos ⟨rfl, by show n < 256 ^ 4; omega⟩]; rfl
  rw [e]

set_option maxRecDepth 100000 in
set_option maxHeartbeats 4000000 in
theorem bytes_calls (k t o : Nat) (b : Bool) (w : World) (hk : k < 4294967296) (ht : t < 4294967296) (ho : o < 4294967296) :
    Calls Try.prog 20 #[.agg #[.int .u32 k, .int .u32 t, .int .u32 o, .bool b]] w fun e w' => ∃ v, e = .returned v ∧
      Kd.R (Kd.int .u8) 5 w' w.heap.size (fun _ => True) v (ofN (le 4 k ++ le 4 t ++ le 4 o ++ [if b then 1 else 0])) ∧ Below w.heap.size w w' := by
  have P0 := Aside0.mk (put4 k hk)
  have P1 := Aside0.mk (put4 t ht)
  have P2 := Aside0.mk (put4 o ho)
  have i0 : ∀ w, (Instr.index 75 (.agg #[.int .u32 k, .int .u32 t, .int .u32 o]) (.int .i64 0)).run Try.prog w = .ok (.int .u32 k) w := fun _ => by kernel_rfl
  have i1 : ∀ w, (Instr.index 75 (.agg #[.int .u32 k, .int .u32 t, .int .u32 o]) (.int .i64 1)).run Try.prog w = .ok (.int .u32 t) w := fun _ => by kernel_rfl
  have i2 : ∀ w, (Instr.index 75 (.agg #[.int .u32 k, .int .u32 t, .int .u32 o]) (.int .i64 2)).run Try.prog w = .ok (.int .u32 o) w := fun _ => by kernel_rfl
  go_enter Try.func20, Try.ntmps20
  go_wp2_with fail
  have hd := heap_alloc_new w (.cells #[.int .u32 k, .int .u32 t, .int .u32 o, .bool b] 40)
  have hB : Below w.heap.size w (w.alloc (.cells #[.int .u32 k, .int .u32 t, .int .u32 o, .bool b] 40)) := (Below.refl _ _).alloc (Nat.le_refl _) _
  generalize w.alloc _ = W0 at hd hB ⊢
  have HD := Aside0.mk hd
  have EB := Aside0.mk hB
  clear hd hB
  go_loopw [3, 16] (fun v3 v16 wr => ∃ i : Nat, i ≤ 3 ∧ v16 = .int .i64 i ∧ Aside0 (Kd.R (Kd.int .u8) 5 wr W0.heap.size (fun _ => True) v3 (ofN (acc k t o i))) ∧ Aside0 (Below W0.heap.size W0 wr)) (fun _ v16 _ => 3 - (intOf v16).toNat)
  case atStart => exact ⟨0, by omega, rfl, ⟨Kd.R_nil _ _ _ _ _⟩, ⟨Below.refl _ _⟩⟩
  case round =>
    obtain ⟨i, hi, rfl, HO, HB⟩ := hrel
    have hi4 : i = 0 ∨ i = 1 ∨ i = 2 ∨ i = 3 := by omega
    rcases hi4 with rfl | rfl | rfl | rfl
    · go_wp2_with fail
      refine (num_Put.calls 9 _ _ _ _ _ P0.out).mono ?_
      rintro e w1 ⟨vx, rfl, hx, hb1⟩
      obtain ⟨Ax, cx, rfl⟩ := Kd.R_slice hx
      have X1 := Aside0.mk hx
      have O1 := Aside0.mk (Kd.R_below HO.out hb1)
      have B1 := Aside0.mk (below_step HB.out hb1)
      clear hx hb1 HO HB
      go_wp2_with (first | ((with_reducible refine gate_builtin (b := .append) (xs := #[.tmp 25, .tmp 26]) rfl ?_); at_builtin; refine Kd.R_append_rows (Kd.int .u8) (w0 := W0) W0.heap.size rfl (.tmp 25) (.tmp 26) 24 5 (.int .u8 0) 1 rfl Try.underlying24 info5 rfl (by decide) (by omega) u3 (ofN (acc k t o 0)) (ofN (le 4 k)) _ _ _ (fun _ => True) (fun _ => False) rfl rfl ?aO ?aR (fun _ _ h => h) (fun _ h => h.elim) (fun _ _ => trivial) ?aB ?aS ?aL ?_; (case aR => exact (Kd.R_reads' X1.out).2.2); (case aB => exact B1.out); (case aO => exact O1.out); (case aS => exact B1.out.size); (case aL => rw [ofN_length, ofN_length, le_length]; simp only [acc, List.length_append, le_length, List.length_nil]; omega); intro v9 w9 ho9 hb9 hg9 hat9; have O9 := Aside0.mk ho9; have B9 := Aside0.mk hb9; clear ho9 hb9 hg9 hat9))
      go_roundw
      case rel => exact ⟨1, by omega, rfl, ⟨by have := O9.out; rw [← ofN_append] at this; simpa [acc] using this⟩, B9⟩
      case measure => simp [intOf]
    · go_wp2_with fail
      refine (num_Put.calls 9 _ _ _ _ _ P1.out).mono ?_
      rintro e w1 ⟨vx, rfl, hx, hb1⟩
      obtain ⟨Ax, cx, rfl⟩ := Kd.R_slice hx
      have X1 := Aside0.mk hx
      have O1 := Aside0.mk (Kd.R_below HO.out hb1)
      have B1 := Aside0.mk (below_step HB.out hb1)
      clear hx hb1 HO HB
      go_wp2_with (first | ((with_reducible refine gate_builtin (b := .append) (xs := #[.tmp 25, .tmp 26]) rfl ?_); at_builtin; refine Kd.R_append_rows (Kd.int .u8) (w0 := W0) W0.heap.size rfl (.tmp 25) (.tmp 26) 24 5 (.int .u8 0) 1 rfl Try.underlying24 info5 rfl (by decide) (by omega) u3 (ofN (acc k t o 1)) (ofN (le 4 t)) _ _ _ (fun _ => True) (fun _ => False) rfl rfl ?aO ?aR (fun _ _ h => h) (fun _ h => h.elim) (fun _ _ => trivial) ?aB ?aS ?aL ?_; (case aR => exact (Kd.R_reads' X1.out).2.2); (case aB => exact B1.out); (case aO => exact O1.out); (case aS => exact B1.out.size); (case aL => rw [ofN_length, ofN_length, le_length]; simp only [acc, List.length_append, le_length, List.length_nil]; omega); intro v9 w9 ho9 hb9 hg9 hat9; have O9 := Aside0.mk ho9; have B9 := Aside0.mk hb9; clear ho9 hb9 hg9 hat9))
      go_roundw
      case rel => exact ⟨2, by omega, rfl, ⟨by have := O9.out; rw [← ofN_append] at this; simpa [acc] using this⟩, B9⟩
      case measure => simp [intOf]
    · go_wp2_with fail
      refine (num_Put.calls 9 _ _ _ _ _ P2.out).mono ?_
      rintro e w1 ⟨vx, rfl, hx, hb1⟩
      obtain ⟨Ax, cx, rfl⟩ := Kd.R_slice hx
      have X1 := Aside0.mk hx
      have O1 := Aside0.mk (Kd.R_below HO.out hb1)
      have B1 := Aside0.mk (below_step HB.out hb1)
      clear hx hb1 HO HB
      go_wp2_with (first | ((with_reducible refine gate_builtin (b := .append) (xs := #[.tmp 25, .tmp 26]) rfl ?_); at_builtin; refine Kd.R_append_rows (Kd.int .u8) (w0 := W0) W0.heap.size rfl (.tmp 25) (.tmp 26) 24 5 (.int .u8 0) 1 rfl Try.underlying24 info5 rfl (by decide) (by omega) u3 (ofN (acc k t o 2)) (ofN (le 4 o)) _ _ _ (fun _ => True) (fun _ => False) rfl rfl ?aO ?aR (fun _ _ h => h) (fun _ h => h.elim) (fun _ _ => trivial) ?aB ?aS ?aL ?_; (case aR => exact (Kd.R_reads' X1.out).2.2); (case aB => exact B1.out); (case aO => exact O1.out); (case aS => exact B1.out.size); (case aL => rw [ofN_length, ofN_length, le_length]; simp only [acc, List.length_append, le_length, List.length_nil]; omega); intro v9 w9 ho9 hb9 hg9 hat9; have O9 := Aside0.mk ho9; have B9 := Aside0.mk hb9; clear ho9 hb9 hg9 hat9))
      go_roundw
      case rel => exact ⟨3, by omega, rfl, ⟨by have := O9.out; rw [← ofN_append] at this; simpa [acc] using this⟩, B9⟩
      case measure => simp [intOf]
    · have hdw := (HB.out.block _ (blk_lt HD.out)).trans HD.out
      have d3 := blk_cell hdw 3
      simp only [List.getElem?_toArray, List.getElem?_cons_zero, List.getElem?_cons_succ] at d3
      have FIN : ∀ (y : Nat) (v9 : Value) (w9 : World), Kd.R (Kd.int .u8) 5 w9 W0.heap.size (fun _ => True) v9 (ofN (acc k t o 3) ++ [(y : Int)]) → Kd.R (Kd.int .u8) 5 w9 w.heap.size (fun _ => True) v9 (ofN (le 4 k ++ le 4 t ++ le 4 o ++ [y])) := by
        intro y v9 w9 h
        have e : ofN (acc k t o 3) ++ [(y : Int)] = ofN (le 4 k ++ le 4 t ++ le 4 o ++ [y]) := by simp [acc, ofN]
        rw [e] at h
        exact Kd.R_lower h EB.out.size
      cases b
      · go_wp2_with (first | ((with_reducible refine gate_builtin (b := .append) (xs := #[.tmp 31, .tmp 33]) rfl ?_); at_builtin; refine Kd.R_append (Kd.int .u8) (w0 := W0) W0.heap.size rfl (.tmp 31) (.tmp 33) 24 5 (.int .u8 0) 1 rfl Try.underlying24 info5 rfl (by decide) (by omega) u3 (ofN (acc k t o 3)) 0 [.int .u8 0] (fun _ => True) (fun _ => False) rfl rfl ?aP (fun _ hk => hk.elim) ?aF ?aO ?aB ?aS ?aL ?_; (case aP => exact rfl); (case aB => exact HB.out); (case aF => exact (fun _ _ => trivial)); (case aO => exact HO.out); (case aS => exact HB.out.size); (case aL => (rw [ofN_length]; simp only [acc, List.length_append, le_length]; omega)); intro v9 w9 ho9 hb9 hg9 hat9; have O9 := Aside0.mk ho9; have B9 := Aside0.mk hb9; clear ho9 hb9 hg9 hat9))
        go_ret
        exact ⟨_, rfl, FIN 0 _ _ O9.out, EB.out.trans (B9.out.mono EB.out.size)⟩
      · go_wp2_with (first | ((with_reducible refine gate_builtin (b := .append) (xs := #[.tmp 31, .tmp 33]) rfl ?_); at_builtin; refine Kd.R_append (Kd.int .u8) (w0 := W0) W0.heap.size rfl (.tmp 31) (.tmp 33) 24 5 (.int .u8 0) 1 rfl Try.underlying24 info5 rfl (by decide) (by omega) u3 (ofN (acc k t o 3)) 1 [.int .u8 1] (fun _ => True) (fun _ => False) rfl rfl ?aP (fun _ hk => hk.elim) ?aF ?aO ?aB ?aS ?aL ?_; (case aP => exact rfl); (case aB => exact HB.out); (case aF => exact (fun _ _ => trivial)); (case aO => exact HO.out); (case aS => exact HB.out.size); (case aL => (rw [ofN_length]; simp only [acc, List.length_append, le_length]; omega)); intro v9 w9 ho9 hb9 hg9 hat9; have O9 := Aside0.mk ho9; have B9 := Aside0.mk hb9; clear ho9 hb9 hg9 hat9))
        go_ret
        exact ⟨_, rfl, FIN 1 _ _ O9.out, EB.out.trans (B9.out.mono EB.out.size)⟩
end Go.Proofs.Ytpanefmemabckab.PolicyBytes
