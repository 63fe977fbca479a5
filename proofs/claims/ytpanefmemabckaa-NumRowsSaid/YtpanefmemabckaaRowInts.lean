/- num.Row and num.GetRow answer rows of the call's own whose spare room holds bytes. For every row, place and limit. -/
import Derived.Test.YtpanefmemabckaaInts
namespace Go.Proofs.Ytpanefmemabckaa.RowInts
open Go.RowKit Go.Proofs.Ytpanefmemabckaa.NumA Go.Proofs.Ytpanefmemabckaa.NumMath Go.Proofs.Ytpanefmemabckaa.Bytes Go.Proofs.Ytpanefmemabckaa.Wide Go.Proofs.Ytpanefmemabckaa.Ints Go.Proofs.YtpanefmemabckaaW.PrintWords Go.Proofs.YtpanefmemabckaaW.PrintLast

theorem take_snoc (m : List Nat) (k c : Nat) (h : k < m.length) : (m.set k c).take (k + 1) = m.take k ++ [c] := by
  induction m generalizing k with
  | nil => simp at h
  | cons x m ih =>
    cases k with
    | zero => simp
    | succ k => simp only [List.set_cons_succ, List.take_succ_cons, List.cons_append]; rw [ih k (by simpa using h)]
theorem ints_cellsN (m : List Nat) : allInts (cellsN m) := by
  intro u hu
  unfold cellsN at hu
  obtain ⟨n, _, rfl⟩ := List.mem_map.1 hu
  exact ⟨_, rfl⟩
/-- a block of bytes, as a whole, is a row -/
theorem row_of_block {W : World} {g base : Nat} {m : List Nat} (h : W.heap[g]? = some (.cells (cellsN m) 5 (0, 0))) (hb : base ≤ g) (hm : m.length ≤ 140737488351232) :
    Kd.R (Kd.int .u8) 5 W base (fun _ => True) (.slice (some ⟨g, 0, none⟩) m.length m.length) (ofN m) ∧ IntsV W (.slice (some ⟨g, 0, none⟩) m.length m.length) := by
  have hs : (cellsN m).size = m.length := by simp [cellsN]
  refine ⟨Kd.R_of_own ⟨by simp [encs], .inr ⟨g, m.length, cellsN m, by rw [ofN_length], hb, h, by rw [ofN_length]; exact Nat.le_refl _, by unfold maxLen; omega, by rw [hs]; omega, ?_⟩⟩ (fun _ _ => trivial), .inr ⟨g, m.length, m.length, cellsN m, rfl, h, hs, by omega, ints_cellsN m⟩⟩
  rw [List.take_of_length_le (by rw [Array.length_toList, hs, ofN_length]; omega)]
  simp [cellsN, encs, ofN]

set_option maxRecDepth 100000 in
set_option maxHeartbeats 2000000 in
theorem put4_ints (n : Nat) (hn : n < 18446744073709551616) (w : World) : Calls Try.prog 44 #[.int .u64 n, .int .i64 4] w fun e w' =>
    ∃ v, e = .returned (.tuple #[v, .int .i64 (putP n 4).2]) ∧ Kd.R (Kd.int .u8) 5 w' w.heap.size (fun _ => True) v (ofN (putP n 4).1) ∧ IntsV w' v ∧ Below w.heap.size w w' := by
  have hmk : ∀ u : World, (Instr.makeSlice 42 (.int .i64 4) (.int .i64 4)).run Try.prog u = .ok (.slice (some ⟨u.heap.size, 0, none⟩) 4 4) (u.alloc (.cells (cellsN [0, 0, 0, 0]) 5)) := fun u => by kernel_rfl
  have HS := Aside0.mk (show num_ofSize.f 4 = some true from by rw [NumPure.ofSize_f]; rfl)
  go_enter Try.func44, Try.ntmps44
  go_wp2_with fail
  refine (num_ofSize.calls 4 true _ HS.out).mono ?_
  rintro e w1 ⟨rfl, hd⟩
  have B1 := Aside0.mk hd.below
  clear hd
  go_wp2_with fail
  clear hmk
  have hb0 : (w1.alloc (.cells (cellsN [0, 0, 0, 0]) 5)).heap[w1.heap.size]? = some (.cells (cellsN [0, 0, 0, 0]) 5 (0, 0)) := heap_alloc_new w1 _
  have K0 := Aside0.mk hb0
  have B0 := Aside0.mk (B1.out.alloc B1.out.size (.cells (cellsN [0, 0, 0, 0]) 5))
  have NG := Aside0.mk B1.out.size
  clear hb0 B1
  generalize w1.alloc (.cells (cellsN [0, 0, 0, 0]) 5) = W0 at K0 B0 ⊢
  obtain ⟨g, hg⟩ : ∃ g, g = w1.heap.size := ⟨_, rfl⟩
  rw [← hg] at K0 NG ⊢
  clear hg
  go_loopw [0, 15] (fun v0 v15 wr => ∃ (k x : Nat) (m : List Nat), k ≤ 4 ∧ v0 = .int .u64 (x : Int) ∧ v15 = .int .i64 k ∧ Aside0 (x = n / 256 ^ k ∧ m.length = 4 ∧ m.take k = le k n) ∧ Aside0 (wr.heap[g]? = some (.cells (cellsN m) 5 (0, 0))) ∧ Aside0 (Below w.heap.size w wr)) (fun _ v15 _ => 4 - (intOf v15).toNat)
  case atStart => exact ⟨0, n, [0, 0, 0, 0], by omega, rfl, rfl, ⟨by simp, rfl, rfl⟩, K0, B0⟩
  case round =>
    obtain ⟨k, x, m, hk, rfl, rfl, HX, HK, HB⟩ := hrel
    have hx64 : x < 18446744073709551616 := by rw [HX.out.1]; exact Nat.lt_of_le_of_lt (Nat.div_le_self _ _) hn
    clear K0 B0
    by_cases hlt : k < 4
    · have q0 := blk_cell HK.out k
      rw [cellsN_get, List.getElem?_eq_getElem (by have := HX.out.2.1; omega)] at q0
      simp only [Option.map_some] at q0
      have r0 := blk_frozen HK.out k
      go_wp2_with fail
      go_roundw
      case rel =>
        refine ⟨k + 1, x / 256, m.set k (x % 256), by omega, by simp, by go_num, ⟨?_, by rw [List.length_set]; exact HX.out.2.1, ?_⟩, ⟨?_⟩, ⟨HB.out.setCell (p := ⟨g, k, none⟩) NG.out _⟩⟩
        · rw [HX.out.1, Nat.div_div_eq_div_mul, Nat.pow_succ]
        · rw [take_snoc _ _ _ (by have := HX.out.2.1; omega), HX.out.2.2, le_snoc, HX.out.1]
        · rw [← cellsN_set]
          exact blk_set HK.out k _
      case measure => simp [intOf]; omega
    · obtain rfl : k = 4 := by omega
      have hm : m = le 4 n := by rw [← HX.out.2.2, List.take_of_length_le (by have := HX.out.2.1; omega)]
      have hx : x = n / 256 ^ 4 := HX.out.1
      have R0 := Aside0.mk (row_of_block HK.out NG.out (by rw [HX.out.2.1]; decide))
      have h4 := HX.out.2.1
      rw [h4] at R0
      clear HX HK h4
      by_cases hs : n < 256 ^ 4
      · have hp : putP n 4 = (le 4 n, 0) := by unfold putP; rw [if_pos ⟨rfl, hs⟩]; rfl
        obtain rfl : x = 0 := by rw [hx]; exact Nat.div_eq_of_lt hs
        have HP := Aside0.mk hp
        have HM := Aside0.mk hm
        clear hx hs hp hm hx64
        go_wp2_with fail
        go_ret2
        rw [HP.out]
        exact ⟨_, rfl, by have := R0.out.1; rw [HM.out] at this; exact this, R0.out.2, HB.out⟩
      · have hp : putP n 4 = ([], 2) := by unfold putP; rw [if_neg (fun h => hs h.2)]
        have hx1 : 0 < x := by rw [hx]; exact Nat.div_pos (by omega) (by decide)
        have HP := Aside0.mk hp
        clear hx hs hp hm
        have hx2 : decide (0 < (x : Int)) = true := decide_eq_true (by omega)
        go_wp2_with fail
        go_ret2
        rw [HP.out]
        exact ⟨_, rfl, Kd.R_nil _ _ _ _ _, .inl rfl, HB.out⟩
set_option maxRecDepth 100000 in
set_option maxHeartbeats 2000000 in
theorem row_ints (A0 : Option Addr) (c0 : Nat) (l : List Nat) (w : World) (hr : Kd.C (Kd.int .u8) w A0 (ofN l).length (ofN l)) (hl : l.length ≤ 140737488351232) :
    Calls Try.prog 53 #[.slice A0 (ofN l).length c0] w fun e w' => ∃ v, e = .returned v ∧ Kd.R (Kd.int .u8) 5 w' w.heap.size (fun _ => True) v (ofN (rowP l)) ∧ IntsV w' v ∧ Below w.heap.size w w' := by
  have HR := Aside0.mk hr
  have HL := Aside0.mk hl
  have HN := Aside0.mk (ofN_length l)
  obtain ⟨N, hN⟩ : ∃ N, N = (ofN l).length := ⟨_, rfl⟩
  have EN := Aside0.mk hN
  have hw : IntKind.u64.wrap (N : Int) = (N : Int) := by rw [IntKind.wrap_u64]; rw [hN, ofN_length]; omega
  have hN9 : (N : Int) ≤ 9223372036854775807 := by rw [hN, ofN_length]; omega
  rw [← hN]
  clear hr hN hl
  go_enter Try.func53, Try.ntmps53
  go_wp2_with fail
  refine (put4_ints N (by omega) _).mono ?_
  rintro e w1 ⟨v, rfl, ho, hi, hb⟩
  have O1 := Aside0.mk ho
  have I1 := Aside0.mk hi
  have B1 := Aside0.mk hb
  have PL := Aside0.mk (show (ofN (putP N 4).1).length ≤ 4 from by rw [ofN_length]; unfold putP; split; (rw [le_length]; decide); simp)
  clear ho hi hb
  obtain ⟨A1, n1, rfl⟩ := Kd.R_slice O1.out
  go_wp2_with (first | ((with_reducible refine gate_builtin (b := .append) (xs := #[.tmp 12, .tmp 13]) rfl ?_); at_builtin; refine wpList_append_ints (w0 := w) w.heap.size rfl (.tmp 12) (.tmp 13) rfl (.slice A1 (ofN (putP N 4).1).length n1) (ofN (putP N 4).1) (ofN l) _ _ _ rfl rfl ?aO ?aI ?aR ?aB ?aS ?aL ?_; (case aO => exact O1.out); (case aI => exact I1.out); (case aR => rw [EN.out]; exact Kd.C_below HR.out B1.out); (case aB => exact B1.out); (case aS => exact B1.out.size); (case aL => have := PL.out; have := HL.out; have := HN.out; have := EN.out; omega); intro v2 w2 ho hi hb; have O2 := Aside0.mk ho; have I2 := Aside0.mk hi; have B2 := Aside0.mk hb; clear ho hi hb))
  go_ret
  refine ⟨_, rfl, ?_, I2.out, B2.out⟩
  have h := O2.out
  rw [show ofN (rowP l) = ofN (putP N 4).1 ++ ofN l from by unfold rowP; rw [EN.out, HN.out]; simp [ofN]]
  exact h
set_option maxHeartbeats 2000000 in
set_option maxRecDepth 100000 in
theorem getRow_ints (k : Nat) (A0 : Option Addr) (c0 : Nat) (l0 : List Int) (a1 : Int) (a2 : Int) (r1 : List Int) (r2 : Int) (r3 : Int) (w : World) (hr0 : Kd.C (Kd.int .u8) w A0 l0.length l0) (hc0 : l0.length ≤ c0) (h : NumGetRow.num_GetRow.f k l0 a1 a2 = some (r1, r2, r3)) :
    Calls Try.prog 54 #[.slice A0 l0.length c0, .int .i64 a1, .int .i64 a2] w fun e w' => ∃ v0_ : Value, e = .returned (.tuple #[v0_, .int .i64 r2, .int .i64 r3]) ∧ Kd.R (Kd.int .u8) 5 w' w.heap.size (fun _ => True) v0_ r1 ∧ IntsV w' v0_ ∧ Below w.heap.size w w' := by
  have HR := Aside0.mk hr0
  have HC := Aside0.mk hc0
  clear hr0 hc0
  obtain ⟨⟨t, e⟩, h1, h2⟩ := Option.bind_eq_some_iff.mp h
  simp only at h2
  have H1 := Aside0.mk h1
  clear h h1
  by_cases he : e = 0
  · subst he
    rw [if_pos rfl] at h2
    by_cases hb : 0 ≤ a1 ∧ a1 + 4 ≤ (l0.length : Int) ∧ 0 ≤ t ∧ t < 4294967296 ∧ l0.length ≤ 140737488351232
    · rw [if_pos hb] at h2
      obtain ⟨hb1, hb2, hb3, hb4, hb5⟩ := hb
      by_cases hm : a2 < t
      · rw [if_pos hm] at h2
        simp only [Option.some.injEq, Prod.mk.injEq] at h2
        obtain ⟨rfl, rfl, rfl⟩ := h2
        go_enter Try.func54, Try.ntmps54
        go_wp2_with (go_at_call 46; refine (num_Get.calls k _ _ l0 a1 4 t 0 _ HR.out HC.out H1.out).mono ?_; rintro e w' ⟨rfl, nd, rfl⟩)
        go_ret3
        exact ⟨_, rfl, Kd.R_nil _ _ _ _ _, .inl rfl, pw_below_drewN (Below.refl _ _) nd⟩
      · rw [if_neg hm] at h2
        obtain ⟨m, rfl⟩ := Int.eq_ofNat_of_zero_le hb1
        have e4 : (((m : Int) + 4)).toNat = m + 4 := by omega
        rw [e4] at h2
        obtain ⟨i0, hi0, _, hsz, _⟩ := info_parts info8
        obtain ⟨A8, hcut, hA8, hC8⟩ := print_drop_of (P := Try.prog) (Value.int .u8) 0 42 5 .i64 Try.underlying42 hi0 hsz A0 c0 l0 ((m : Int) + 4) (by omega) (by omega) HC.out
        have HR8 := Aside0.mk (Kd.C_of_reads (h1 := fun _ => rfl) (hA8 _ (Kd.reads_of_C HR.out)))
        have HC8 := Aside0.mk hC8
        rw [e4] at HR8 HC8 hcut
        clear hA8 hC8 hi0 hsz e4
        by_cases hl : ((l0.length - (m + 4) : Nat) : Int) < t
        · rw [if_pos hl] at h2
          simp only [Option.some.injEq, Prod.mk.injEq] at h2
          obtain ⟨rfl, rfl, rfl⟩ := h2
          have hl' : decide (t > ((l0.length - (m + 4) : Nat) : Int)) = true := decide_eq_true hl
          have hm' : decide (t > a2) = false := decide_eq_false hm
          clear hl hm hb1
          go_enter Try.func54, Try.ntmps54
          go_wp2_with (go_at_call 46; refine (num_Get.calls k _ _ l0 m 4 t 0 _ HR.out HC.out H1.out).mono ?_; rintro e w' ⟨rfl, nd, rfl⟩)
          go_ret3
          exact ⟨_, rfl, Kd.R_nil _ _ _ _ _, .inl rfl, pw_below_drewN (Below.refl _ _) nd⟩
        · rw [if_neg hl] at h2
          simp only [Option.some.injEq, Prod.mk.injEq] at h2
          obtain ⟨rfl, rfl, rfl⟩ := h2
          have hl8 : (l0.drop (m + 4)).length = l0.length - (m + 4) := List.length_drop
          have HT := Aside0.mk (Kd.C_take (m := t.toNat) HR8.out (by omega))
          have hlt : ((l0.drop (m + 4)).take t.toNat).length = t.toNat := by rw [List.length_take]; omega
          have HL := Aside0.mk hlt
          have hq : t ≤ ((c0 - (m + 4) : Nat) : Int) := by have := HC.out; omega
          have hs2 : (t.toNat + 0) * 1 ≤ 140737488355328 := by omega
          clear hl8 hlt
          go_enter Try.func54, Try.ntmps54
          go_wp2_with (first | (go_at_call 46; refine (num_Get.calls k _ _ l0 m 4 t 0 _ HR.out HC.out H1.out).mono ?_; rintro e w' ⟨rfl, nd, rfl⟩) | ((with_reducible refine gate_builtin (b := .append) (xs := #[.const (.slice none 0 0), .tmp 38]) rfl ?_); at_builtin; refine wpList_append_ints (w0 := w) w.heap.size rfl (.const (.slice none 0 0)) (.tmp 38) rfl (.slice none 0 0) [] ((l0.drop (m + 4)).take t.toNat) _ _ _ rfl rfl ?aO ?aI ?aR ?aB ?aS ?aL ?_; (case aR => have hx_ := Kd.C_drewN HT.out nd; rw [HL.out] at hx_; exact hx_); (case aB => exact pw_below_drewN (Below.refl _ _) _); (case aO => exact Kd.R_nil _ _ _ _ _); (case aI => exact .inl rfl); (case aS => exact Nat.le_refl _); (case aL => simp; omega); intro v1 w1 ho hi hb; have HO := Aside0.mk ho; have HI := Aside0.mk hi; have HB := Aside0.mk hb; clear ho hi hb))
          go_ret3
          refine ⟨_, rfl, ?_, HI.out, HB.out⟩
          have := HO.out
          rw [List.nil_append] at this
          exact this
    · rw [if_neg hb] at h2; cases h2
  · rw [if_neg he] at h2
    simp only [Option.some.injEq, Prod.mk.injEq] at h2
    obtain ⟨rfl, rfl, rfl⟩ := h2
    have hne : (e != 0) = true := bne_iff_ne.mpr he
    go_enter Try.func54, Try.ntmps54
    go_wp2_with (go_at_call 46; refine (num_Get.calls k _ _ l0 a1 4 t e _ HR.out HC.out H1.out).mono ?_; rintro e' w' ⟨rfl, nd, rfl⟩)
    go_ret3
    exact ⟨_, rfl, Kd.R_nil _ _ _ _ _, .inl rfl, pw_below_drewN (Below.refl _ _) nd⟩
end Go.Proofs.Ytpanefmemabckaa.RowInts
