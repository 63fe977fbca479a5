/- CrcSide: the walk. -/
import Derived.Test.YtpanefmemabckaaCrcPure
import Derived.Test.YtpanefmemabckaaCrcLives
import Derived.Test.YtpanefmemabckaaBytes
import Derived.Test.YtpanefmemabckaaCrcJx0
import Derived.Lib.Hide
import Derived.Deep.RegionHeld
namespace Go.Proofs.Ytpanefmemabckaa.CrcSide
set_option linter.unusedSimpArgs false
open Go.RowKit Go.Proofs.Ytpanefmemabckaa.CrcA Go.Proofs.Ytpanefmemabckaa.CrcJ Go.Proofs.Ytpanefmemabckaa.Bytes Go.Proofs.YtpanefmemabckaaW.PrintWords Go.Proofs.YtpanefmemabckaaW.PrintLast

/-- a block of integers reads as them -/
theorem C_four {W : World} {b : Nat} {x0 x1 x2 x3 : Int} {t : TypeId} {fr : Nat × Nat} (h : W.heap[b]? = some (.cells #[.int .u8 x0, .int .u8 x1, .int .u8 x2, .int .u8 x3] t fr)) :
    Kd.C (Kd.int .u8) W (some ⟨b, 0, none⟩) 4 [x0, x1, x2, x3] := by
  refine ⟨rfl, by omega, fun _ => ⟨⟨b, 0, none⟩, rfl, fun j p hj => ⟨[.int .u8 p], rfl, rfl, fun i u hu => ?_⟩⟩⟩
  have hi : i = 0 := by
    rcases Nat.eq_zero_or_pos i with h0 | h0
    · exact h0
    · rw [List.getElem?_eq_none (by simp; omega)] at hu; cases hu
  subst hi
  have hu' : u = .int .u8 p := by simpa using hu.symm
  subst hu'
  have e : (⟨b, 0, none⟩ : Addr).add (j * (Kd.int .u8).sz + 0) = ⟨b, j, none⟩ := by
    show (⟨b, 0, none⟩ : Addr).add (j * 1 + 0) = _
    unfold Addr.add
    by_cases h0 : j = 0
    · subst h0; simp
    · simp [h0]
  rw [e]
  refine (cell_of_row W b j _ t fr h).trans ?_
  have hj4 : j < 4 := (List.getElem?_eq_some_iff.1 hj).1
  have : j = 0 ∨ j = 1 ∨ j = 2 ∨ j = 3 := by omega
  rcases this with rfl | rfl | rfl | rfl <;> simpa using hj

theorem held {Wb W : World} {b6 b7 : Nat} {x0 x1 x2 x3 y0 y1 y2 y3 : Int} {t : TypeId} {fr : Nat × Nat} (h6 : Wb.heap[b6]? = some (.cells #[.int .u8 x0, .int .u8 x1, .int .u8 x2, .int .u8 x3] t fr))
    (h7 : Wb.heap[b7]? = some (.cells #[.int .u8 y0, .int .u8 y1, .int .u8 y2, .int .u8 y3] t fr)) (B : Below Wb.heap.size Wb W) :
    W.cell? ⟨b6, 0, none⟩ = some (.int .u8 x0) ∧ W.cell? ⟨b6, 1, none⟩ = some (.int .u8 x1) ∧ W.cell? ⟨b6, 2, none⟩ = some (.int .u8 x2) ∧ W.cell? ⟨b6, 3, none⟩ = some (.int .u8 x3) ∧
    W.cell? ⟨b7, 0, none⟩ = some (.int .u8 y0) ∧ W.cell? ⟨b7, 1, none⟩ = some (.int .u8 y1) ∧ W.cell? ⟨b7, 2, none⟩ = some (.int .u8 y2) ∧ W.cell? ⟨b7, 3, none⟩ = some (.int .u8 y3) ∧ Below Wb.heap.size Wb W := by
  have k6 := (B.block b6 (blk_lt h6)).trans h6
  have k7 := (B.block b7 (blk_lt h7)).trans h7
  exact ⟨cell_of_row W b6 0 _ t fr k6, cell_of_row W b6 1 _ t fr k6, cell_of_row W b6 2 _ t fr k6, cell_of_row W b6 3 _ t fr k6, cell_of_row W b7 0 _ t fr k7, cell_of_row W b7 1 _ t fr k7, cell_of_row W b7 2 _ t fr k7, cell_of_row W b7 3 _ t fr k7, B⟩

set_option maxRecDepth 100000 in
set_option maxHeartbeats 2000000 in
theorem eq4 (x0 x1 x2 x3 y0 y1 y2 y3 : Int) (w : World) : (Op.equalIn 10000 68 (.agg #[.int .u8 x0, .int .u8 x1, .int .u8 x2, .int .u8 x3]) (.agg #[.int .u8 y0, .int .u8 y1, .int .u8 y2, .int .u8 y3])).run Try.prog w = .ok ((x0 == y0) && ((x1 == y1) && ((x2 == y2) && (x3 == y3)))) w := by
  have u3 := Try.underlying5
  rw [show (10000 : Nat) = 9999 + 1 from rfl, Op.equalIn]
  simp only [Sem.run_bind, run_underlying Try.underlying68, Result.andThen_ok]
  simp only [Std.Legacy.Range.forIn_eq_forIn_range', Std.Legacy.Range.size, Nat.sub_zero, Nat.add_sub_cancel, Nat.div_one, List.range'_succ, List.range'_zero, List.forIn_cons, List.forIn_nil]
  go_simp
  by_cases h0 : x0 = y0 <;> by_cases h1 : x1 = y1 <;> by_cases h2 : x2 = y2 <;> by_cases h3 : x3 = y3 <;> simp [h0, h1, h2, h3]

theorem blk_kept {W W1 : World} {b : Nat} {o : Obj} (h : W.heap[b]? = some o) (hb : Below W.heap.size W W1) : W1.heap[b]? = some o := (hb.block b (blk_lt h)).trans h
theorem boxes (w : World) (o1 o2 : Obj) : ((w.alloc o1).alloc o2).heap[w.heap.size]? = some o1 ∧ ((w.alloc o1).alloc o2).heap[w.heap.size + 1]? = some o2 ∧ Below w.heap.size w ((w.alloc o1).alloc o2) := by
  have hs : (w.alloc o1).heap.size = w.heap.size + 1 := by
    show (w.heap.push o1).size = _
    exact Array.size_push _
  have b1 : Below w.heap.size w (w.alloc o1) := (Below.refl _ _).alloc (Nat.le_refl _) _
  have b2 : Below (w.alloc o1).heap.size (w.alloc o1) ((w.alloc o1).alloc o2) := (Below.refl _ _).alloc (Nat.le_refl _) _
  refine ⟨(b2.block w.heap.size (by omega)).trans (heap_alloc_new w o1), ?_, below_step b1 b2⟩
  have := heap_alloc_new (w.alloc o1) o2
  rwa [hs] at this

set_option maxRecDepth 100000 in
set_option maxHeartbeats 4000000 in
theorem walk0 (A0 : Option Addr) (l0 : List Int) (c0 : Nat) (A1 : Option Addr) (l1 : List Int) (c1 : Nat) (x0 x1 x2 x3 y0 y1 y2 y3 : Int) (w : World)
    (hr0 : Kd.C (Kd.int .u8) w A0 l0.length l0) (hc0 : l0.length ≤ c0) (hr1 : Kd.C (Kd.int .u8) w A1 l1.length l1) (hc1 : l1.length ≤ c1) (hl : l0.length + l1.length ≤ 1048576)
    (K : Nat) (s1 s2 : Int) (h1 : crc_Of.f K (l0 ++ [x0, x1, x2, x3] ++ l1) = some s1) (h2 : crc_Of.f K (l0 ++ [y0, y1, y2, y3] ++ l1) = some s2)
    (hs : (s1 == s2) = ((x0 == y0) && ((x1 == y1) && ((x2 == y2) && (x3 == y3))))) :
    Calls Try.prog 10 #[.slice A0 l0.length c0, .slice A1 l1.length c1, .agg #[.int .u8 x0, .int .u8 x1, .int .u8 x2, .int .u8 x3], .agg #[.int .u8 y0, .int .u8 y1, .int .u8 y2, .int .u8 y3]] w fun e w' => e = .returned (.bool true) ∧ Below w.heap.size w w' := by
  have HR0 := Aside0.mk hr0
  have HR1 := Aside0.mk hr1
  have HL := Aside0.mk hl
  have H1 := Aside0.mk h1
  have H2 := Aside0.mk h2
  have HS := Aside0.mk hs
  have HC0 := Aside0.mk hc0
  have HC1 := Aside0.mk hc1
  clear hr0 hr1 hl h1 h2 hs hc0 hc1
  go_enter Try.func10, Try.ntmps10
  go_upto_region 2 with (fail)
  obtain ⟨e6, e7, eB⟩ := boxes w (Obj.cells #[Value.int IntKind.u8 x0, Value.int IntKind.u8 x1, Value.int IntKind.u8 x2, Value.int IntKind.u8 x3] 68) (Obj.cells #[Value.int IntKind.u8 y0, Value.int IntKind.u8 y1, Value.int IntKind.u8 y2, Value.int IntKind.u8 y3] 68)
  generalize (w.alloc _).alloc _ = W0 at e6 e7 eB ⊢
  have K6 := Aside0.mk e6
  have K7 := Aside0.mk e7
  have C0 := Aside0.mk (Kd.C_below HR0.out eB)
  have C1 := Aside0.mk (Kd.C_below HR1.out eB)
  have EB := Aside0.mk eB
  have B0 := Aside0.mk (Below.refl W0.heap.size W0)
  clear e6 e7 eB
  go_upto_region 5 with (first
    | ((with_reducible refine gate_builtin (b := .append) (xs := #[.tmp 11, .tmp 12]) rfl ?_); at_builtin; refine Kd.R_append_rows (Kd.int .u8) (w0 := W0) W0.heap.size rfl (.tmp 11) (.tmp 12) 42 5 (.int .u8 0) 1 rfl Try.underlying42 info5 rfl (by decide) (by omega) (.slice none 0 0) [] l0 _ _ _ (fun _ => True) (fun _ => False) rfl rfl ?aO ?aR (fun _ _ h => h) (fun _ h => h.elim) (fun _ _ => trivial) ?aB ?aS ?aL ?_; (case aR => exact C0.out); (case aB => exact B0.out); (case aO => exact (Kd.R_nil _ _ _ _ _)); (case aS => exact B0.out.size); (case aL => have := HL.out; simp only [List.length_append, List.length_cons, List.length_nil]; omega); intro v1 w1 ho hb hg hat; have O1 := Aside0.mk ho; have B1 := Aside0.mk hb; clear ho hb hg hat)
    | ((with_reducible refine gate_builtin (b := .append) (xs := #[.tmp 14, .tmp 15]) rfl ?_); at_builtin; refine Kd.R_append_rows (Kd.int .u8) (w0 := W0) W0.heap.size rfl (.tmp 14) (.tmp 15) 42 5 (.int .u8 0) 1 rfl Try.underlying42 info5 rfl (by decide) (by omega) v1 ([] ++ l0) [x0, x1, x2, x3] _ _ _ (fun _ => True) (fun _ => False) rfl rfl ?aO ?aR (fun _ _ h => h) (fun _ h => h.elim) (fun _ _ => trivial) ?aB ?aS ?aL ?_; (case aR => exact (Kd.C_below (C_four K6.out) B1.out)); (case aB => exact B1.out); (case aO => exact O1.out); (case aS => exact B1.out.size); (case aL => have := HL.out; simp only [List.length_append, List.length_cons, List.length_nil]; omega); intro v2 w2 ho hb hg hat; have O2 := Aside0.mk ho; have B2 := Aside0.mk hb; clear ho hb hg hat)
    | ((with_reducible refine gate_builtin (b := .append) (xs := #[.tmp 17, .tmp 18]) rfl ?_); at_builtin; refine Kd.R_append_rows (Kd.int .u8) (w0 := W0) W0.heap.size rfl (.tmp 17) (.tmp 18) 42 5 (.int .u8 0) 1 rfl Try.underlying42 info5 rfl (by decide) (by omega) v2 (([] ++ l0) ++ [x0, x1, x2, x3]) l1 _ _ _ (fun _ => True) (fun _ => False) rfl rfl ?aO ?aR (fun _ _ h => h) (fun _ h => h.elim) (fun _ _ => trivial) ?aB ?aS ?aL ?_; (case aR => exact (Kd.C_below C1.out B2.out)); (case aB => exact B2.out); (case aO => exact O2.out); (case aS => exact B2.out.size); (case aL => have := HL.out; simp only [List.length_append, List.length_cons, List.length_nil]; omega); intro v3 w3 ho hb hg hat; have O3 := Aside0.mk ho; have B3 := Aside0.mk hb; clear ho hb hg hat))
  obtain ⟨xa, hxa⟩ : ∃ xa, xa = (([] ++ l0) ++ [x0, x1, x2, x3]) ++ l1 := ⟨_, rfl⟩
  have o3 := O3.out
  rw [← hxa] at o3
  obtain ⟨A3, c3, rfl⟩ := Kd.R_slice o3
  have hA := H1.out
  rw [show l0 ++ [x0, x1, x2, x3] ++ l1 = xa from hxa.symm] at hA
  have HA := Aside0.mk hA
  have RA := Aside0.mk (Kd.R_reads' o3)
  have D0 := Aside0.mk (Kd.C_below C0.out B3.out)
  have D1 := Aside0.mk (Kd.C_below C1.out B3.out)
  have L6 := Aside0.mk (blk_kept K6.out B3.out)
  have L7 := Aside0.mk (blk_kept K7.out B3.out)
  have EB3 := Aside0.mk (below_step EB.out B3.out)
  have B3a := Aside0.mk (Below.refl w3.heap.size w3)
  clear hxa o3 hA H1 O1 O2 O3 B0 B1 B2 B3 K6 K7 C0 C1 EB
  go_upto_region 8 with (first
    | ((with_reducible refine gate_builtin (b := .append) (xs := #[.tmp 20, .tmp 21]) rfl ?_); at_builtin; refine Kd.R_append_rows (Kd.int .u8) (w0 := w3) w3.heap.size rfl (.tmp 20) (.tmp 21) 42 5 (.int .u8 0) 1 rfl Try.underlying42 info5 rfl (by decide) (by omega) (.slice none 0 0) [] l0 _ _ _ (fun _ => True) (fun _ => False) rfl rfl ?aO ?aR (fun _ _ h => h) (fun _ h => h.elim) (fun _ _ => trivial) ?aB ?aS ?aL ?_; (case aR => exact D0.out); (case aB => exact B3a.out); (case aO => exact (Kd.R_nil _ _ _ _ _)); (case aS => exact B3a.out.size); (case aL => have := HL.out; simp only [List.length_append, List.length_cons, List.length_nil]; omega); intro v4 w4 ho hb hg hat; have O4 := Aside0.mk ho; have B4 := Aside0.mk hb; clear ho hb hg hat)
    | ((with_reducible refine gate_builtin (b := .append) (xs := #[.tmp 23, .tmp 24]) rfl ?_); at_builtin; refine Kd.R_append_rows (Kd.int .u8) (w0 := w3) w3.heap.size rfl (.tmp 23) (.tmp 24) 42 5 (.int .u8 0) 1 rfl Try.underlying42 info5 rfl (by decide) (by omega) v4 ([] ++ l0) [y0, y1, y2, y3] _ _ _ (fun _ => True) (fun _ => False) rfl rfl ?aO ?aR (fun _ _ h => h) (fun _ h => h.elim) (fun _ _ => trivial) ?aB ?aS ?aL ?_; (case aR => exact (Kd.C_below (C_four L7.out) B4.out)); (case aB => exact B4.out); (case aO => exact O4.out); (case aS => exact B4.out.size); (case aL => have := HL.out; simp only [List.length_append, List.length_cons, List.length_nil]; omega); intro v5 w5 ho hb hg hat; have O5 := Aside0.mk ho; have B5 := Aside0.mk hb; clear ho hb hg hat)
    | ((with_reducible refine gate_builtin (b := .append) (xs := #[.tmp 26, .tmp 27]) rfl ?_); at_builtin; refine Kd.R_append_rows (Kd.int .u8) (w0 := w3) w3.heap.size rfl (.tmp 26) (.tmp 27) 42 5 (.int .u8 0) 1 rfl Try.underlying42 info5 rfl (by decide) (by omega) v5 (([] ++ l0) ++ [y0, y1, y2, y3]) l1 _ _ _ (fun _ => True) (fun _ => False) rfl rfl ?aO ?aR (fun _ _ h => h) (fun _ h => h.elim) (fun _ _ => trivial) ?aB ?aS ?aL ?_; (case aR => exact (Kd.C_below D1.out B5.out)); (case aB => exact B5.out); (case aO => exact O5.out); (case aS => exact B5.out.size); (case aL => have := HL.out; simp only [List.length_append, List.length_cons, List.length_nil]; omega); intro v6 w6 ho hb hg hat; have O6 := Aside0.mk ho; have B6 := Aside0.mk hb; clear ho hb hg hat))
  obtain ⟨xb, hxb⟩ : ∃ xb, xb = (([] ++ l0) ++ [y0, y1, y2, y3]) ++ l1 := ⟨_, rfl⟩
  have o6 := O6.out
  rw [← hxb] at o6
  obtain ⟨A6, c6, rfl⟩ := Kd.R_slice o6
  have hB := H2.out
  rw [show l0 ++ [y0, y1, y2, y3] ++ l1 = xb from hxb.symm] at hB
  have HB := Aside0.mk hB
  have RB := Aside0.mk (Kd.R_reads' o6)
  have CA := Aside0.mk (Kd.C_below RA.out.2.2 B6.out)
  have M6 := Aside0.mk (blk_kept L6.out B6.out)
  have M7 := Aside0.mk (blk_kept L7.out B6.out)
  have EB6 := Aside0.mk (below_step EB3.out B6.out)
  clear hxb o6 hB H2 O4 O5 O6 B3a B4 B5 B6 L6 L7 D0 D1 EB3 HR0 HR1 HC0 HC1 HL
  obtain ⟨bb, hbb⟩ : ∃ bb, bb = ((x0 == y0) && ((x1 == y1) && ((x2 == y2) && (x3 == y3)))) := ⟨_, rfl⟩
  have EQ4 := fun w' => eq4 x0 x1 x2 x3 y0 y1 y2 y3 w'
  have hss := HS.out
  rw [← hbb] at EQ4 hss
  clear hbb HS
  go_region_held (fun w' => w'.cell? ⟨w.heap.size, 0, none⟩ = some (.int .u8 x0) ∧ w'.cell? ⟨w.heap.size, 1, none⟩ = some (.int .u8 x1) ∧ w'.cell? ⟨w.heap.size, 2, none⟩ = some (.int .u8 x2) ∧ w'.cell? ⟨w.heap.size, 3, none⟩ = some (.int .u8 x3) ∧
    w'.cell? ⟨w.heap.size + 1, 0, none⟩ = some (.int .u8 y0) ∧ w'.cell? ⟨w.heap.size + 1, 1, none⟩ = some (.int .u8 y1) ∧ w'.cell? ⟨w.heap.size + 1, 2, none⟩ = some (.int .u8 y2) ∧ w'.cell? ⟨w.heap.size + 1, 3, none⟩ = some (.int .u8 y3) ∧ Below w6.heap.size w6 w')
    (first
      | exact held M6.out M7.out (below_step (‹_ ∧ _ ∧ _ ∧ _ ∧ _ ∧ _ ∧ _ ∧ _ ∧ Below _ _ _›).2.2.2.2.2.2.2.2 hb)
      | exact held M6.out M7.out (below_drew1 (Below.refl _ _)))
    (first
      | (go_at_call 29; refine (crc_Of.calls K A3 c3 xa s1 _ ?c1 RA.out.2.1 HA.out).mono ?_; (case c1 => exact Kd.C_below CA.out (‹_ ∧ _ ∧ _ ∧ _ ∧ _ ∧ _ ∧ _ ∧ _ ∧ Below _ _ _›).2.2.2.2.2.2.2.2); rintro e w7 ⟨rfl, hb⟩)
      | (go_at_call 29; refine (crc_Of.calls K A6 c6 xb s2 _ ?c1 RB.out.2.1 HB.out).mono ?_; (case c1 => exact Kd.C_below RB.out.2.2 (‹_ ∧ _ ∧ _ ∧ _ ∧ _ ∧ _ ∧ _ ∧ _ ∧ Below _ _ _›).2.2.2.2.2.2.2.2); rintro e w7 ⟨rfl, hb⟩)
      | (go_at_call 32; refine (CrcLives.lives_calls _).mono ?_; rintro e w7 ⟨rfl, hb⟩))
  all_goals go_wp2_with fail
  all_goals go_ret
  all_goals exact ⟨rfl, below_step EB6.out (‹_ ∧ _ ∧ _ ∧ _ ∧ _ ∧ _ ∧ _ ∧ _ ∧ Below _ _ _›).2.2.2.2.2.2.2.2⟩

theorem walk (A0 : Option Addr) (l0 : List Int) (c0 : Nat) (A1 : Option Addr) (l1 : List Int) (c1 : Nat) (x0 x1 x2 x3 y0 y1 y2 y3 : Int) (w : World)
    (hr0 : Kd.C (Kd.int .u8) w A0 l0.length l0) (hc0 : l0.length ≤ c0) (hw0 : ∀ x ∈ l0, (Lit.int .u8 x).wf = true) (_ : l0.length * 1 ≤ 140737488351232)
    (hr1 : Kd.C (Kd.int .u8) w A1 l1.length l1) (hc1 : l1.length ≤ c1) (hw1 : ∀ x ∈ l1, (Lit.int .u8 x).wf = true) (_ : l1.length * 1 ≤ 140737488351232)
    (hx0 : (Lit.int .u8 x0).wf = true) (hx1 : (Lit.int .u8 x1).wf = true) (hx2 : (Lit.int .u8 x2).wf = true) (hx3 : (Lit.int .u8 x3).wf = true)
    (hy0 : (Lit.int .u8 y0).wf = true) (hy1 : (Lit.int .u8 y1).wf = true) (hy2 : (Lit.int .u8 y2).wf = true) (hy3 : (Lit.int .u8 y3).wf = true) (hl : l0.length + l1.length ≤ 1048576) :
    Calls Try.prog 10 #[.slice A0 l0.length c0, .slice A1 l1.length c1, .agg #[.int .u8 x0, .int .u8 x1, .int .u8 x2, .int .u8 x3], .agg #[.int .u8 y0, .int .u8 y1, .int .u8 y2, .int .u8 y3]] w fun e w' => e = .returned (.bool true) ∧ Below w.heap.size w w' := by
  obtain ⟨p, rfl, hp⟩ := bytes_of hw0
  obtain ⟨q, rfl, hq⟩ := bytes_of hw1
  obtain ⟨a0, rfl, ha0⟩ := nat_u8 hx0
  obtain ⟨a1, rfl, ha1⟩ := nat_u8 hx1
  obtain ⟨a2, rfl, ha2⟩ := nat_u8 hx2
  obtain ⟨a3, rfl, ha3⟩ := nat_u8 hx3
  obtain ⟨b0, rfl, hb0⟩ := nat_u8 hy0
  obtain ⟨b1, rfl, hb1⟩ := nat_u8 hy1
  obtain ⟨b2, rfl, hb2⟩ := nat_u8 hy2
  obtain ⟨b3, rfl, hb3⟩ := nat_u8 hy3
  have hpl : p.length + q.length ≤ 1048576 := by rwa [ofN_length, ofN_length] at hl
  have sm : ∀ d0 d1 d2 d3 : Nat, d0 < 256 → d1 < 256 → d2 < 256 → d3 < 256 → ∀ c ∈ p ++ [d0, d1, d2, d3] ++ q, c < 256 := by
    intro d0 d1 d2 d3 h0 h1 h2 h3 c hc
    simp only [List.mem_append, List.mem_cons, List.not_mem_nil, or_false] at hc
    rcases hc with (hc | rfl | rfl | rfl | rfl) | hc
    · exact hp c hc
    · exact h0
    · exact h1
    · exact h2
    · exact h3
    · exact hq c hc
  have of : ∀ d0 d1 d2 d3 : Nat, d0 < 256 → d1 < 256 → d2 < 256 → d3 < 256 → crc_Of.f 2000000 (ofN p ++ [(d0 : Int), (d1 : Int), (d2 : Int), (d3 : Int)] ++ ofN q) = some ((CM.of (p ++ [d0, d1, d2, d3] ++ q) : Nat) : Int) := by
    intro d0 d1 d2 d3 h0 h1 h2 h3
    have e : ofN p ++ [(d0 : Int), (d1 : Int), (d2 : Int), (d3 : Int)] ++ ofN q = CrcPure.ofN (p ++ [d0, d1, d2, d3] ++ q) := by simp [ofN, CrcPure.ofN]
    rw [e]
    refine CrcPure.of_f _ ?_ (sm d0 d1 d2 d3 h0 h1 h2 h3) _ ?_
    · simp only [List.length_append, List.length_cons, List.length_nil]; omega
    · simp only [List.length_append, List.length_cons, List.length_nil]; omega
  have side := CM.of_side (x := p) (y := q) hp ha0 ha1 ha2 ha3 hb0 hb1 hb2 hb3
  refine walk0 A0 (ofN p) c0 A1 (ofN q) c1 a0 a1 a2 a3 b0 b1 b2 b3 w hr0 hc0 hr1 hc1 hl 2000000 _ _ (of a0 a1 a2 a3 ha0 ha1 ha2 ha3) (of b0 b1 b2 b3 hb0 hb1 hb2 hb3) ?_
  rw [Bool.eq_iff_iff]
  simp only [Bool.and_eq_true, beq_iff_eq, Int.natCast_inj]
  exact side
end Go.Proofs.Ytpanefmemabckaa.CrcSide
