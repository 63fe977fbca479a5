/- cardexlaw22.changed: a Gen that differs in one thing, by a number. -/
import Derived.Test.YtpanefmemabckabGenRefNext
import Derived.Test.YtpanefmemabckabGenKit
namespace Go.Proofs.Ytpanefmemabckab.GenChanged
open Go.RowKit Go.Proofs.Ytpanefmemabckab.NumA Go.Proofs.Ytpanefmemabckab.GenS Go.Proofs.Ytpanefmemabckab.GenRep Go.Proofs.Ytpanefmemabckab.GenBlk Go.Proofs.Ytpanefmemabckab.GenPure Go.Proofs.Ytpanefmemabckab.GenRefNext Go.Proofs.YtpanefmemabckabW.PrintWords Go.Proofs.YtpanefmemabckabW.PrintLast
open Go.Proofs.Ytpanefmemabckab.GenZero (heap_new blk_kept blk_drew1 Z)
open Go.Proofs.Ytpanefmemabckab.GenZeroC (heldZ)
set_option linter.unusedSimpArgs false
set_option linter.unusedVariables false

/-- a row of one element, just made -/
theorem R_one {α : Type} (d : Kd α) (e base : Nat) (W : World) (hb : base ≤ W.heap.size) (p : α) (cs : List Value) (hm : d.M (W.alloc (.cells cs.toArray e)) base (fun _ => False) p cs) : d.R e (W.alloc (.cells cs.toArray e)) base (fun _ => True) (.slice (some ⟨W.heap.size, 0, none⟩) 1 1) [p] := by
  have hk := d.K_len (d.K_of_M hm)
  refine ⟨fun k hk => trivial, cs, ?_, ?_⟩
  · have h2 := World.ownsRow_lit (base := base) (e := e) (size := d.sz) W cs.toArray 1 hb (by decide) (by simpa using hk)
    simpa using h2
  · refine ⟨by simp [hk], fun j q hj => ?_⟩
    cases j with
    | succ j => simp at hj
    | zero =>
      obtain rfl : p = q := by simpa using hj
      rw [Nat.zero_mul, List.drop_zero, List.take_of_length_le (by omega)]
      exact d.M_mono (fun _ h => h.elim) hm

set_option maxRecDepth 100000 in
set_option maxHeartbeats 8000000 in
theorem changed_calls (g : G) (s1 s2 s3 s4 s5 s6 : Value) (which : Int) (w : World) (gc : GenC w g s1 s2 s3 s4 s5 s6) (gb : GenB g) (gl : GenL g 1000) (hq5 : g.rq.length ≤ 100000) (hq6 : g.rp.length ≤ 100000) (h0 : 0 ≤ which) (h1 : which < 256) :
    Calls Try.prog 37 #[genV g s1 s2 s3 s4 s5 s6, .int .u8 which] w fun e w' => ∃ h t1 t2 t3 t4 t5 t6, e = .returned (genV h t1 t2 t3 t4 t5 t6) ∧ GenC w' h t1 t2 t3 t4 t5 t6 ∧ GenB h ∧ GenL h 400000 ∧ h ≠ g ∧ Below w.heap.size w w' := by
  have GC := Aside0.mk gc
  have GB := Aside0.mk gb
  have GL := Aside0.mk gl
  have L5 := Aside0.mk hq5
  have L6 := Aside0.mk hq6
  have hpp := blk_alloc (heap_new w (genO g s1 s2 s3 s4 s5 s6)) Z
  have hqq := heap_new (w.alloc (genO g s1 s2 s3 s4 s5 s6)) Z
  have hB : Below w.heap.size w ((w.alloc (genO g s1 s2 s3 s4 s5 s6)).alloc Z) := ((Below.refl _ _).alloc (Nat.le_refl _) _).alloc (by simp) _
  rw [show (w.alloc (genO g s1 s2 s3 s4 s5 s6)).heap.size = w.heap.size + 1 from by simp] at hqq
  obtain ⟨p, hp'⟩ : ∃ p, p = w.heap.size := ⟨_, rfl⟩
  obtain ⟨W0, hW0⟩ : ∃ W0, W0 = (w.alloc (genO g s1 s2 s3 s4 s5 s6)).alloc Z := ⟨_, rfl⟩
  rw [← hW0] at hpp hqq hB
  rw [← hp'] at hpp hqq
  have EW := Aside0.mk hW0
  have EP := Aside0.mk hp'
  have Q := Aside0.mk hqq
  have B := Aside0.mk hB
  obtain ⟨c0, c1, c2, c3, c4, c5, c6, c7, c8, c9, c10⟩ := heldG hpp
  clear hpp hqq hB hp' hW0 gc gb gl hq5 hq6
  go_enter Try.func37, Try.ntmps37
  go_upto_region 1 with fail
  change Code.wp _ _ _ _ ((w.alloc (genO g s1 s2 s3 s4 s5 s6)).alloc Z)
  rw [← EW.out, ← EP.out]
  go_wp2_with fail
  refine (copied_calls g s1 s2 s3 s4 s5 s6 _ (GC.out.below B.out) ⟨Nat.le_trans GL.out.h1 (by decide), Nat.le_trans GL.out.h2 (by decide), Nat.le_trans GL.out.h3 (by decide), Nat.le_trans GL.out.h4 (by decide), GL.out.h5, GL.out.h6⟩).mono ?_
  rintro e w2 ⟨t1, t2, t3, t4, t5, t6, rfl, hx, hb⟩
  obtain ⟨A1, n1, rfl⟩ := Kd.R_slice hx.h1
  obtain ⟨A2, n2, rfl⟩ := Kd.R_slice hx.h2
  obtain ⟨A3, n3, rfl⟩ := Kd.R_slice hx.h3
  obtain ⟨A4, n4, rfl⟩ := Kd.R_slice hx.h4
  obtain ⟨A5, n5, rfl⟩ := Kd.R_slice hx.h5
  obtain ⟨A6, n6, rfl⟩ := Kd.R_slice hx.h6
  have X := Aside0.mk (heap_new w2 (genO g (.slice A1 g.v1.length n1) (.slice A2 g.c1.length n2) (.slice A3 g.v2.length n3) (.slice A4 g.c2.length n4) (.slice A5 g.rq.length n5) (.slice A6 g.rp.length n6)))
  have GR := Aside0.mk ((lower hx B.out.size).below (below_al w2 (genO g (.slice A1 g.v1.length n1) (.slice A2 g.c1.length n2) (.slice A3 g.v2.length n3) (.slice A4 g.c2.length n4) (.slice A5 g.rq.length n5) (.slice A6 g.rp.length n6))))
  have NX := Aside0.mk (Nat.le_trans B.out.size hb.size)
  have NQ := Aside0.mk (Nat.ne_of_lt (blk_lt (blk_kept Q.out hb)))
  replace Q := Aside0.mk (blk_alloc (blk_kept Q.out hb) (genO g (.slice A1 g.v1.length n1) (.slice A2 g.c1.length n2) (.slice A3 g.v2.length n3) (.slice A4 g.c2.length n4) (.slice A5 g.rq.length n5) (.slice A6 g.rp.length n6)))
  replace B := Aside0.mk ((below_then B.out B.out.size hb).trans ((below_al w2 (genO g (.slice A1 g.v1.length n1) (.slice A2 g.c1.length n2) (.slice A3 g.v2.length n3) (.slice A4 g.c2.length n4) (.slice A5 g.rq.length n5) (.slice A6 g.rp.length n6))).mono (below_then B.out B.out.size hb).size))
  clear hx hb c0 c1 c2 c3 c4 c5 c6 c7 c8 c9 c10
  obtain ⟨x, hx⟩ : ∃ x, x = w2.heap.size := ⟨_, rfl⟩
  rw [← hx] at X NX NQ
  have EQ := Aside0.mk hx
  clear hx
  go_upto_region 2 with fail
  change Code.wp _ _ _ _ (w2.alloc (genO g (.slice A1 g.v1.length n1) (.slice A2 g.c1.length n2) (.slice A3 g.v2.length n3) (.slice A4 g.c2.length n4) (.slice A5 g.rq.length n5) (.slice A6 g.rp.length n6)))
  rw [← EQ.out]
  generalize w2.alloc (genO g (.slice A1 g.v1.length n1) (.slice A2 g.c1.length n2) (.slice A3 g.v2.length n3) (.slice A4 g.c2.length n4) (.slice A5 g.rq.length n5) (.slice A6 g.rp.length n6)) = w3 at X GR Q B ⊢
  clear EQ EW
  obtain ⟨c0, c1, c2, c3, c4, c5, c6, c7, c8, c9, c10⟩ := heldG X.out
  go_upto_if 12 with fail
  go_cut [6] (fun v6 wc => ∃ j : Nat, (j = 0 ∨ j = 3) ∧ v6 = .pointer (some ⟨x, j, none⟩) ∧ w3 = wc)
  case first =>
    go_wp2_with fail
    · go_meet
      exact ⟨3, .inr rfl, rfl, rfl⟩
    · go_meet
      exact ⟨0, .inl rfl, rfl, rfl⟩
  case rest =>
    obtain ⟨j, hj, rfl, rfl⟩ := hcut
    go_upto_block 0 with fail
    go_cut [] (fun wc => ∃ h t1 t2 t3 t4 t5 t6, Aside0 (wc.heap[x]? = some (genO h t1 t2 t3 t4 t5 t6)) ∧ Aside0 (GenR wc w.heap.size h t1 t2 t3 t4 t5 t6) ∧ Aside0 (wc.heap[p + 1]? = some Z) ∧ Aside0 (Below w.heap.size w wc) ∧ Aside0 (GenB h ∧ GenL h 400000 ∧ h ≠ g))
    case first =>
      have hm : which % 8 = 0 ∨ which % 8 = 1 ∨ which % 8 = 2 ∨ which % 8 = 3 ∨ which % 8 = 4 ∨ which % 8 = 5 ∨ which % 8 = 6 ∨ which % 8 = 7 := by omega
      rcases hm with em | em | em | em | em | em | em | em
      · skip
        rcases hj with rfl | rfl
        · skip
          have r0 := blk_frozen X.out 0
          have q0 : (which % 8 == 0) = true := beq_iff_eq.mpr em
          clear em
          go_wp2_with fail
          go_meet
          obtain ⟨w4, hW⟩ : ∃ W, W = w3.setCell ⟨x, 0, none⟩ (.int .u32 ((g.k1 + 1) % 4294967296)) := ⟨_, rfl⟩
          rw [show w3.setCell ⟨x, 0, none⟩ (.int .u32 ((g.k1 + 1) % 4294967296)) = w4 from hW.symm]
          refine ⟨(⟨(g.k1 + 1) % 4294967296, g.v1, g.c1, g.k2, g.v2, g.c2, g.rq, g.rp, g.ls, g.su, g.wi⟩ : G), (.slice A1 g.v1.length n1), (.slice A2 g.c1.length n2), (.slice A3 g.v2.length n3), (.slice A4 g.c2.length n4), (.slice A5 g.rq.length n5), (.slice A6 g.rp.length n6), ⟨?_⟩, ⟨?_⟩, ⟨?_⟩, ⟨?_⟩, ⟨⟨GB.out.1, GB.out.2⟩, ⟨Nat.le_trans GL.out.h1 (by decide), Nat.le_trans GL.out.h2 (by decide), Nat.le_trans GL.out.h3 (by decide), Nat.le_trans GL.out.h4 (by decide), GL.out.h5, GL.out.h6⟩, ?_⟩⟩
          · rw [hW]; exact blk_set X.out 0 (.int .u32 ((g.k1 + 1) % 4294967296))
          · rw [hW]; exact (show GenR _ w.heap.size (⟨(g.k1 + 1) % 4294967296, g.v1, g.c1, g.k2, g.v2, g.c2, g.rq, g.rp, g.ls, g.su, g.wi⟩ : G) (.slice A1 g.v1.length n1) (.slice A2 g.c1.length n2) (.slice A3 g.v2.length n3) (.slice A4 g.c2.length n4) (.slice A5 g.rq.length n5) (.slice A6 g.rp.length n6) from ⟨(rows_set GR.out X.out (.inl rfl) 0 (.int .u32 ((g.k1 + 1) % 4294967296))).h1, (rows_set GR.out X.out (.inl rfl) 0 (.int .u32 ((g.k1 + 1) % 4294967296))).h2, (rows_set GR.out X.out (.inl rfl) 0 (.int .u32 ((g.k1 + 1) % 4294967296))).h3, (rows_set GR.out X.out (.inl rfl) 0 (.int .u32 ((g.k1 + 1) % 4294967296))).h4, (rows_set GR.out X.out (.inl rfl) 0 (.int .u32 ((g.k1 + 1) % 4294967296))).h5, (rows_set GR.out X.out (.inl rfl) 0 (.int .u32 ((g.k1 + 1) % 4294967296))).h6⟩)
          · rw [hW]; exact set_far Q.out NQ.out 0 (.int .u32 ((g.k1 + 1) % 4294967296))
          · rw [hW]; exact set_below B.out NX.out 0 (.int .u32 ((g.k1 + 1) % 4294967296))
          · exact fun e => by have := congrArg G.k1 e; simp only at this; omega
        · skip
          have r0 := blk_frozen X.out 3
          have q0 : (which % 8 == 0) = true := beq_iff_eq.mpr em
          clear em
          go_wp2_with fail
          go_meet
          obtain ⟨w4, hW⟩ : ∃ W, W = w3.setCell ⟨x, 3, none⟩ (.int .u32 ((g.k2 + 1) % 4294967296)) := ⟨_, rfl⟩
          rw [show w3.setCell ⟨x, 3, none⟩ (.int .u32 ((g.k2 + 1) % 4294967296)) = w4 from hW.symm]
          refine ⟨(⟨g.k1, g.v1, g.c1, (g.k2 + 1) % 4294967296, g.v2, g.c2, g.rq, g.rp, g.ls, g.su, g.wi⟩ : G), (.slice A1 g.v1.length n1), (.slice A2 g.c1.length n2), (.slice A3 g.v2.length n3), (.slice A4 g.c2.length n4), (.slice A5 g.rq.length n5), (.slice A6 g.rp.length n6), ⟨?_⟩, ⟨?_⟩, ⟨?_⟩, ⟨?_⟩, ⟨⟨GB.out.1, GB.out.2⟩, ⟨Nat.le_trans GL.out.h1 (by decide), Nat.le_trans GL.out.h2 (by decide), Nat.le_trans GL.out.h3 (by decide), Nat.le_trans GL.out.h4 (by decide), GL.out.h5, GL.out.h6⟩, ?_⟩⟩
          · rw [hW]; exact blk_set X.out 3 (.int .u32 ((g.k2 + 1) % 4294967296))
          · rw [hW]; exact (show GenR _ w.heap.size (⟨g.k1, g.v1, g.c1, (g.k2 + 1) % 4294967296, g.v2, g.c2, g.rq, g.rp, g.ls, g.su, g.wi⟩ : G) (.slice A1 g.v1.length n1) (.slice A2 g.c1.length n2) (.slice A3 g.v2.length n3) (.slice A4 g.c2.length n4) (.slice A5 g.rq.length n5) (.slice A6 g.rp.length n6) from ⟨(rows_set GR.out X.out (.inl rfl) 3 (.int .u32 ((g.k2 + 1) % 4294967296))).h1, (rows_set GR.out X.out (.inl rfl) 3 (.int .u32 ((g.k2 + 1) % 4294967296))).h2, (rows_set GR.out X.out (.inl rfl) 3 (.int .u32 ((g.k2 + 1) % 4294967296))).h3, (rows_set GR.out X.out (.inl rfl) 3 (.int .u32 ((g.k2 + 1) % 4294967296))).h4, (rows_set GR.out X.out (.inl rfl) 3 (.int .u32 ((g.k2 + 1) % 4294967296))).h5, (rows_set GR.out X.out (.inl rfl) 3 (.int .u32 ((g.k2 + 1) % 4294967296))).h6⟩)
          · rw [hW]; exact set_far Q.out NQ.out 3 (.int .u32 ((g.k2 + 1) % 4294967296))
          · rw [hW]; exact set_below B.out NX.out 3 (.int .u32 ((g.k2 + 1) % 4294967296))
          · exact fun e => by have := congrArg G.k2 e; simp only at this; omega
      · skip
        rcases hj with rfl | rfl
        · skip
          have q0 : (which % 8 == 0) = false := beq_eq_false_iff_ne.mpr (by omega)
          have q1 : (which % 8 == 1) = true := beq_iff_eq.mpr em
          clear em
          have c := heldG (blk_alloc X.out (.cells #[] 58))
          obtain ⟨x0, x1, x2, x3, x4, x5, x6, x7, x8, x9, x10⟩ := c
          have O1 := Aside0.mk (GenKit.R_empty kS 58 w3.heap.size w3 (Nat.le_refl _))
          have B1 := Aside0.mk (below_al w3 (.cells #[] 58))
          have C1 := Aside0.mk (Kd.C_below (Kd.R_reads' GR.out.h1).2.2 B1.out)
          go_wp2_with (first | ((with_reducible refine gate_builtin (b := .append) (xs := #[.tmp 32, .tmp 36]) rfl ?_); at_builtin; refine Kd.R_append_rows kS (w0 := w3) w3.heap.size rfl (.tmp 32) (.tmp 36) 46 58 (.agg #[(.int .u32 0), (.int .u64 0)]) 16 rfl Try.underlying46 Go.Proofs.Ytpanefmemabckab.GenS.info58 rfl (by decide) (by omega) (.slice (some ⟨w3.heap.size, 0, none⟩) 0 0) ([] : List S58) g.v1 _ _ _ (fun _ => True) (fun _ => False) rfl rfl ?aO ?aR (fun _ _ h => h) (fun _ h => h.elim) (fun _ _ => trivial) ?aB ?aS ?aL ?_; (case aR => exact C1.out); (case aB => exact B1.out); (case aO => exact O1.out); (case aS => exact B1.out.size); (case aL => have := GL.out.h1; simp; omega); intro v5 w5 ho hb hg hat; rw [List.nil_append] at ho; obtain ⟨A8, n8, rfl⟩ := Kd.R_slice ho; have O5 := Aside0.mk (Kd.R_alloc ho (.cells [.int .u32 1, .int .u64 0].toArray 58)); have B5 := Aside0.mk (hb.alloc hb.size (.cells [.int .u32 1, .int .u64 0].toArray 58)); have C5 := Aside0.mk (Kd.R_reads' (R_one kS 58 w5.heap.size w5 (Nat.le_refl _) (⟨1, 0⟩ : S58) [.int .u32 1, .int .u64 0] (k58_mkM _ _ _ _))).2.2; clear ho hb hg hat O1 C1 x0 x1 x2 x3 x4 x5 x6 x7 x8 x9 x10) | ((with_reducible refine gate_builtin (b := .append) (xs := #[.tmp 37, .tmp 39]) rfl ?_); at_builtin; refine Kd.R_append_rows kS (w0 := w3) w3.heap.size rfl (.tmp 37) (.tmp 39) 46 58 (.agg #[(.int .u32 0), (.int .u64 0)]) 16 rfl Try.underlying46 Go.Proofs.Ytpanefmemabckab.GenS.info58 rfl (by decide) (by omega) (.slice A8 g.v1.length n8) g.v1 [(⟨1, 0⟩ : S58)] _ _ _ (fun _ => True) (fun _ => False) rfl rfl ?aO ?aR (fun _ _ h => h) (fun _ h => h.elim) (fun _ _ => trivial) ?aB ?aS ?aL ?_; (case aR => exact C5.out); (case aB => exact B5.out); (case aO => exact O5.out); (case aS => exact B5.out.size); (case aL => have := GL.out.h1; simp; omega); intro v7 w7 ho hb hg hat; obtain ⟨A9, n9, e9⟩ := Kd.R_slice ho; rw [show (g.v1 ++ [(⟨1, 0⟩ : S58)]).length = g.v1.length + 1 from List.length_append] at e9; subst e9; have O7 := Aside0.mk (Kd.R_lower ho (show w.heap.size ≤ w3.heap.size from B.out.size)); have X7 := Aside0.mk (blk_kept X.out hb); have B7 := Aside0.mk (below_then B.out B.out.size hb); have Q7 := Aside0.mk (blk_kept Q.out hb); have G7 := Aside0.mk (GR.out.below hb); have r7 := blk_frozen X7.out 1; obtain ⟨x0, x1, x2, x3, x4, x5, x6, x7, x8, x9, x10⟩ := heldG X7.out; clear ho hb hg hat))
          go_meet
          obtain ⟨w4, hW⟩ : ∃ W, W = w7.setCell ⟨x, 1, none⟩ (.slice A9 (g.v1.length + 1) n9) := ⟨_, rfl⟩
          rw [show w7.setCell ⟨x, 1, none⟩ (.slice A9 (g.v1.length + 1) n9) = w4 from hW.symm]
          refine ⟨(⟨g.k1, g.v1 ++ [(⟨1, 0⟩ : S58)], g.c1, g.k2, g.v2, g.c2, g.rq, g.rp, g.ls, g.su, g.wi⟩ : G), (.slice A9 (g.v1.length + 1) n9), (.slice A2 g.c1.length n2), (.slice A3 g.v2.length n3), (.slice A4 g.c2.length n4), (.slice A5 g.rq.length n5), (.slice A6 g.rp.length n6), ⟨?_⟩, ⟨?_⟩, ⟨?_⟩, ⟨?_⟩, ⟨⟨GB.out.1, GB.out.2⟩, ⟨(by have := GL.out.h1; simp; omega), Nat.le_trans GL.out.h2 (by decide), Nat.le_trans GL.out.h3 (by decide), Nat.le_trans GL.out.h4 (by decide), GL.out.h5, GL.out.h6⟩, ?_⟩⟩
          · rw [hW]; exact blk_set X7.out 1 (.slice A9 (g.v1.length + 1) n9)
          · rw [hW]; exact (show GenR _ w.heap.size (⟨g.k1, g.v1 ++ [(⟨1, 0⟩ : S58)], g.c1, g.k2, g.v2, g.c2, g.rq, g.rp, g.ls, g.su, g.wi⟩ : G) (.slice A9 (g.v1.length + 1) n9) (.slice A2 g.c1.length n2) (.slice A3 g.v2.length n3) (.slice A4 g.c2.length n4) (.slice A5 g.rq.length n5) (.slice A6 g.rp.length n6) from ⟨(row_set O7.out X7.out (by decide) 1 (.slice A9 (g.v1.length + 1) n9)), (rows_set G7.out X7.out (.inl rfl) 1 (.slice A9 (g.v1.length + 1) n9)).h2, (rows_set G7.out X7.out (.inl rfl) 1 (.slice A9 (g.v1.length + 1) n9)).h3, (rows_set G7.out X7.out (.inl rfl) 1 (.slice A9 (g.v1.length + 1) n9)).h4, (rows_set G7.out X7.out (.inl rfl) 1 (.slice A9 (g.v1.length + 1) n9)).h5, (rows_set G7.out X7.out (.inl rfl) 1 (.slice A9 (g.v1.length + 1) n9)).h6⟩)
          · rw [hW]; exact set_far Q7.out NQ.out 1 (.slice A9 (g.v1.length + 1) n9)
          · rw [hW]; exact set_below B7.out NX.out 1 (.slice A9 (g.v1.length + 1) n9)
          · exact fun e => by have := congrArg G.v1 e; exact absurd (congrArg List.length this) (by simp)
        · skip
          have q0 : (which % 8 == 0) = false := beq_eq_false_iff_ne.mpr (by omega)
          have q1 : (which % 8 == 1) = true := beq_iff_eq.mpr em
          clear em
          have c := heldG (blk_alloc X.out (.cells #[] 58))
          obtain ⟨x0, x1, x2, x3, x4, x5, x6, x7, x8, x9, x10⟩ := c
          have O1 := Aside0.mk (GenKit.R_empty kS 58 w3.heap.size w3 (Nat.le_refl _))
          have B1 := Aside0.mk (below_al w3 (.cells #[] 58))
          have C1 := Aside0.mk (Kd.C_below (Kd.R_reads' GR.out.h3).2.2 B1.out)
          go_wp2_with (first | ((with_reducible refine gate_builtin (b := .append) (xs := #[.tmp 32, .tmp 36]) rfl ?_); at_builtin; refine Kd.R_append_rows kS (w0 := w3) w3.heap.size rfl (.tmp 32) (.tmp 36) 46 58 (.agg #[(.int .u32 0), (.int .u64 0)]) 16 rfl Try.underlying46 Go.Proofs.Ytpanefmemabckab.GenS.info58 rfl (by decide) (by omega) (.slice (some ⟨w3.heap.size, 0, none⟩) 0 0) ([] : List S58) g.v2 _ _ _ (fun _ => True) (fun _ => False) rfl rfl ?aO ?aR (fun _ _ h => h) (fun _ h => h.elim) (fun _ _ => trivial) ?aB ?aS ?aL ?_; (case aR => exact C1.out); (case aB => exact B1.out); (case aO => exact O1.out); (case aS => exact B1.out.size); (case aL => have := GL.out.h3; simp; omega); intro v5 w5 ho hb hg hat; rw [List.nil_append] at ho; obtain ⟨A8, n8, rfl⟩ := Kd.R_slice ho; have O5 := Aside0.mk (Kd.R_alloc ho (.cells [.int .u32 1, .int .u64 0].toArray 58)); have B5 := Aside0.mk (hb.alloc hb.size (.cells [.int .u32 1, .int .u64 0].toArray 58)); have C5 := Aside0.mk (Kd.R_reads' (R_one kS 58 w5.heap.size w5 (Nat.le_refl _) (⟨1, 0⟩ : S58) [.int .u32 1, .int .u64 0] (k58_mkM _ _ _ _))).2.2; clear ho hb hg hat O1 C1 x0 x1 x2 x3 x4 x5 x6 x7 x8 x9 x10) | ((with_reducible refine gate_builtin (b := .append) (xs := #[.tmp 37, .tmp 39]) rfl ?_); at_builtin; refine Kd.R_append_rows kS (w0 := w3) w3.heap.size rfl (.tmp 37) (.tmp 39) 46 58 (.agg #[(.int .u32 0), (.int .u64 0)]) 16 rfl Try.underlying46 Go.Proofs.Ytpanefmemabckab.GenS.info58 rfl (by decide) (by omega) (.slice A8 g.v2.length n8) g.v2 [(⟨1, 0⟩ : S58)] _ _ _ (fun _ => True) (fun _ => False) rfl rfl ?aO ?aR (fun _ _ h => h) (fun _ h => h.elim) (fun _ _ => trivial) ?aB ?aS ?aL ?_; (case aR => exact C5.out); (case aB => exact B5.out); (case aO => exact O5.out); (case aS => exact B5.out.size); (case aL => have := GL.out.h3; simp; omega); intro v7 w7 ho hb hg hat; obtain ⟨A9, n9, e9⟩ := Kd.R_slice ho; rw [show (g.v2 ++ [(⟨1, 0⟩ : S58)]).length = g.v2.length + 1 from List.length_append] at e9; subst e9; have O7 := Aside0.mk (Kd.R_lower ho (show w.heap.size ≤ w3.heap.size from B.out.size)); have X7 := Aside0.mk (blk_kept X.out hb); have B7 := Aside0.mk (below_then B.out B.out.size hb); have Q7 := Aside0.mk (blk_kept Q.out hb); have G7 := Aside0.mk (GR.out.below hb); have r7 := blk_frozen X7.out 4; obtain ⟨x0, x1, x2, x3, x4, x5, x6, x7, x8, x9, x10⟩ := heldG X7.out; clear ho hb hg hat))
          go_meet
          obtain ⟨w4, hW⟩ : ∃ W, W = w7.setCell ⟨x, 4, none⟩ (.slice A9 (g.v2.length + 1) n9) := ⟨_, rfl⟩
          rw [show w7.setCell ⟨x, 4, none⟩ (.slice A9 (g.v2.length + 1) n9) = w4 from hW.symm]
          refine ⟨(⟨g.k1, g.v1, g.c1, g.k2, g.v2 ++ [(⟨1, 0⟩ : S58)], g.c2, g.rq, g.rp, g.ls, g.su, g.wi⟩ : G), (.slice A1 g.v1.length n1), (.slice A2 g.c1.length n2), (.slice A9 (g.v2.length + 1) n9), (.slice A4 g.c2.length n4), (.slice A5 g.rq.length n5), (.slice A6 g.rp.length n6), ⟨?_⟩, ⟨?_⟩, ⟨?_⟩, ⟨?_⟩, ⟨⟨GB.out.1, GB.out.2⟩, ⟨Nat.le_trans GL.out.h1 (by decide), Nat.le_trans GL.out.h2 (by decide), (by have := GL.out.h3; simp; omega), Nat.le_trans GL.out.h4 (by decide), GL.out.h5, GL.out.h6⟩, ?_⟩⟩
          · rw [hW]; exact blk_set X7.out 4 (.slice A9 (g.v2.length + 1) n9)
          · rw [hW]; exact (show GenR _ w.heap.size (⟨g.k1, g.v1, g.c1, g.k2, g.v2 ++ [(⟨1, 0⟩ : S58)], g.c2, g.rq, g.rp, g.ls, g.su, g.wi⟩ : G) (.slice A1 g.v1.length n1) (.slice A2 g.c1.length n2) (.slice A9 (g.v2.length + 1) n9) (.slice A4 g.c2.length n4) (.slice A5 g.rq.length n5) (.slice A6 g.rp.length n6) from ⟨(rows_set G7.out X7.out (.inl rfl) 4 (.slice A9 (g.v2.length + 1) n9)).h1, (rows_set G7.out X7.out (.inl rfl) 4 (.slice A9 (g.v2.length + 1) n9)).h2, (row_set O7.out X7.out (by decide) 4 (.slice A9 (g.v2.length + 1) n9)), (rows_set G7.out X7.out (.inl rfl) 4 (.slice A9 (g.v2.length + 1) n9)).h4, (rows_set G7.out X7.out (.inl rfl) 4 (.slice A9 (g.v2.length + 1) n9)).h5, (rows_set G7.out X7.out (.inl rfl) 4 (.slice A9 (g.v2.length + 1) n9)).h6⟩)
          · rw [hW]; exact set_far Q7.out NQ.out 4 (.slice A9 (g.v2.length + 1) n9)
          · rw [hW]; exact set_below B7.out NX.out 4 (.slice A9 (g.v2.length + 1) n9)
          · exact fun e => by have := congrArg G.v2 e; exact absurd (congrArg List.length this) (by simp)
      · skip
        rcases hj with rfl | rfl
        · skip
          have q0 : (which % 8 == 0) = false := beq_eq_false_iff_ne.mpr (by omega)
          have q1 : (which % 8 == 1) = false := beq_eq_false_iff_ne.mpr (by omega)
          have q2 : (which % 8 == 2) = true := beq_iff_eq.mpr em
          clear em
          have c := heldG (blk_alloc X.out (.cells #[] 60))
          obtain ⟨x0, x1, x2, x3, x4, x5, x6, x7, x8, x9, x10⟩ := c
          have O1 := Aside0.mk (GenKit.R_empty kC 60 w3.heap.size w3 (Nat.le_refl _))
          have B1 := Aside0.mk (below_al w3 (.cells #[] 60))
          have C1 := Aside0.mk (Kd.C_below (Kd.R_reads' GR.out.h2).2.2 B1.out)
          go_wp2_with (first | ((with_reducible refine gate_builtin (b := .append) (xs := #[.tmp 46, .tmp 50]) rfl ?_); at_builtin; refine Kd.R_append_rows kC (w0 := w3) w3.heap.size rfl (.tmp 46) (.tmp 50) 47 60 (.agg #[(.int .u32 0), (.int .u32 0), (.int .u64 0)]) 16 rfl Try.underlying47 Go.Proofs.Ytpanefmemabckab.GenS.info60 rfl (by decide) (by omega) (.slice (some ⟨w3.heap.size, 0, none⟩) 0 0) ([] : List S60) g.c1 _ _ _ (fun _ => True) (fun _ => False) rfl rfl ?aO ?aR (fun _ _ h => h) (fun _ h => h.elim) (fun _ _ => trivial) ?aB ?aS ?aL ?_; (case aR => exact C1.out); (case aB => exact B1.out); (case aO => exact O1.out); (case aS => exact B1.out.size); (case aL => have := GL.out.h2; simp; omega); intro v5 w5 ho hb hg hat; rw [List.nil_append] at ho; obtain ⟨A8, n8, rfl⟩ := Kd.R_slice ho; have O5 := Aside0.mk (Kd.R_alloc ho (.cells [.int .u32 1, .int .u32 0, .int .u64 0].toArray 60)); have B5 := Aside0.mk (hb.alloc hb.size (.cells [.int .u32 1, .int .u32 0, .int .u64 0].toArray 60)); have C5 := Aside0.mk (Kd.R_reads' (R_one kC 60 w5.heap.size w5 (Nat.le_refl _) (⟨1, 0, 0⟩ : S60) [.int .u32 1, .int .u32 0, .int .u64 0] (k60_mkM _ _ _ _))).2.2; clear ho hb hg hat O1 C1 x0 x1 x2 x3 x4 x5 x6 x7 x8 x9 x10) | ((with_reducible refine gate_builtin (b := .append) (xs := #[.tmp 51, .tmp 53]) rfl ?_); at_builtin; refine Kd.R_append_rows kC (w0 := w3) w3.heap.size rfl (.tmp 51) (.tmp 53) 47 60 (.agg #[(.int .u32 0), (.int .u32 0), (.int .u64 0)]) 16 rfl Try.underlying47 Go.Proofs.Ytpanefmemabckab.GenS.info60 rfl (by decide) (by omega) (.slice A8 g.c1.length n8) g.c1 [(⟨1, 0, 0⟩ : S60)] _ _ _ (fun _ => True) (fun _ => False) rfl rfl ?aO ?aR (fun _ _ h => h) (fun _ h => h.elim) (fun _ _ => trivial) ?aB ?aS ?aL ?_; (case aR => exact C5.out); (case aB => exact B5.out); (case aO => exact O5.out); (case aS => exact B5.out.size); (case aL => have := GL.out.h2; simp; omega); intro v7 w7 ho hb hg hat; obtain ⟨A9, n9, e9⟩ := Kd.R_slice ho; rw [show (g.c1 ++ [(⟨1, 0, 0⟩ : S60)]).length = g.c1.length + 1 from List.length_append] at e9; subst e9; have O7 := Aside0.mk (Kd.R_lower ho (show w.heap.size ≤ w3.heap.size from B.out.size)); have X7 := Aside0.mk (blk_kept X.out hb); have B7 := Aside0.mk (below_then B.out B.out.size hb); have Q7 := Aside0.mk (blk_kept Q.out hb); have G7 := Aside0.mk (GR.out.below hb); have r7 := blk_frozen X7.out 2; obtain ⟨x0, x1, x2, x3, x4, x5, x6, x7, x8, x9, x10⟩ := heldG X7.out; clear ho hb hg hat))
          go_meet
          obtain ⟨w4, hW⟩ : ∃ W, W = w7.setCell ⟨x, 2, none⟩ (.slice A9 (g.c1.length + 1) n9) := ⟨_, rfl⟩
          rw [show w7.setCell ⟨x, 2, none⟩ (.slice A9 (g.c1.length + 1) n9) = w4 from hW.symm]
          refine ⟨(⟨g.k1, g.v1, g.c1 ++ [(⟨1, 0, 0⟩ : S60)], g.k2, g.v2, g.c2, g.rq, g.rp, g.ls, g.su, g.wi⟩ : G), (.slice A1 g.v1.length n1), (.slice A9 (g.c1.length + 1) n9), (.slice A3 g.v2.length n3), (.slice A4 g.c2.length n4), (.slice A5 g.rq.length n5), (.slice A6 g.rp.length n6), ⟨?_⟩, ⟨?_⟩, ⟨?_⟩, ⟨?_⟩, ⟨⟨GB.out.1, GB.out.2⟩, ⟨Nat.le_trans GL.out.h1 (by decide), (by have := GL.out.h2; simp; omega), Nat.le_trans GL.out.h3 (by decide), Nat.le_trans GL.out.h4 (by decide), GL.out.h5, GL.out.h6⟩, ?_⟩⟩
          · rw [hW]; exact blk_set X7.out 2 (.slice A9 (g.c1.length + 1) n9)
          · rw [hW]; exact (show GenR _ w.heap.size (⟨g.k1, g.v1, g.c1 ++ [(⟨1, 0, 0⟩ : S60)], g.k2, g.v2, g.c2, g.rq, g.rp, g.ls, g.su, g.wi⟩ : G) (.slice A1 g.v1.length n1) (.slice A9 (g.c1.length + 1) n9) (.slice A3 g.v2.length n3) (.slice A4 g.c2.length n4) (.slice A5 g.rq.length n5) (.slice A6 g.rp.length n6) from ⟨(rows_set G7.out X7.out (.inl rfl) 2 (.slice A9 (g.c1.length + 1) n9)).h1, (row_set O7.out X7.out (by decide) 2 (.slice A9 (g.c1.length + 1) n9)), (rows_set G7.out X7.out (.inl rfl) 2 (.slice A9 (g.c1.length + 1) n9)).h3, (rows_set G7.out X7.out (.inl rfl) 2 (.slice A9 (g.c1.length + 1) n9)).h4, (rows_set G7.out X7.out (.inl rfl) 2 (.slice A9 (g.c1.length + 1) n9)).h5, (rows_set G7.out X7.out (.inl rfl) 2 (.slice A9 (g.c1.length + 1) n9)).h6⟩)
          · rw [hW]; exact set_far Q7.out NQ.out 2 (.slice A9 (g.c1.length + 1) n9)
          · rw [hW]; exact set_below B7.out NX.out 2 (.slice A9 (g.c1.length + 1) n9)
          · exact fun e => by have := congrArg G.c1 e; exact absurd (congrArg List.length this) (by simp)
        · skip
          have q0 : (which % 8 == 0) = false := beq_eq_false_iff_ne.mpr (by omega)
          have q1 : (which % 8 == 1) = false := beq_eq_false_iff_ne.mpr (by omega)
          have q2 : (which % 8 == 2) = true := beq_iff_eq.mpr em
          clear em
          have c := heldG (blk_alloc X.out (.cells #[] 60))
          obtain ⟨x0, x1, x2, x3, x4, x5, x6, x7, x8, x9, x10⟩ := c
          have O1 := Aside0.mk (GenKit.R_empty kC 60 w3.heap.size w3 (Nat.le_refl _))
          have B1 := Aside0.mk (below_al w3 (.cells #[] 60))
          have C1 := Aside0.mk (Kd.C_below (Kd.R_reads' GR.out.h4).2.2 B1.out)
          go_wp2_with (first | ((with_reducible refine gate_builtin (b := .append) (xs := #[.tmp 46, .tmp 50]) rfl ?_); at_builtin; refine Kd.R_append_rows kC (w0 := w3) w3.heap.size rfl (.tmp 46) (.tmp 50) 47 60 (.agg #[(.int .u32 0), (.int .u32 0), (.int .u64 0)]) 16 rfl Try.underlying47 Go.Proofs.Ytpanefmemabckab.GenS.info60 rfl (by decide) (by omega) (.slice (some ⟨w3.heap.size, 0, none⟩) 0 0) ([] : List S60) g.c2 _ _ _ (fun _ => True) (fun _ => False) rfl rfl ?aO ?aR (fun _ _ h => h) (fun _ h => h.elim) (fun _ _ => trivial) ?aB ?aS ?aL ?_; (case aR => exact C1.out); (case aB => exact B1.out); (case aO => exact O1.out); (case aS => exact B1.out.size); (case aL => have := GL.out.h4; simp; omega); intro v5 w5 ho hb hg hat; rw [List.nil_append] at ho; obtain ⟨A8, n8, rfl⟩ := Kd.R_slice ho; have O5 := Aside0.mk (Kd.R_alloc ho (.cells [.int .u32 1, .int .u32 0, .int .u64 0].toArray 60)); have B5 := Aside0.mk (hb.alloc hb.size (.cells [.int .u32 1, .int .u32 0, .int .u64 0].toArray 60)); have C5 := Aside0.mk (Kd.R_reads' (R_one kC 60 w5.heap.size w5 (Nat.le_refl _) (⟨1, 0, 0⟩ : S60) [.int .u32 1, .int .u32 0, .int .u64 0] (k60_mkM _ _ _ _))).2.2; clear ho hb hg hat O1 C1 x0 x1 x2 x3 x4 x5 x6 x7 x8 x9 x10) | ((with_reducible refine gate_builtin (b := .append) (xs := #[.tmp 51, .tmp 53]) rfl ?_); at_builtin; refine Kd.R_append_rows kC (w0 := w3) w3.heap.size rfl (.tmp 51) (.tmp 53) 47 60 (.agg #[(.int .u32 0), (.int .u32 0), (.int .u64 0)]) 16 rfl Try.underlying47 Go.Proofs.Ytpanefmemabckab.GenS.info60 rfl (by decide) (by omega) (.slice A8 g.c2.length n8) g.c2 [(⟨1, 0, 0⟩ : S60)] _ _ _ (fun _ => True) (fun _ => False) rfl rfl ?aO ?aR (fun _ _ h => h) (fun _ h => h.elim) (fun _ _ => trivial) ?aB ?aS ?aL ?_; (case aR => exact C5.out); (case aB => exact B5.out); (case aO => exact O5.out); (case aS => exact B5.out.size); (case aL => have := GL.out.h4; simp; omega); intro v7 w7 ho hb hg hat; obtain ⟨A9, n9, e9⟩ := Kd.R_slice ho; rw [show (g.c2 ++ [(⟨1, 0, 0⟩ : S60)]).length = g.c2.length + 1 from List.length_append] at e9; subst e9; have O7 := Aside0.mk (Kd.R_lower ho (show w.heap.size ≤ w3.heap.size from B.out.size)); have X7 := Aside0.mk (blk_kept X.out hb); have B7 := Aside0.mk (below_then B.out B.out.size hb); have Q7 := Aside0.mk (blk_kept Q.out hb); have G7 := Aside0.mk (GR.out.below hb); have r7 := blk_frozen X7.out 5; obtain ⟨x0, x1, x2, x3, x4, x5, x6, x7, x8, x9, x10⟩ := heldG X7.out; clear ho hb hg hat))
          go_meet
          obtain ⟨w4, hW⟩ : ∃ W, W = w7.setCell ⟨x, 5, none⟩ (.slice A9 (g.c2.length + 1) n9) := ⟨_, rfl⟩
          rw [show w7.setCell ⟨x, 5, none⟩ (.slice A9 (g.c2.length + 1) n9) = w4 from hW.symm]
          refine ⟨(⟨g.k1, g.v1, g.c1, g.k2, g.v2, g.c2 ++ [(⟨1, 0, 0⟩ : S60)], g.rq, g.rp, g.ls, g.su, g.wi⟩ : G), (.slice A1 g.v1.length n1), (.slice A2 g.c1.length n2), (.slice A3 g.v2.length n3), (.slice A9 (g.c2.length + 1) n9), (.slice A5 g.rq.length n5), (.slice A6 g.rp.length n6), ⟨?_⟩, ⟨?_⟩, ⟨?_⟩, ⟨?_⟩, ⟨⟨GB.out.1, GB.out.2⟩, ⟨Nat.le_trans GL.out.h1 (by decide), Nat.le_trans GL.out.h2 (by decide), Nat.le_trans GL.out.h3 (by decide), (by have := GL.out.h4; simp; omega), GL.out.h5, GL.out.h6⟩, ?_⟩⟩
          · rw [hW]; exact blk_set X7.out 5 (.slice A9 (g.c2.length + 1) n9)
          · rw [hW]; exact (show GenR _ w.heap.size (⟨g.k1, g.v1, g.c1, g.k2, g.v2, g.c2 ++ [(⟨1, 0, 0⟩ : S60)], g.rq, g.rp, g.ls, g.su, g.wi⟩ : G) (.slice A1 g.v1.length n1) (.slice A2 g.c1.length n2) (.slice A3 g.v2.length n3) (.slice A9 (g.c2.length + 1) n9) (.slice A5 g.rq.length n5) (.slice A6 g.rp.length n6) from ⟨(rows_set G7.out X7.out (.inl rfl) 5 (.slice A9 (g.c2.length + 1) n9)).h1, (rows_set G7.out X7.out (.inl rfl) 5 (.slice A9 (g.c2.length + 1) n9)).h2, (rows_set G7.out X7.out (.inl rfl) 5 (.slice A9 (g.c2.length + 1) n9)).h3, (row_set O7.out X7.out (by decide) 5 (.slice A9 (g.c2.length + 1) n9)), (rows_set G7.out X7.out (.inl rfl) 5 (.slice A9 (g.c2.length + 1) n9)).h5, (rows_set G7.out X7.out (.inl rfl) 5 (.slice A9 (g.c2.length + 1) n9)).h6⟩)
          · rw [hW]; exact set_far Q7.out NQ.out 5 (.slice A9 (g.c2.length + 1) n9)
          · rw [hW]; exact set_below B7.out NX.out 5 (.slice A9 (g.c2.length + 1) n9)
          · exact fun e => by have := congrArg G.c2 e; exact absurd (congrArg List.length this) (by simp)
      · skip
        have q0 : (which % 8 == 0) = false := beq_eq_false_iff_ne.mpr (by omega)
        have q1 : (which % 8 == 1) = false := beq_eq_false_iff_ne.mpr (by omega)
        have q2 : (which % 8 == 2) = false := beq_eq_false_iff_ne.mpr (by omega)
        have q3 : (which % 8 == 3) = true := beq_iff_eq.mpr em
        clear em
        have c := heldG (blk_alloc X.out (.cells #[] 5))
        obtain ⟨x0, x1, x2, x3, x4, x5, x6, x7, x8, x9, x10⟩ := c
        have O1 := Aside0.mk (GenKit.R_empty kB 5 w3.heap.size w3 (Nat.le_refl _))
        have B1 := Aside0.mk (below_al w3 (.cells #[] 5))
        have C1 := Aside0.mk (Kd.C_below (Kd.R_reads' GR.out.h5).2.2 B1.out)
        go_wp2_with (first | ((with_reducible refine gate_builtin (b := .append) (xs := #[.tmp 59, .tmp 61]) rfl ?_); at_builtin; refine Kd.R_append_rows kB (w0 := w3) w3.heap.size rfl (.tmp 59) (.tmp 61) 24 5 (.int .u8 0) 1 rfl Try.underlying24 Go.Proofs.Ytpanefmemabckab.NumA.info5 rfl (by decide) (by omega) (.slice (some ⟨w3.heap.size, 0, none⟩) 0 0) ([] : List Int) g.rq _ _ _ (fun _ => True) (fun _ => False) rfl rfl ?aO ?aR (fun _ _ h => h) (fun _ h => h.elim) (fun _ _ => trivial) ?aB ?aS ?aL ?_; (case aR => exact C1.out); (case aB => exact B1.out); (case aO => exact O1.out); (case aS => exact B1.out.size); (case aL => have := L5.out; simp; omega); intro v5 w5 ho hb hg hat; rw [List.nil_append] at ho; obtain ⟨A8, n8, rfl⟩ := Kd.R_slice ho; have O5 := Aside0.mk (Kd.R_alloc ho (.cells [.int .u8 1].toArray 5)); have B5 := Aside0.mk (hb.alloc hb.size (.cells [.int .u8 1].toArray 5)); have C5 := Aside0.mk (Kd.R_reads' (R_one kB 5 w5.heap.size w5 (Nat.le_refl _) (1 : Int) [.int .u8 1] (rfl))).2.2; clear ho hb hg hat O1 C1 x0 x1 x2 x3 x4 x5 x6 x7 x8 x9 x10) | ((with_reducible refine gate_builtin (b := .append) (xs := #[.tmp 62, .tmp 63]) rfl ?_); at_builtin; refine Kd.R_append_rows kB (w0 := w3) w3.heap.size rfl (.tmp 62) (.tmp 63) 24 5 (.int .u8 0) 1 rfl Try.underlying24 Go.Proofs.Ytpanefmemabckab.NumA.info5 rfl (by decide) (by omega) (.slice A8 g.rq.length n8) g.rq [(1 : Int)] _ _ _ (fun _ => True) (fun _ => False) rfl rfl ?aO ?aR (fun _ _ h => h) (fun _ h => h.elim) (fun _ _ => trivial) ?aB ?aS ?aL ?_; (case aR => exact C5.out); (case aB => exact B5.out); (case aO => exact O5.out); (case aS => exact B5.out.size); (case aL => have := L5.out; simp; omega); intro v7 w7 ho hb hg hat; obtain ⟨A9, n9, e9⟩ := Kd.R_slice ho; rw [show (g.rq ++ [(1 : Int)]).length = g.rq.length + 1 from List.length_append] at e9; subst e9; have O7 := Aside0.mk (Kd.R_lower ho (show w.heap.size ≤ w3.heap.size from B.out.size)); have X7 := Aside0.mk (blk_kept X.out hb); have B7 := Aside0.mk (below_then B.out B.out.size hb); have Q7 := Aside0.mk (blk_kept Q.out hb); have G7 := Aside0.mk (GR.out.below hb); have r7 := blk_frozen X7.out 6; obtain ⟨x0, x1, x2, x3, x4, x5, x6, x7, x8, x9, x10⟩ := heldG X7.out; clear ho hb hg hat))
        go_meet
        obtain ⟨w4, hW⟩ : ∃ W, W = w7.setCell ⟨x, 6, none⟩ (.slice A9 (g.rq.length + 1) n9) := ⟨_, rfl⟩
        rw [show w7.setCell ⟨x, 6, none⟩ (.slice A9 (g.rq.length + 1) n9) = w4 from hW.symm]
        refine ⟨(⟨g.k1, g.v1, g.c1, g.k2, g.v2, g.c2, g.rq ++ [(1 : Int)], g.rp, g.ls, g.su, g.wi⟩ : G), (.slice A1 g.v1.length n1), (.slice A2 g.c1.length n2), (.slice A3 g.v2.length n3), (.slice A4 g.c2.length n4), (.slice A9 (g.rq.length + 1) n9), (.slice A6 g.rp.length n6), ⟨?_⟩, ⟨?_⟩, ⟨?_⟩, ⟨?_⟩, ⟨⟨(fun y hy => (List.mem_append.1 hy).elim (GB.out.1 y) (fun h => by rw [List.mem_singleton.1 h]; decide)), GB.out.2⟩, ⟨Nat.le_trans GL.out.h1 (by decide), Nat.le_trans GL.out.h2 (by decide), Nat.le_trans GL.out.h3 (by decide), Nat.le_trans GL.out.h4 (by decide), (by have := L5.out; simp; omega), GL.out.h6⟩, ?_⟩⟩
        · rw [hW]; exact blk_set X7.out 6 (.slice A9 (g.rq.length + 1) n9)
        · rw [hW]; exact (show GenR _ w.heap.size (⟨g.k1, g.v1, g.c1, g.k2, g.v2, g.c2, g.rq ++ [(1 : Int)], g.rp, g.ls, g.su, g.wi⟩ : G) (.slice A1 g.v1.length n1) (.slice A2 g.c1.length n2) (.slice A3 g.v2.length n3) (.slice A4 g.c2.length n4) (.slice A9 (g.rq.length + 1) n9) (.slice A6 g.rp.length n6) from ⟨(rows_set G7.out X7.out (.inl rfl) 6 (.slice A9 (g.rq.length + 1) n9)).h1, (rows_set G7.out X7.out (.inl rfl) 6 (.slice A9 (g.rq.length + 1) n9)).h2, (rows_set G7.out X7.out (.inl rfl) 6 (.slice A9 (g.rq.length + 1) n9)).h3, (rows_set G7.out X7.out (.inl rfl) 6 (.slice A9 (g.rq.length + 1) n9)).h4, (row_set O7.out X7.out (by decide) 6 (.slice A9 (g.rq.length + 1) n9)), (rows_set G7.out X7.out (.inl rfl) 6 (.slice A9 (g.rq.length + 1) n9)).h6⟩)
        · rw [hW]; exact set_far Q7.out NQ.out 6 (.slice A9 (g.rq.length + 1) n9)
        · rw [hW]; exact set_below B7.out NX.out 6 (.slice A9 (g.rq.length + 1) n9)
        · exact fun e => by have := congrArg G.rq e; exact absurd (congrArg List.length this) (by simp)
      · skip
        have q0 : (which % 8 == 0) = false := beq_eq_false_iff_ne.mpr (by omega)
        have q1 : (which % 8 == 1) = false := beq_eq_false_iff_ne.mpr (by omega)
        have q2 : (which % 8 == 2) = false := beq_eq_false_iff_ne.mpr (by omega)
        have q3 : (which % 8 == 3) = false := beq_eq_false_iff_ne.mpr (by omega)
        have q4 : (which % 8 == 4) = true := beq_iff_eq.mpr em
        clear em
        have c := heldG (blk_alloc X.out (.cells #[] 5))
        obtain ⟨x0, x1, x2, x3, x4, x5, x6, x7, x8, x9, x10⟩ := c
        have O1 := Aside0.mk (GenKit.R_empty kB 5 w3.heap.size w3 (Nat.le_refl _))
        have B1 := Aside0.mk (below_al w3 (.cells #[] 5))
        have C1 := Aside0.mk (Kd.C_below (Kd.R_reads' GR.out.h6).2.2 B1.out)
        go_wp2_with (first | ((with_reducible refine gate_builtin (b := .append) (xs := #[.tmp 68, .tmp 70]) rfl ?_); at_builtin; refine Kd.R_append_rows kB (w0 := w3) w3.heap.size rfl (.tmp 68) (.tmp 70) 24 5 (.int .u8 0) 1 rfl Try.underlying24 Go.Proofs.Ytpanefmemabckab.NumA.info5 rfl (by decide) (by omega) (.slice (some ⟨w3.heap.size, 0, none⟩) 0 0) ([] : List Int) g.rp _ _ _ (fun _ => True) (fun _ => False) rfl rfl ?aO ?aR (fun _ _ h => h) (fun _ h => h.elim) (fun _ _ => trivial) ?aB ?aS ?aL ?_; (case aR => exact C1.out); (case aB => exact B1.out); (case aO => exact O1.out); (case aS => exact B1.out.size); (case aL => have := L6.out; simp; omega); intro v5 w5 ho hb hg hat; rw [List.nil_append] at ho; obtain ⟨A8, n8, rfl⟩ := Kd.R_slice ho; have O5 := Aside0.mk (Kd.R_alloc ho (.cells [.int .u8 1].toArray 5)); have B5 := Aside0.mk (hb.alloc hb.size (.cells [.int .u8 1].toArray 5)); have C5 := Aside0.mk (Kd.R_reads' (R_one kB 5 w5.heap.size w5 (Nat.le_refl _) (1 : Int) [.int .u8 1] (rfl))).2.2; clear ho hb hg hat O1 C1 x0 x1 x2 x3 x4 x5 x6 x7 x8 x9 x10) | ((with_reducible refine gate_builtin (b := .append) (xs := #[.tmp 71, .tmp 72]) rfl ?_); at_builtin; refine Kd.R_append_rows kB (w0 := w3) w3.heap.size rfl (.tmp 71) (.tmp 72) 24 5 (.int .u8 0) 1 rfl Try.underlying24 Go.Proofs.Ytpanefmemabckab.NumA.info5 rfl (by decide) (by omega) (.slice A8 g.rp.length n8) g.rp [(1 : Int)] _ _ _ (fun _ => True) (fun _ => False) rfl rfl ?aO ?aR (fun _ _ h => h) (fun _ h => h.elim) (fun _ _ => trivial) ?aB ?aS ?aL ?_; (case aR => exact C5.out); (case aB => exact B5.out); (case aO => exact O5.out); (case aS => exact B5.out.size); (case aL => have := L6.out; simp; omega); intro v7 w7 ho hb hg hat; obtain ⟨A9, n9, e9⟩ := Kd.R_slice ho; rw [show (g.rp ++ [(1 : Int)]).length = g.rp.length + 1 from List.length_append] at e9; subst e9; have O7 := Aside0.mk (Kd.R_lower ho (show w.heap.size ≤ w3.heap.size from B.out.size)); have X7 := Aside0.mk (blk_kept X.out hb); have B7 := Aside0.mk (below_then B.out B.out.size hb); have Q7 := Aside0.mk (blk_kept Q.out hb); have G7 := Aside0.mk (GR.out.below hb); have r7 := blk_frozen X7.out 7; obtain ⟨x0, x1, x2, x3, x4, x5, x6, x7, x8, x9, x10⟩ := heldG X7.out; clear ho hb hg hat))
        go_meet
        obtain ⟨w4, hW⟩ : ∃ W, W = w7.setCell ⟨x, 7, none⟩ (.slice A9 (g.rp.length + 1) n9) := ⟨_, rfl⟩
        rw [show w7.setCell ⟨x, 7, none⟩ (.slice A9 (g.rp.length + 1) n9) = w4 from hW.symm]
        refine ⟨(⟨g.k1, g.v1, g.c1, g.k2, g.v2, g.c2, g.rq, g.rp ++ [(1 : Int)], g.ls, g.su, g.wi⟩ : G), (.slice A1 g.v1.length n1), (.slice A2 g.c1.length n2), (.slice A3 g.v2.length n3), (.slice A4 g.c2.length n4), (.slice A5 g.rq.length n5), (.slice A9 (g.rp.length + 1) n9), ⟨?_⟩, ⟨?_⟩, ⟨?_⟩, ⟨?_⟩, ⟨⟨GB.out.1, (fun y hy => (List.mem_append.1 hy).elim (GB.out.2 y) (fun h => by rw [List.mem_singleton.1 h]; decide))⟩, ⟨Nat.le_trans GL.out.h1 (by decide), Nat.le_trans GL.out.h2 (by decide), Nat.le_trans GL.out.h3 (by decide), Nat.le_trans GL.out.h4 (by decide), GL.out.h5, (by have := L6.out; simp; omega)⟩, ?_⟩⟩
        · rw [hW]; exact blk_set X7.out 7 (.slice A9 (g.rp.length + 1) n9)
        · rw [hW]; exact (show GenR _ w.heap.size (⟨g.k1, g.v1, g.c1, g.k2, g.v2, g.c2, g.rq, g.rp ++ [(1 : Int)], g.ls, g.su, g.wi⟩ : G) (.slice A1 g.v1.length n1) (.slice A2 g.c1.length n2) (.slice A3 g.v2.length n3) (.slice A4 g.c2.length n4) (.slice A5 g.rq.length n5) (.slice A9 (g.rp.length + 1) n9) from ⟨(rows_set G7.out X7.out (.inl rfl) 7 (.slice A9 (g.rp.length + 1) n9)).h1, (rows_set G7.out X7.out (.inl rfl) 7 (.slice A9 (g.rp.length + 1) n9)).h2, (rows_set G7.out X7.out (.inl rfl) 7 (.slice A9 (g.rp.length + 1) n9)).h3, (rows_set G7.out X7.out (.inl rfl) 7 (.slice A9 (g.rp.length + 1) n9)).h4, (rows_set G7.out X7.out (.inl rfl) 7 (.slice A9 (g.rp.length + 1) n9)).h5, (row_set O7.out X7.out (by decide) 7 (.slice A9 (g.rp.length + 1) n9))⟩)
        · rw [hW]; exact set_far Q7.out NQ.out 7 (.slice A9 (g.rp.length + 1) n9)
        · rw [hW]; exact set_below B7.out NX.out 7 (.slice A9 (g.rp.length + 1) n9)
        · exact fun e => by have := congrArg G.rp e; exact absurd (congrArg List.length this) (by simp)
      · skip
        have r0 := blk_frozen X.out 8
        have q0 : (which % 8 == 0) = false := beq_eq_false_iff_ne.mpr (by omega)
        have q1 : (which % 8 == 1) = false := beq_eq_false_iff_ne.mpr (by omega)
        have q2 : (which % 8 == 2) = false := beq_eq_false_iff_ne.mpr (by omega)
        have q3 : (which % 8 == 3) = false := beq_eq_false_iff_ne.mpr (by omega)
        have q4 : (which % 8 == 4) = false := beq_eq_false_iff_ne.mpr (by omega)
        have q5 : (which % 8 == 5) = true := beq_iff_eq.mpr em
        clear em
        go_wp2_with fail
        go_meet
        obtain ⟨w4, hW⟩ : ∃ W, W = w3.setCell ⟨x, 8, none⟩ (.bool (!g.ls)) := ⟨_, rfl⟩
        rw [show w3.setCell ⟨x, 8, none⟩ (.bool (!g.ls)) = w4 from hW.symm]
        refine ⟨(⟨g.k1, g.v1, g.c1, g.k2, g.v2, g.c2, g.rq, g.rp, !g.ls, g.su, g.wi⟩ : G), (.slice A1 g.v1.length n1), (.slice A2 g.c1.length n2), (.slice A3 g.v2.length n3), (.slice A4 g.c2.length n4), (.slice A5 g.rq.length n5), (.slice A6 g.rp.length n6), ⟨?_⟩, ⟨?_⟩, ⟨?_⟩, ⟨?_⟩, ⟨⟨GB.out.1, GB.out.2⟩, ⟨Nat.le_trans GL.out.h1 (by decide), Nat.le_trans GL.out.h2 (by decide), Nat.le_trans GL.out.h3 (by decide), Nat.le_trans GL.out.h4 (by decide), GL.out.h5, GL.out.h6⟩, ?_⟩⟩
        · rw [hW]; exact blk_set X.out 8 (.bool (!g.ls))
        · rw [hW]; exact (show GenR _ w.heap.size (⟨g.k1, g.v1, g.c1, g.k2, g.v2, g.c2, g.rq, g.rp, !g.ls, g.su, g.wi⟩ : G) (.slice A1 g.v1.length n1) (.slice A2 g.c1.length n2) (.slice A3 g.v2.length n3) (.slice A4 g.c2.length n4) (.slice A5 g.rq.length n5) (.slice A6 g.rp.length n6) from ⟨(rows_set GR.out X.out (.inl rfl) 8 (.bool (!g.ls))).h1, (rows_set GR.out X.out (.inl rfl) 8 (.bool (!g.ls))).h2, (rows_set GR.out X.out (.inl rfl) 8 (.bool (!g.ls))).h3, (rows_set GR.out X.out (.inl rfl) 8 (.bool (!g.ls))).h4, (rows_set GR.out X.out (.inl rfl) 8 (.bool (!g.ls))).h5, (rows_set GR.out X.out (.inl rfl) 8 (.bool (!g.ls))).h6⟩)
        · rw [hW]; exact set_far Q.out NQ.out 8 (.bool (!g.ls))
        · rw [hW]; exact set_below B.out NX.out 8 (.bool (!g.ls))
        · exact fun e => by have := congrArg G.ls e; simp at this
      · skip
        have r0 := blk_frozen X.out 9
        have q0 : (which % 8 == 0) = false := beq_eq_false_iff_ne.mpr (by omega)
        have q1 : (which % 8 == 1) = false := beq_eq_false_iff_ne.mpr (by omega)
        have q2 : (which % 8 == 2) = false := beq_eq_false_iff_ne.mpr (by omega)
        have q3 : (which % 8 == 3) = false := beq_eq_false_iff_ne.mpr (by omega)
        have q4 : (which % 8 == 4) = false := beq_eq_false_iff_ne.mpr (by omega)
        have q5 : (which % 8 == 5) = false := beq_eq_false_iff_ne.mpr (by omega)
        have q6 : (which % 8 == 6) = true := beq_iff_eq.mpr em
        clear em
        go_wp2_with fail
        go_meet
        obtain ⟨w4, hW⟩ : ∃ W, W = w3.setCell ⟨x, 9, none⟩ (.int .u8 ((g.su + 1) % 256)) := ⟨_, rfl⟩
        rw [show w3.setCell ⟨x, 9, none⟩ (.int .u8 ((g.su + 1) % 256)) = w4 from hW.symm]
        refine ⟨(⟨g.k1, g.v1, g.c1, g.k2, g.v2, g.c2, g.rq, g.rp, g.ls, (g.su + 1) % 256, g.wi⟩ : G), (.slice A1 g.v1.length n1), (.slice A2 g.c1.length n2), (.slice A3 g.v2.length n3), (.slice A4 g.c2.length n4), (.slice A5 g.rq.length n5), (.slice A6 g.rp.length n6), ⟨?_⟩, ⟨?_⟩, ⟨?_⟩, ⟨?_⟩, ⟨⟨GB.out.1, GB.out.2⟩, ⟨Nat.le_trans GL.out.h1 (by decide), Nat.le_trans GL.out.h2 (by decide), Nat.le_trans GL.out.h3 (by decide), Nat.le_trans GL.out.h4 (by decide), GL.out.h5, GL.out.h6⟩, ?_⟩⟩
        · rw [hW]; exact blk_set X.out 9 (.int .u8 ((g.su + 1) % 256))
        · rw [hW]; exact (show GenR _ w.heap.size (⟨g.k1, g.v1, g.c1, g.k2, g.v2, g.c2, g.rq, g.rp, g.ls, (g.su + 1) % 256, g.wi⟩ : G) (.slice A1 g.v1.length n1) (.slice A2 g.c1.length n2) (.slice A3 g.v2.length n3) (.slice A4 g.c2.length n4) (.slice A5 g.rq.length n5) (.slice A6 g.rp.length n6) from ⟨(rows_set GR.out X.out (.inl rfl) 9 (.int .u8 ((g.su + 1) % 256))).h1, (rows_set GR.out X.out (.inl rfl) 9 (.int .u8 ((g.su + 1) % 256))).h2, (rows_set GR.out X.out (.inl rfl) 9 (.int .u8 ((g.su + 1) % 256))).h3, (rows_set GR.out X.out (.inl rfl) 9 (.int .u8 ((g.su + 1) % 256))).h4, (rows_set GR.out X.out (.inl rfl) 9 (.int .u8 ((g.su + 1) % 256))).h5, (rows_set GR.out X.out (.inl rfl) 9 (.int .u8 ((g.su + 1) % 256))).h6⟩)
        · rw [hW]; exact set_far Q.out NQ.out 9 (.int .u8 ((g.su + 1) % 256))
        · rw [hW]; exact set_below B.out NX.out 9 (.int .u8 ((g.su + 1) % 256))
        · exact fun e => by have := congrArg G.su e; simp only at this; omega
      · skip
        have r0 := blk_frozen X.out 10
        have q0 : (which % 8 == 0) = false := beq_eq_false_iff_ne.mpr (by omega)
        have q1 : (which % 8 == 1) = false := beq_eq_false_iff_ne.mpr (by omega)
        have q2 : (which % 8 == 2) = false := beq_eq_false_iff_ne.mpr (by omega)
        have q3 : (which % 8 == 3) = false := beq_eq_false_iff_ne.mpr (by omega)
        have q4 : (which % 8 == 4) = false := beq_eq_false_iff_ne.mpr (by omega)
        have q5 : (which % 8 == 5) = false := beq_eq_false_iff_ne.mpr (by omega)
        have q6 : (which % 8 == 6) = false := beq_eq_false_iff_ne.mpr (by omega)
        clear em
        go_wp2_with fail
        go_meet
        obtain ⟨w4, hW⟩ : ∃ W, W = w3.setCell ⟨x, 10, none⟩ (.int .u8 ((g.wi + 1) % 256)) := ⟨_, rfl⟩
        rw [show w3.setCell ⟨x, 10, none⟩ (.int .u8 ((g.wi + 1) % 256)) = w4 from hW.symm]
        refine ⟨(⟨g.k1, g.v1, g.c1, g.k2, g.v2, g.c2, g.rq, g.rp, g.ls, g.su, (g.wi + 1) % 256⟩ : G), (.slice A1 g.v1.length n1), (.slice A2 g.c1.length n2), (.slice A3 g.v2.length n3), (.slice A4 g.c2.length n4), (.slice A5 g.rq.length n5), (.slice A6 g.rp.length n6), ⟨?_⟩, ⟨?_⟩, ⟨?_⟩, ⟨?_⟩, ⟨⟨GB.out.1, GB.out.2⟩, ⟨Nat.le_trans GL.out.h1 (by decide), Nat.le_trans GL.out.h2 (by decide), Nat.le_trans GL.out.h3 (by decide), Nat.le_trans GL.out.h4 (by decide), GL.out.h5, GL.out.h6⟩, ?_⟩⟩
        · rw [hW]; exact blk_set X.out 10 (.int .u8 ((g.wi + 1) % 256))
        · rw [hW]; exact (show GenR _ w.heap.size (⟨g.k1, g.v1, g.c1, g.k2, g.v2, g.c2, g.rq, g.rp, g.ls, g.su, (g.wi + 1) % 256⟩ : G) (.slice A1 g.v1.length n1) (.slice A2 g.c1.length n2) (.slice A3 g.v2.length n3) (.slice A4 g.c2.length n4) (.slice A5 g.rq.length n5) (.slice A6 g.rp.length n6) from ⟨(rows_set GR.out X.out (.inl rfl) 10 (.int .u8 ((g.wi + 1) % 256))).h1, (rows_set GR.out X.out (.inl rfl) 10 (.int .u8 ((g.wi + 1) % 256))).h2, (rows_set GR.out X.out (.inl rfl) 10 (.int .u8 ((g.wi + 1) % 256))).h3, (rows_set GR.out X.out (.inl rfl) 10 (.int .u8 ((g.wi + 1) % 256))).h4, (rows_set GR.out X.out (.inl rfl) 10 (.int .u8 ((g.wi + 1) % 256))).h5, (rows_set GR.out X.out (.inl rfl) 10 (.int .u8 ((g.wi + 1) % 256))).h6⟩)
        · rw [hW]; exact set_far Q.out NQ.out 10 (.int .u8 ((g.wi + 1) % 256))
        · rw [hW]; exact set_below B.out NX.out 10 (.int .u8 ((g.wi + 1) % 256))
        · exact fun e => by have := congrArg G.wi e; simp only at this; omega
    case rest =>
      obtain ⟨h, t1, t2, t3, t4, t5, t6, X9, G9, Q9, B9, H9⟩ := hcut
      clear X GR Q B c0 c1 c2 c3 c4 c5 c6 c7 c8 c9 c10
      obtain ⟨D1, m1, rfl⟩ := Kd.R_slice G9.out.h1
      obtain ⟨D2, m2, rfl⟩ := Kd.R_slice G9.out.h2
      obtain ⟨D3, m3, rfl⟩ := Kd.R_slice G9.out.h3
      obtain ⟨D4, m4, rfl⟩ := Kd.R_slice G9.out.h4
      obtain ⟨D5, m5, rfl⟩ := Kd.R_slice G9.out.h5
      obtain ⟨D6, m6, rfl⟩ := Kd.R_slice G9.out.h6
      obtain ⟨x0, x1, x2, x3, x4, x5, x6, x7, x8, x9, x10⟩ := heldG X9.out
      obtain ⟨z0, z1, z2, z3, z4, z5, z6, z7, z8, z9, z10⟩ := heldZ Q9.out
      have f0 := blk_frozen Q9.out 0
      have f1 := blk_frozen Q9.out 1
      have f2 := blk_frozen Q9.out 2
      have f3 := blk_frozen Q9.out 3
      have f4 := blk_frozen Q9.out 4
      have f5 := blk_frozen Q9.out 5
      have f6 := blk_frozen Q9.out 6
      have f7 := blk_frozen Q9.out 7
      have f8 := blk_frozen Q9.out 8
      have f9 := blk_frozen Q9.out 9
      have f10 := blk_frozen Q9.out 10
      go_wp2_with fail
      have BQ := Aside0.mk (put11_below B9.out (r := (p + 1)) (by have := EP.out; omega) (.int .u32 h.k1) (.slice D1 h.v1.length m1) (.slice D2 h.c1.length m2) (.int .u32 h.k2) (.slice D3 h.v2.length m3) (.slice D4 h.c2.length m4) (.slice D5 h.rq.length m5) (.slice D6 h.rp.length m6) (.bool h.ls) (.int .u8 h.su) (.int .u8 h.wi))
      have GQ := Aside0.mk (put11_rows G9.out Q9.out (.int .u32 h.k1) (.slice D1 h.v1.length m1) (.slice D2 h.c1.length m2) (.int .u32 h.k2) (.slice D3 h.v2.length m3) (.slice D4 h.c2.length m4) (.slice D5 h.rq.length m5) (.slice D6 h.rp.length m6) (.bool h.ls) (.int .u8 h.su) (.int .u8 h.wi))
      have DQ := put11_self (g := ⟨0, [], [], 0, [], [], [], [], false, 0, 0⟩) (g' := h) Q9.out (.slice D1 h.v1.length m1) (.slice D2 h.c1.length m2) (.slice D3 h.v2.length m3) (.slice D4 h.c2.length m4) (.slice D5 h.rq.length m5) (.slice D6 h.rp.length m6)
      obtain ⟨W9, hW9⟩ : ∃ W9, W9 = put11 wc (p + 1) (.int .u32 h.k1) (.slice D1 h.v1.length m1) (.slice D2 h.c1.length m2) (.int .u32 h.k2) (.slice D3 h.v2.length m3) (.slice D4 h.c2.length m4) (.slice D5 h.rq.length m5) (.slice D6 h.rp.length m6) (.bool h.ls) (.int .u8 h.su) (.int .u8 h.wi) := ⟨_, rfl⟩
      change bodyPost _ _ _ _ _ (put11 wc (p + 1) (.int .u32 h.k1) (.slice D1 h.v1.length m1) (.slice D2 h.c1.length m2) (.int .u32 h.k2) (.slice D3 h.v2.length m3) (.slice D4 h.c2.length m4) (.slice D5 h.rq.length m5) (.slice D6 h.rp.length m6) (.bool h.ls) (.int .u8 h.su) (.int .u8 h.wi))
      rw [← hW9] at BQ GQ DQ ⊢
      clear hW9 f0 z0 f1 z1 f2 z2 f3 z3 f4 z4 f5 z5 f6 z6 f7 z7 f8 z8 f9 z9 f10 z10
      obtain ⟨c0, c1, c2, c3, c4, c5, c6, c7, c8, c9, c10⟩ := heldG DQ
      exact bodyPost_ret (v := genV h (.slice D1 h.v1.length m1) (.slice D2 h.c1.length m2) (.slice D3 h.v2.length m3) (.slice D4 h.c2.length m4) (.slice D5 h.rq.length m5) (.slice D6 h.rp.length m6)) (by simp [results, Try.results37, go_sem, c0, c1, c2, c3, c4, c5, c6, c7, c8, c9, c10]) rfl ⟨_, _, _, _, _, _, _, rfl, GenC.of GQ.out, H9.out.1, H9.out.2.1, H9.out.2.2, BQ.out⟩
end Go.Proofs.Ytpanefmemabckab.GenChanged
