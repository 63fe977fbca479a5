/- The document's examples of keys hold: cardexlaw22.lives returns true, in any world. -/
import Derived.Test.YtpanefmemabckabGenRep
import Derived.Test.YtpanefmemabckabGenNext
namespace Go.Proofs.Ytpanefmemabckab.GenLives
open Go.RowKit Go.Proofs.Ytpanefmemabckab.NumA Go.Proofs.Ytpanefmemabckab.GenS Go.Proofs.Ytpanefmemabckab.GenRep Go.Proofs.Ytpanefmemabckab.GenBlk Go.Proofs.Ytpanefmemabckab.GenPure Go.Proofs.Ytpanefmemabckab.GenCalls Go.Proofs.YtpanefmemabckabW.PrintWords Go.Proofs.YtpanefmemabckabW.PrintLast
open Go.Proofs.Ytpanefmemabckab.GenZero (heap_new blk_kept)
open Go.Proofs.Ytpanefmemabckab.Wide (C_block)
set_option linter.unusedSimpArgs false

theorem five_l : GenL G5 400000 := ⟨by decide, by decide, by decide, by decide, by decide, by decide⟩
theorem five_b : GenB G5 := ⟨fun x hx => by rw [List.mem_singleton.1 hx]; decide, fun x hx => by cases hx⟩
/-- Next, of what the document tells of -/
theorem next2 {w : World} {s1 s2 s3 s4 s5 s6 : Value} (hg : GenC w G5 s1 s2 s3 s4 s5 s6) : Calls Try.prog 29 #[genV G5 s1 s2 s3 s4 s5 s6, .int .u8 2, .int .u32 9, .slice none 0 0, .slice none 0 0, .slice none 0 0, .slice none 0 0] w fun e w' =>
    ∃ A1 n1 A2 n2 A3 n3 A4 n4 A5 n5 A6 n6, e = .returned (.agg #[.int .u32 9, .slice A1 0 n1, .slice A2 0 n2, .int .u32 7, .slice A3 0 n3, .slice A4 0 n4, .slice A5 0 n5, .slice A6 0 n6, .bool false, .int .u8 0, .int .u8 0]) ∧ Below w.heap.size w w' := by
  refine (GenNext.next_calls G5 s1 s2 s3 s4 s5 s6 2 9 _ _ _ _ [] [] [] [] w hg five_l (RowC.nil _ _) (RowC.nil _ _) (RowC.nil _ _) (RowC.nil _ _) (by decide) (by decide) (by decide) (by decide)).mono ?_
  rintro e w' ⟨t1, t2, t3, t4, t5, t6, rfl, ⟨h1, h2, h3, h4, h5, h6⟩, hb⟩
  obtain ⟨A1, n1, rfl⟩ := Kd.R_slice h1
  obtain ⟨A2, n2, rfl⟩ := Kd.R_slice h2
  obtain ⟨A3, n3, rfl⟩ := Kd.R_slice h3
  obtain ⟨A4, n4, rfl⟩ := Kd.R_slice h4
  obtain ⟨A5, n5, rfl⟩ := Kd.R_slice h5
  obtain ⟨A6, n6, rfl⟩ := Kd.R_slice h6
  exact ⟨A1, n1, A2, n2, A3, n3, A4, n4, A5, n5, A6, n6, rfl, hb⟩
theorem next4 {w : World} {s1 s2 s3 s4 s5 s6 : Value} (hg : GenC w G5 s1 s2 s3 s4 s5 s6) : Calls Try.prog 29 #[genV G5 s1 s2 s3 s4 s5 s6, .int .u8 4, .int .u32 9, .slice none 0 0, .slice none 0 0, .slice none 0 0, .slice none 0 0] w fun e w' =>
    ∃ A1 n1 A2 n2 A3 n3 A4 n4 A5 n5 A6 n6, e = .returned (.agg #[.int .u32 9, .slice A1 0 n1, .slice A2 0 n2, .int .u32 5, .slice A3 0 n3, .slice A4 0 n4, .slice A5 0 n5, .slice A6 0 n6, .bool false, .int .u8 0, .int .u8 0]) ∧ Below w.heap.size w w' := by
  refine (GenNext.next_calls G5 s1 s2 s3 s4 s5 s6 4 9 _ _ _ _ [] [] [] [] w hg five_l (RowC.nil _ _) (RowC.nil _ _) (RowC.nil _ _) (RowC.nil _ _) (by decide) (by decide) (by decide) (by decide)).mono ?_
  rintro e w' ⟨t1, t2, t3, t4, t5, t6, rfl, ⟨h1, h2, h3, h4, h5, h6⟩, hb⟩
  obtain ⟨A1, n1, rfl⟩ := Kd.R_slice h1
  obtain ⟨A2, n2, rfl⟩ := Kd.R_slice h2
  obtain ⟨A3, n3, rfl⟩ := Kd.R_slice h3
  obtain ⟨A4, n4, rfl⟩ := Kd.R_slice h4
  obtain ⟨A5, n5, rfl⟩ := Kd.R_slice h5
  obtain ⟨A6, n6, rfl⟩ := Kd.R_slice h6
  exact ⟨A1, n1, A2, n2, A3, n3, A4, n4, A5, n5, A6, n6, rfl, hb⟩
/-- a byte's row, just made -/
theorem one_byte (w : World) (c : Nat) : RowC kB (w.alloc (.cells #[.int .u8 (c : Int)] 5)) (.slice (some ⟨w.heap.size, 0, none⟩) 1 1) [(c : Int)] :=
  ⟨_, 1, rfl, Nat.le_refl _, C_block (W := w.alloc (.cells #[.int .u8 (c : Int)] 5)) (b := w.heap.size) (m := [c]) (fr := (0, 0)) (heap_new w _) [c] (by show 1 ≤ _; decide) rfl⟩
set_option maxRecDepth 100000 in
set_option maxHeartbeats 4000000 in
theorem lives_calls (w : World) : Calls Try.prog 27 #[] w fun e w' => e = .returned (.bool true) ∧ Below w.heap.size w w' := by
  go_enter Try.func27, Try.ntmps27
  go_wp2_with fail
  refine (five_calls _).mono ?_
  rintro e w1 ⟨s1, s2, s3, s4, s5, s6, rfl, hg1, hb1⟩
  have G1 := Aside0.mk hg1
  have B1 := Aside0.mk hb1
  clear hg1 hb1
  go_wp2_with fail
  refine (next2 G1.out).mono ?_
  rintro e w2 ⟨A1, n1, A2, n2, A3, n3, A4, n4, A5, n5, A6, n6, rfl, hb2⟩
  have B2 := Aside0.mk (below_then B1.out B1.out.size hb2)
  have P2 := Aside0.mk (heap_new w2 (.cells #[.int .u32 9, .slice A1 0 n1, .slice A2 0 n2, .int .u32 7, .slice A3 0 n3, .slice A4 0 n4, .slice A5 0 n5, .slice A6 0 n6, .bool false, .int .u8 0, .int .u8 0] 51))
  obtain ⟨p, hp⟩ : ∃ p, p = w2.heap.size := ⟨_, rfl⟩
  rw [← hp] at P2
  have B2' := Aside0.mk (B2.out.alloc B2.out.size (.cells #[.int .u32 9, .slice A1 0 n1, .slice A2 0 n2, .int .u32 7, .slice A3 0 n3, .slice A4 0 n4, .slice A5 0 n5, .slice A6 0 n6, .bool false, .int .u8 0, .int .u8 0] 51))
  have EP := Aside0.mk hp
  clear hb2 G1 B1 B2 hp
  go_wp2_with fail
  change Calls _ _ _ (w2.alloc (.cells #[.int .u32 9, .slice A1 0 n1, .slice A2 0 n2, .int .u32 7, .slice A3 0 n3, .slice A4 0 n4, .slice A5 0 n5, .slice A6 0 n6, .bool false, .int .u8 0, .int .u8 0] 51)) _
  rw [← EP.out]
  generalize w2.alloc (.cells #[.int .u32 9, .slice A1 0 n1, .slice A2 0 n2, .int .u32 7, .slice A3 0 n3, .slice A4 0 n4, .slice A5 0 n5, .slice A6 0 n6, .bool false, .int .u8 0, .int .u8 0] 51) = w3 at P2 B2' ⊢
  clear EP
  refine (five_calls _).mono ?_
  rintro e w4 ⟨s1, s2, s3, s4, s5, s6, rfl, hg1, hb1⟩
  have G1 := Aside0.mk hg1
  have P3 := Aside0.mk (blk_kept P2.out hb1)
  have B3 := Aside0.mk (below_then B2'.out B2'.out.size hb1)
  clear hg1 hb1 P2 B2'
  go_wp2_with fail
  refine (next4 G1.out).mono ?_
  rintro e w5 ⟨C1, m1, C2, m2, C3, m3, C4, m4, C5, m5, C6, m6, rfl, hb2⟩
  have B4 := Aside0.mk (below_then B3.out B3.out.size hb2)
  have P4 := Aside0.mk (blk_alloc (blk_kept P3.out hb2) (.cells #[.int .u32 9, .slice C1 0 m1, .slice C2 0 m2, .int .u32 5, .slice C3 0 m3, .slice C4 0 m4, .slice C5 0 m5, .slice C6 0 m6, .bool false, .int .u8 0, .int .u8 0] 51))
  have Q4 := Aside0.mk (heap_new w5 (.cells #[.int .u32 9, .slice C1 0 m1, .slice C2 0 m2, .int .u32 5, .slice C3 0 m3, .slice C4 0 m4, .slice C5 0 m5, .slice C6 0 m6, .bool false, .int .u8 0, .int .u8 0] 51))
  obtain ⟨q, hq⟩ : ∃ p, p = w5.heap.size := ⟨_, rfl⟩
  rw [← hq] at Q4
  have B5 := Aside0.mk (B4.out.alloc B4.out.size (.cells #[.int .u32 9, .slice C1 0 m1, .slice C2 0 m2, .int .u32 5, .slice C3 0 m3, .slice C4 0 m4, .slice C5 0 m5, .slice C6 0 m6, .bool false, .int .u8 0, .int .u8 0] 51))
  have EP := Aside0.mk hq
  clear hb2 G1 B3 B4 P3 hq
  go_wp2_with fail
  change Calls _ _ _ (w5.alloc (.cells #[.int .u32 9, .slice C1 0 m1, .slice C2 0 m2, .int .u32 5, .slice C3 0 m3, .slice C4 0 m4, .slice C5 0 m5, .slice C6 0 m6, .bool false, .int .u8 0, .int .u8 0] 51)) _
  rw [← EP.out]
  generalize w5.alloc (.cells #[.int .u32 9, .slice C1 0 m1, .slice C2 0 m2, .int .u32 5, .slice C3 0 m3, .slice C4 0 m4, .slice C5 0 m5, .slice C6 0 m6, .bool false, .int .u8 0, .int .u8 0] 51) = w6 at P4 Q4 B5 ⊢
  clear EP
  refine (GenZeroC.bytes_zero _).mono ?_
  rintro e w7 ⟨Ab, cb, rfl, hb⟩
  have P5 := Aside0.mk (blk_kept P4.out hb)
  have Q5 := Aside0.mk (blk_kept Q4.out hb)
  have B6 := Aside0.mk (below_then B5.out B5.out.size hb)
  clear hb P4 Q4 B5
  go_wp2_with fail
  refine (five_calls _).mono ?_
  rintro e w6a ⟨s1, s2, s3, s4, s5, s6, rfl, hg, hb⟩
  have G := Aside0.mk hg
  have Pa := Aside0.mk (blk_kept P5.out hb)
  have Qa := Aside0.mk (blk_kept Q5.out hb)
  have Ba := Aside0.mk (below_then B6.out B6.out.size hb)
  have R := Aside0.mk (RowC.nil kB w6a)
  clear hg hb P5 Q5 B6
  go_wp2_with fail
  refine (how_calls (rq := []) G.out R.out five_b (fun x hx => by cases hx)).mono ?_
  rintro e w6b ⟨rfl, hb⟩
  rw [show howP G5 0 [] = 1 from by decide]
  have P6 := Aside0.mk (blk_kept Pa.out hb)
  have Q6 := Aside0.mk (blk_kept Qa.out hb)
  have B7 := Aside0.mk (below_then Ba.out Ba.out.size hb)
  clear hb Pa Qa Ba G R
  go_wp2_with fail
  refine (five_calls _).mono ?_
  rintro e w7a ⟨s1, s2, s3, s4, s5, s6, rfl, hg, hb⟩
  have G := Aside0.mk hg
  have Pa := Aside0.mk (blk_kept P6.out hb)
  have Qa := Aside0.mk (blk_kept Q6.out hb)
  have Ba := Aside0.mk (below_then B7.out B7.out.size hb)
  have R := Aside0.mk (RowC.nil kB w7a)
  clear hg hb P6 Q6 B7
  go_wp2_with fail
  refine (how_calls (rq := []) G.out R.out five_b (fun x hx => by cases hx)).mono ?_
  rintro e w7b ⟨rfl, hb⟩
  rw [show howP G5 7 [] = 2 from by decide]
  have P7 := Aside0.mk (blk_kept Pa.out hb)
  have Q7 := Aside0.mk (blk_kept Qa.out hb)
  have B8 := Aside0.mk (below_then Ba.out Ba.out.size hb)
  clear hb Pa Qa Ba G R
  go_wp2_with fail
  refine (five_calls _).mono ?_
  rintro e w8a ⟨s1, s2, s3, s4, s5, s6, rfl, hg, hb⟩
  have G := Aside0.mk (hg.below (below_al w8a (.cells #[.int .u8 170] 5)))
  have Pa := Aside0.mk (blk_alloc (blk_kept P7.out hb) (.cells #[.int .u8 170] 5))
  have Qa := Aside0.mk (blk_alloc (blk_kept Q7.out hb) (.cells #[.int .u8 170] 5))
  have Ba := Aside0.mk ((below_then B8.out B8.out.size hb).alloc (below_then B8.out B8.out.size hb).size (.cells #[.int .u8 170] 5))
  have R := Aside0.mk (one_byte w8a 170)
  clear hg hb P7 Q7 B8
  go_wp2_with fail
  refine (how_calls (rq := [170]) G.out R.out five_b (fun x hx => by rw [List.mem_singleton.1 hx]; decide)).mono ?_
  rintro e w8b ⟨rfl, hb⟩
  rw [show howP G5 5 [170] = 3 from by decide]
  have P8 := Aside0.mk (blk_kept Pa.out hb)
  have Q8 := Aside0.mk (blk_kept Qa.out hb)
  have B9 := Aside0.mk (below_then Ba.out Ba.out.size hb)
  clear hb Pa Qa Ba G R
  go_wp2_with fail
  refine (five_calls _).mono ?_
  rintro e w9a ⟨s1, s2, s3, s4, s5, s6, rfl, hg, hb⟩
  have G := Aside0.mk (hg.below (below_al w9a (.cells #[.int .u8 187] 5)))
  have Pa := Aside0.mk (blk_alloc (blk_kept P8.out hb) (.cells #[.int .u8 187] 5))
  have Qa := Aside0.mk (blk_alloc (blk_kept Q8.out hb) (.cells #[.int .u8 187] 5))
  have Ba := Aside0.mk ((below_then B9.out B9.out.size hb).alloc (below_then B9.out B9.out.size hb).size (.cells #[.int .u8 187] 5))
  have R := Aside0.mk (one_byte w9a 187)
  clear hg hb P8 Q8 B9
  go_wp2_with fail
  refine (how_calls (rq := [187]) G.out R.out five_b (fun x hx => by rw [List.mem_singleton.1 hx]; decide)).mono ?_
  rintro e w9b ⟨rfl, hb⟩
  rw [show howP G5 5 [187] = 4 from by decide]
  have P9 := Aside0.mk (blk_kept Pa.out hb)
  have Q9 := Aside0.mk (blk_kept Qa.out hb)
  have B10 := Aside0.mk (below_then Ba.out Ba.out.size hb)
  clear hb Pa Qa Ba G R
  go_wp2_with fail
  refine (five_calls _).mono ?_
  rintro e w10a ⟨s1, s2, s3, s4, s5, s6, rfl, hg, hb⟩
  have G := Aside0.mk hg
  have Pa := Aside0.mk (blk_kept P9.out hb)
  have Qa := Aside0.mk (blk_kept Q9.out hb)
  have Ba := Aside0.mk (below_then B10.out B10.out.size hb)
  have R := Aside0.mk (RowC.nil kB w10a)
  clear hg hb P9 Q9 B10
  go_wp2_with fail
  refine (how_calls (rq := []) G.out R.out five_b (fun x hx => by cases hx)).mono ?_
  rintro e w10b ⟨rfl, hb⟩
  rw [show howP G5 4 [] = 0 from by decide]
  have P10 := Aside0.mk (blk_kept Pa.out hb)
  have Q10 := Aside0.mk (blk_kept Qa.out hb)
  have B11 := Aside0.mk (below_then Ba.out Ba.out.size hb)
  clear hb Pa Qa Ba G R
  have x0 := blk_cell P10.out 0
  have x3 := blk_cell P10.out 3
  have y0 := blk_cell Q10.out 0
  have y3 := blk_cell Q10.out 3
  simp only [List.getElem?_toArray, List.getElem?_cons_zero, List.getElem?_cons_succ] at x0 x3 y0 y3
  clear P10 Q10
  go_wp2_with fail
  go_ret
  exact ⟨rfl, B11.out⟩
end Go.Proofs.Ytpanefmemabckab.GenLives
