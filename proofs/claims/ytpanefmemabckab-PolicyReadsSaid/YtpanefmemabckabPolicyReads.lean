/- PolicyReads returns true at every device and every list of bytes: the walk. -/
import Derived.Test.YtpanefmemabckabPolicyOne
namespace Go.Proofs.Ytpanefmemabckab.PolicyReads
open Go.RowKit Go.Proofs.Ytpanefmemabckab.NumA Go.Proofs.Ytpanefmemabckab.PolR Go.Proofs.Ytpanefmemabckab.NumMath Go.Proofs.Ytpanefmemabckab.Bytes Go.Proofs.Ytpanefmemabckab.Wide Go.Proofs.Ytpanefmemabckab.PolicyPure Go.Proofs.YtpanefmemabckabW.PrintWords Go.Proofs.YtpanefmemabckabW.PrintLast
open Go.Proofs.Ytpanefmemabckab.PolicyRead (readV read_calls devO keyP wipeP errP)
set_option linter.unusedSimpArgs false

theorem heap_new (w : World) (o : Obj) : (w.alloc o).heap[w.heap.size]? = some o := by
  show (w.heap.push o)[w.heap.size]? = _
  simp
theorem blk_alloc {W : World} {b : Nat} {o : Obj} (h : W.heap[b]? = some o) (o' : Obj) : (W.alloc o').heap[b]? = some o := (Below.heap_alloc W o' b (blk_lt h)).trans h
/-- what Read answers of any bytes -/
theorem readV_form (b : List Nat) : readV b = .tuple #[.agg #[.int .u32 (keyP b 0), .int .u32 (keyP b 4), .int .u32 (keyP b 8), .bool (wipeP b)], .int .i64 (errP b)] := rfl

set_option maxRecDepth 100000 in
set_option maxHeartbeats 4000000 in
theorem walk (k t o : Int) (x : Bool) (A2 : Option Addr) (l2 : List Int) (c2 : Nat) (w : World) (h0 : (Lit.int .u32 k).wf = true) (h1 : (Lit.int .u32 t).wf = true) (h2 : (Lit.int .u32 o).wf = true)
    (hr2 : Kd.C (Kd.int .u8) w A2 l2.length l2) (hc2 : l2.length ≤ c2) (hw2 : ∀ x ∈ l2, (Lit.int .u8 x).wf = true) (hs2 : l2.length * 1 ≤ 140737488351232) :
    Calls Try.prog 4 #[.agg #[.int .u32 k, .int .u32 t, .int .u32 o, .bool x], .slice A2 l2.length c2] w fun e w' => e = .returned (.bool true) ∧ Below w.heap.size w w' := by
  obtain ⟨k, rfl, hk⟩ := nat_u32 h0
  obtain ⟨t, rfl, ht⟩ := nat_u32 h1
  obtain ⟨o, rfl, ho⟩ := nat_u32 h2
  obtain ⟨l, rfl, hb⟩ := bytes_of hw2
  have hs : l.length ≤ 140737488351232 := by rw [ofN_length] at hs2; omega
  obtain ⟨y, hy⟩ : ∃ y, y = bytesP k t o x := ⟨_, rfl⟩
  have hyb : ∀ c ∈ y, c < 256 := by rw [hy]; exact bytesP_lt k t o x
  have hyl : y.length = 13 := by rw [hy]; exact bytesP_length k t o x
  have HR := Aside0.mk hr2
  have HC := Aside0.mk hc2
  have HS := Aside0.mk hs
  have HBY := Aside0.mk hb
  have HYB := Aside0.mk hyb
  have HYL := Aside0.mk hyl
  have BY := Aside0.mk (fun w => PolicyOne.bytes_calls k t o x w hk ht ho)
  have SM := Aside0.mk (NumPure.same_f y y hyb hyb)
  have RR := Aside0.mk (ref_read l hb hs)
  have RB := Aside0.mk (ref_bytes k t o x hk ht ho)
  have hv1 := readV_form l
  have hv2 : readV y = .tuple #[.agg #[.int .u32 k, .int .u32 t, .int .u32 o, .bool x], .int .i64 0] := by
    obtain ⟨e0, e1, e2, e3, e4⟩ := read_bytes k t o x hk ht ho
    rw [← hy] at e0 e1 e2 e3 e4
    rw [readV_form, e0, e1, e2, e3, e4]; rfl
  have RD := Aside0.mk hv1
  have RY := Aside0.mk hv2
  have HY := Aside0.mk hy
  clear hr2 hc2 hs hb hw2 hs2 hyb hyl hv1 hv2 hy hk ht ho h0 h1 h2
  obtain ⟨K, hK⟩ : ∃ K : Int, K = (keyP l 0 : Int) := ⟨_, rfl⟩
  obtain ⟨T, hT⟩ : ∃ K : Int, K = (keyP l 4 : Int) := ⟨_, rfl⟩
  obtain ⟨O, hO⟩ : ∃ K : Int, K = (keyP l 8 : Int) := ⟨_, rfl⟩
  obtain ⟨X, hX⟩ : ∃ K, K = wipeP l := ⟨_, rfl⟩
  obtain ⟨E, hE⟩ : ∃ K : Int, K = (errP l : Int) := ⟨_, rfl⟩
  rw [← hK, ← hT, ← hO, ← hX, ← hE] at RR RD
  rw [← HY.out] at BY RB
  obtain ⟨k', hk'⟩ : ∃ K : Int, K = (k : Int) := ⟨_, rfl⟩
  obtain ⟨t', ht'⟩ : ∃ K : Int, K = (t : Int) := ⟨_, rfl⟩
  obtain ⟨o', ho'⟩ : ∃ K : Int, K = (o : Int) := ⟨_, rfl⟩
  rw [← hk', ← ht', ← ho'] at BY RB RY ⊢
  clear hK hT hO hX hE HY hk' ht' ho'
  go_enter Try.func4, Try.ntmps4
  go_wp2_with fail
  have P0 := Aside0.mk (heap_new w (devO k' t' o' x))
  have B0 := Aside0.mk ((Below.refl w.heap.size w).alloc (Nat.le_refl _) (devO k' t' o' x))
  obtain ⟨p, hp⟩ : ∃ p, p = w.heap.size := ⟨_, rfl⟩
  change Calls _ _ _ (w.alloc (devO k' t' o' x)) _
  generalize w.alloc (devO k' t' o' x) = W0 at P0 B0 ⊢
  rw [← hp] at P0
  have HP := Aside0.mk hp
  refine (wide_calls A2 c2 l _ (Kd.C_below HR.out B0.out) HS.out).mono ?_
  rintro e1 w1 ⟨b, rfl, hblk, hb1⟩
  have P1 := Aside0.mk (blk_kept P0.out hb1)
  have B1 := Aside0.mk (below_then B0.out B0.out.size hb1)
  have K1 := Aside0.mk hblk
  have d0 := blk_cell P1.out 0
  have d1 := blk_cell P1.out 1
  have d2 := blk_cell P1.out 2
  have d3 := blk_cell P1.out 3
  simp only [List.getElem?_toArray, List.getElem?_cons_zero, List.getElem?_cons_succ] at d0 d1 d2 d3
  rw [← hp]
  clear hb1 hblk P0 B0 hp
  go_wp2_with fail
  refine (BY.out _).mono ?_
  rintro e2 w2 ⟨v2, rfl, ho2, hb2⟩
  obtain ⟨A3, c3, rfl⟩ := Kd.R_slice ho2
  have O2 := Aside0.mk ho2
  have P2 := Aside0.mk (blk_kept P1.out hb2)
  have K2 := Aside0.mk (blk_kept K1.out hb2)
  have B2 := Aside0.mk (below_then B1.out B1.out.size hb2)
  clear ho2 hb2 K1 B1 P1 d0 d1 d2 d3
  go_wp2_with fail
  refine (read_calls (some ⟨b, 0, none⟩) (l.length + 3) l _ (C_block K2.out l (by have := HS.out; omega) List.take_left) (by rw [ofN_length]; omega) HBY.out HS.out).mono ?_
  rintro e3 w3 ⟨rfl, hb3⟩
  rw [RD.out]
  have O3 := Aside0.mk (Kd.R_below O2.out (hb3.alloc hb3.size (devO K T O X)))
  have P3 := Aside0.mk (blk_alloc (blk_kept P2.out hb3) (devO K T O X))
  have K3 := Aside0.mk (blk_alloc (blk_kept K2.out hb3) (devO K T O X))
  have Q3 := Aside0.mk (heap_new w3 (devO K T O X))
  have B3 := Aside0.mk ((below_then B2.out B2.out.size hb3).alloc (below_then B2.out B2.out.size hb3).size (devO K T O X))
  obtain ⟨q, hq⟩ : ∃ q, q = w3.heap.size := ⟨_, rfl⟩
  rw [← hq] at Q3
  have HQ := Aside0.mk hq
  clear hb3 O2 P2 K2 B2 hq
  go_wp2_with fail
  change Calls _ _ _ (w3.alloc (devO K T O X)) _
  rw [← HQ.out]
  generalize w3.alloc (devO K T O X) = W3 at O3 P3 K3 Q3 B3 ⊢
  clear HQ
  refine (cardexref23_Read.calls 100 A2 c2 (ofN l) _ _ _ _ _ _ (Kd.C_below HR.out B3.out) HC.out RR.out).mono ?_
  rintro e4 w4 ⟨rfl, hb4⟩
  have O4 := Aside0.mk (Kd.R_below O3.out (hb4.alloc hb4.size (devO K T O X)))
  have P4 := Aside0.mk (blk_alloc (blk_kept P3.out hb4) (devO K T O X))
  have K4 := Aside0.mk (blk_alloc (blk_kept K3.out hb4) (devO K T O X))
  have Q4 := Aside0.mk (blk_alloc (blk_kept Q3.out hb4) (devO K T O X))
  have R4 := Aside0.mk (heap_new w4 (devO K T O X))
  have B4 := Aside0.mk ((below_then B3.out B3.out.size hb4).alloc (below_then B3.out B3.out.size hb4).size (devO K T O X))
  obtain ⟨r, hr⟩ : ∃ q, q = w4.heap.size := ⟨_, rfl⟩
  rw [← hr] at R4
  have HQ := Aside0.mk hr
  clear hb4 O3 P3 K3 Q3 B3 hr
  go_wp2_with fail
  change Calls _ _ _ (w4.alloc (devO K T O X)) _
  rw [← HQ.out]
  generalize w4.alloc (devO K T O X) = W4 at O4 P4 K4 Q4 R4 B4 ⊢
  clear HQ
  refine (read_calls A3 c3 y _ (Kd.R_reads' O4.out).2.2 (Kd.R_reads' O4.out).2.1 HYB.out (by rw [HYL.out]; omega)).mono ?_
  rintro e5 w5 ⟨rfl, hb5⟩
  rw [RY.out]
  have O5 := Aside0.mk (Kd.R_below O4.out (hb5.alloc hb5.size (devO k' t' o' x)))
  have p5 := blk_alloc (blk_kept P4.out hb5) (devO k' t' o' x)
  have K5 := Aside0.mk (blk_alloc (blk_kept K4.out hb5) (devO k' t' o' x))
  have Q5 := Aside0.mk (blk_alloc (blk_kept Q4.out hb5) (devO k' t' o' x))
  have R5 := Aside0.mk (blk_alloc (blk_kept R4.out hb5) (devO k' t' o' x))
  have S5 := Aside0.mk (heap_new w5 (devO k' t' o' x))
  have B5 := Aside0.mk ((below_then B4.out B4.out.size hb5).alloc (below_then B4.out B4.out.size hb5).size (devO k' t' o' x))
  obtain ⟨s, hs⟩ : ∃ q, q = w5.heap.size := ⟨_, rfl⟩
  rw [← hs] at S5
  have HQ := Aside0.mk hs
  have P5 := Aside0.mk p5
  clear hb5 O4 P4 K4 Q4 R4 B4 hs p5
  go_upto_region 6 with fail
  change Code.wp _ _ _ _ (w5.alloc (devO k' t' o' x))
  rw [← HQ.out]
  generalize w5.alloc (devO k' t' o' x) = W5 at O5 P5 K5 Q5 R5 S5 B5 ⊢
  clear HQ
  have p0 := blk_cell P5.out 0
  have p1 := blk_cell P5.out 1
  have p2 := blk_cell P5.out 2
  have p3 := blk_cell P5.out 3
  simp only [List.getElem?_toArray, List.getElem?_cons_zero, List.getElem?_cons_succ] at p0 p1 p2 p3
  go_wp2_with fail
  refine (cardexref23_Bytes.calls 100 _ _ _ _ _ _ RB.out).mono ?_
  rintro e6 w6 ⟨v6, rfl, ho6, hb6⟩
  obtain ⟨A6, c6, rfl⟩ := Kd.R_slice ho6
  have O6 := Aside0.mk (Kd.R_below O5.out hb6)
  have U6 := Aside0.mk ho6
  have P6 := Aside0.mk (blk_kept P5.out hb6)
  have K6 := Aside0.mk (blk_kept K5.out hb6)
  have Q6 := Aside0.mk (blk_kept Q5.out hb6)
  have R6 := Aside0.mk (blk_kept R5.out hb6)
  have S6 := Aside0.mk (blk_kept S5.out hb6)
  have B6 := Aside0.mk (below_then B5.out B5.out.size hb6)
  clear P5 K5 Q5 R5 S5 B5 O5 hb6 ho6 p0 p1 p2 p3
  go_wp2_with fail
  refine (cardexref00_Same.calls _ _ (ofN y) _ _ (ofN y) true _ (Kd.R_reads' O6.out).2.2 (Kd.R_reads' O6.out).2.1 (Kd.R_reads' U6.out).2.2 (Kd.R_reads' U6.out).2.1 (by rw [SM.out]; simp)).mono ?_
  rintro e7 w7 ⟨rfl, hd7⟩
  have P7 := Aside0.mk (blk_kept P6.out hd7.below)
  have K7 := Aside0.mk (blk_kept K6.out hd7.below)
  have Q7 := Aside0.mk (blk_kept Q6.out hd7.below)
  have R7 := Aside0.mk (blk_kept R6.out hd7.below)
  have S7 := Aside0.mk (blk_kept S6.out hd7.below)
  have B7 := Aside0.mk (below_then B6.out B6.out.size hd7.below)
  clear P6 K6 Q6 R6 S6 B6 O6 U6 hd7
  have p0 := blk_cell P7.out 0
  have p1 := blk_cell P7.out 1
  have p2 := blk_cell P7.out 2
  have p3 := blk_cell P7.out 3
  simp only [List.getElem?_toArray, List.getElem?_cons_zero, List.getElem?_cons_succ] at p0 p1 p2 p3
  have q0 := blk_cell Q7.out 0
  have q1 := blk_cell Q7.out 1
  have q2 := blk_cell Q7.out 2
  have q3 := blk_cell Q7.out 3
  simp only [List.getElem?_toArray, List.getElem?_cons_zero, List.getElem?_cons_succ] at q0 q1 q2 q3
  have r0 := blk_cell R7.out 0
  have r1 := blk_cell R7.out 1
  have r2 := blk_cell R7.out 2
  have r3 := blk_cell R7.out 3
  simp only [List.getElem?_toArray, List.getElem?_cons_zero, List.getElem?_cons_succ] at r0 r1 r2 r3
  have s0 := blk_cell S7.out 0
  have s1 := blk_cell S7.out 1
  have s2 := blk_cell S7.out 2
  have s3 := blk_cell S7.out 3
  simp only [List.getElem?_toArray, List.getElem?_cons_zero, List.getElem?_cons_succ] at s0 s1 s2 s3
  go_wp2_with fail
  refine (left_calls A2 c2 l b _ HBY.out HS.out K7.out (Kd.C_below HR.out B7.out) HC.out).mono ?_
  rintro e8 w8 ⟨rfl, hd8⟩
  have B8 := Aside0.mk (below_then B7.out B7.out.size hd8.below)
  clear hd8 P7 K7 Q7 R7 S7 B7 p0 p1 p2 p3 q0 q1 q2 q3 r0 r1 r2 r3 s0 s1 s2 s3
  go_wp2_with fail
  refine (PolicyLives.lives_calls _).mono ?_
  rintro e9 w9 ⟨rfl, hb9⟩
  have B9 := Aside0.mk (below_then B8.out B8.out.size hb9)
  clear hb9 B8
  go_wp2_with fail
  go_ret
  exact ⟨rfl, B9.out⟩
end Go.Proofs.Ytpanefmemabckab.PolicyReads
