/- Bytes: a Gen's bytes, or the error. -/
import Derived.Test.YtpanefmemabckaaGenHalf
import Derived.Deep.RegionHeld3
import Derived.Test.YtpanefmemabckaaGenMath
import Derived.Test.YtpanefmemabckaaGenGet
namespace Go.Proofs.Ytpanefmemabckaa.GenBytes
open Go.RowKit Go.Proofs.Ytpanefmemabckaa.NumA Go.Proofs.Ytpanefmemabckaa.NumMath Go.Proofs.Ytpanefmemabckaa.Bytes Go.Proofs.Ytpanefmemabckaa.GenS Go.Proofs.Ytpanefmemabckaa.GenRep Go.Proofs.Ytpanefmemabckaa.GenBlk Go.Proofs.Ytpanefmemabckaa.GenPure Go.Proofs.Ytpanefmemabckaa.GenMath Go.Proofs.Ytpanefmemabckaa.GenPuts Go.Proofs.Ytpanefmemabckaa.GenHalf Go.Proofs.Ytpanefmemabckaa.GenMay Go.Proofs.YtpanefmemabckaaW.PrintWords Go.Proofs.YtpanefmemabckaaW.PrintLast
open Go.Proofs.Ytpanefmemabckaa.GenZero (heap_new blk_kept blk_drew1)
set_option linter.unusedSimpArgs false
set_option linter.unusedVariables false

theorem may_len {g : G} (h : mayB g = true) : g.rq.length ≤ 16384 ∧ g.rp.length ≤ 16384 := by
  unfold mayB at h
  simp only [Bool.and_eq_true, decide_eq_true_eq] at h
  exact ⟨h.2.2.2.2.2.1, h.2.2.2.2.2.2⟩
/-- a row of bytes, just made -/
theorem R_lits (l : List Int) (base : Nat) (W : World) (hb : base ≤ W.heap.size) (hl : l.length ≤ 1000000) : RowR kB 5 (W.alloc (.cells (encs (Value.int .u8) l).toArray 5)) base (.slice (some ⟨W.heap.size, 0, none⟩) l.length l.length) l := by
  refine Kd.R_of_own ?_ (fun _ _ => trivial)
  have h2 := World.ownsRow_lit (base := base) (e := 5) (size := 1) W (encs (Value.int .u8) l).toArray l.length hb (by unfold maxLen; omega) (by simp [encs])
  simpa using h2
/-- a Gen is no greater than these texts ask of -/
structure Small (g : G) : Prop where
  v1 : g.v1.length ≤ 10000
  c1 : g.c1.length ≤ 10000
  v2 : g.v2.length ≤ 10000
  c2 : g.c2.length ≤ 10000
theorem halfB_len (k : Int) (v : List Seen) (c : List Cli) : (halfB k v c).length = 12 + 12 * v.length + 16 * c.length := by
  simp only [halfB, List.length_append, le_length, seenB_length, cliB_length]
  omega
theorem rowP_len {l : List Nat} (h : l.length ≤ 16384) : (rowP l).length ≤ 16388 := by
  have : (putP l.length 4).1.length ≤ 4 := by unfold putP; split; (rw [le_length]; decide); simp
  unfold rowP
  rw [List.length_append]
  omega
theorem held67 {W : World} {p : Nat} {g : G} {s1 s2 s3 s4 s5 s6 : Value} (h : W.heap[p]? = some (genO g s1 s2 s3 s4 s5 s6)) : W.cell? ⟨p, 6, none⟩ = some s5 ∧ W.cell? ⟨p, 7, none⟩ = some s6 := ⟨blk_cell h 6, blk_cell h 7⟩
theorem ofN_app (l m : List Nat) : ofN l ++ ofN m = ofN (l ++ m) := by simp [ofN]

set_option maxRecDepth 100000 in
set_option maxHeartbeats 8000000 in
theorem bytes_no {W : World} {g : G} {s1 s2 s3 s4 s5 s6 : Value} (gc : GenC W g s1 s2 s3 s4 s5 s6) (gl : GenL g 400000) (gw : GenW g) (gb : GenB g) (gs : Small g) (hm : mayB g = false) :
    Calls Try.prog 35 #[genV g s1 s2 s3 s4 s5 s6] W fun e w' => e = .returned (.tuple #[.slice none 0 0, .int .i64 2]) ∧ Below W.heap.size W w' := by
  have q5 := gc.h5
  have q6 := gc.h6
  obtain ⟨A5, n5, rfl, h51, h52⟩ := q5
  obtain ⟨A6, n6, rfl, h61, h62⟩ := q6
  have GC := Aside0.mk gc
  have GL := Aside0.mk gl
  have GW := Aside0.mk gw
  have GB := Aside0.mk gb
  have GS := Aside0.mk gs
  have HM := Aside0.mk hm
  have C5 := Aside0.mk h52
  have C6 := Aside0.mk h62
  have P := Aside0.mk (heap_new W (genO g s1 s2 s3 s4 (.slice A5 g.rq.length n5) (.slice A6 g.rp.length n6)))
  have B := Aside0.mk (below_al W (genO g s1 s2 s3 s4 (.slice A5 g.rq.length n5) (.slice A6 g.rp.length n6)))
  obtain ⟨p, hp⟩ : ∃ p, p = W.heap.size := ⟨_, rfl⟩
  rw [← hp] at P
  have EP := Aside0.mk hp
  clear hp gc gl gw gb gs hm h52 h62
  go_enter Try.func35, Try.ntmps35
  go_upto_region 1 with fail
  change Code.wp _ _ _ _ (W.alloc (genO g s1 s2 s3 s4 (.slice A5 g.rq.length n5) (.slice A6 g.rp.length n6)))
  rw [← EP.out]
  generalize W.alloc (genO g s1 s2 s3 s4 (.slice A5 g.rq.length n5) (.slice A6 g.rp.length n6)) = W1 at P B ⊢
  clear EP
  obtain ⟨c0, c1, c2, c3, c4, c5, c6, c7, c8, c9, c10⟩ := heldG P.out
  go_wp2_with fail
  refine (may_calls (GC.out.below B.out) GL.out GW.out).mono ?_
  rintro e w1 ⟨rfl, hb⟩
  replace P := Aside0.mk (blk_kept P.out hb)
  replace B := Aside0.mk (below_then B.out B.out.size hb)
  clear hb c0 c1 c2 c3 c4 c5 c6 c7 c8 c9 c10
  rw [HM.out]
  go_wp2_with fail
  go_ret2
  exact ⟨rfl, B.out⟩
set_option maxRecDepth 100000 in
set_option maxHeartbeats 8000000 in
theorem bytes_yes {W : World} {g : G} {s1 s2 s3 s4 s5 s6 : Value} (gc : GenC W g s1 s2 s3 s4 s5 s6) (gl : GenL g 400000) (gw : GenW g) (gb : GenB g) (gs : Small g) (hm : mayB g = true) :
    Calls Try.prog 35 #[genV g s1 s2 s3 s4 s5 s6] W fun e w' => ∃ v, e = .returned (.tuple #[v, .int .i64 0]) ∧ RowR kB 5 w' W.heap.size v (ofN (genB g)) ∧ Below W.heap.size W w' := by
  have q5 := gc.h5
  have q6 := gc.h6
  obtain ⟨A5, n5, rfl, h51, h52⟩ := q5
  obtain ⟨A6, n6, rfl, h61, h62⟩ := q6
  have GC := Aside0.mk gc
  have GL := Aside0.mk gl
  have GW := Aside0.mk gw
  have GB := Aside0.mk gb
  have GS := Aside0.mk gs
  have HM := Aside0.mk hm
  have C5 := Aside0.mk h52
  have C6 := Aside0.mk h62
  have P := Aside0.mk (heap_new W (genO g s1 s2 s3 s4 (.slice A5 g.rq.length n5) (.slice A6 g.rp.length n6)))
  have B := Aside0.mk (below_al W (genO g s1 s2 s3 s4 (.slice A5 g.rq.length n5) (.slice A6 g.rp.length n6)))
  obtain ⟨p, hp⟩ : ∃ p, p = W.heap.size := ⟨_, rfl⟩
  rw [← hp] at P
  have EP := Aside0.mk hp
  clear hp gc gl gw gb gs hm h52 h62
  go_enter Try.func35, Try.ntmps35
  go_upto_region 1 with fail
  change Code.wp _ _ _ _ (W.alloc (genO g s1 s2 s3 s4 (.slice A5 g.rq.length n5) (.slice A6 g.rp.length n6)))
  rw [← EP.out]
  generalize W.alloc (genO g s1 s2 s3 s4 (.slice A5 g.rq.length n5) (.slice A6 g.rp.length n6)) = W1 at P B ⊢
  clear EP
  obtain ⟨c0, c1, c2, c3, c4, c5, c6, c7, c8, c9, c10⟩ := heldG P.out
  go_wp2_with fail
  refine (may_calls (GC.out.below B.out) GL.out GW.out).mono ?_
  rintro e w1 ⟨rfl, hb⟩
  replace P := Aside0.mk (blk_kept P.out hb)
  replace B := Aside0.mk (below_then B.out B.out.size hb)
  clear hb c0 c1 c2 c3 c4 c5 c6 c7 c8 c9 c10
  rw [HM.out]
  have H5 := Aside0.mk (show num_Row.f 100 g.rq = some (ofN (rowP (natL g.rq))) from by have h := NumPure.row_f (natL g.rq) (by unfold natL; rw [List.length_map]; exact GL.out.h5) 100 (by omega); rw [ofN_natL GB.out.1] at h; exact h)
  have H6 := Aside0.mk (show num_Row.f 100 g.rp = some (ofN (rowP (natL g.rp))) from by have h := NumPure.row_f (natL g.rp) (by unfold natL; rw [List.length_map]; exact GL.out.h6) 100 (by omega); rw [ofN_natL GB.out.2] at h; exact h)
  have L5 := Aside0.mk (show (rowP (natL g.rq)).length ≤ 16388 from rowP_len (by unfold natL; rw [List.length_map]; exact (may_len HM.out).1))
  have L6 := Aside0.mk (show (rowP (natL g.rp)).length ≤ 16388 from rowP_len (by unfold natL; rw [List.length_map]; exact (may_len HM.out).2))
  have LA := Aside0.mk (show (halfB g.k1 g.v1 g.c1).length ≤ 280012 from by rw [halfB_len]; have := GS.out.v1; have := GS.out.c1; omega)
  have LB := Aside0.mk (show (halfB g.k1 g.v1 g.c1 ++ halfB g.k2 g.v2 g.c2).length ≤ 560024 from by rw [List.length_append, halfB_len, halfB_len]; have := GS.out.v1; have := GS.out.c1; have := GS.out.v2; have := GS.out.c2; omega)
  replace P := Aside0.mk (blk_drew1 P.out)
  replace B := Aside0.mk (below_drew1 B.out)
  have O0 := Aside0.mk (show RowR kB 5 w1.drew W.heap.size (.slice none 0 0) (ofN []) from Kd.R_nil _ _ _ _ _)
  go_upto_region 3 with fail
  have HS0 := heldG P.out
  go_region_held3 (fun w' => w'.cell? ⟨p, 0, none⟩ = some (.int .u32 g.k1) ∧ w'.cell? ⟨p, 1, none⟩ = some s1 ∧ w'.cell? ⟨p, 2, none⟩ = some s2 ∧ w'.cell? ⟨p, 3, none⟩ = some (.int .u32 g.k2) ∧ w'.cell? ⟨p, 4, none⟩ = some s3 ∧ w'.cell? ⟨p, 5, none⟩ = some s4 ∧ w'.cell? ⟨p, 6, none⟩ = some (.slice A5 g.rq.length n5) ∧ w'.cell? ⟨p, 7, none⟩ = some (.slice A6 g.rp.length n6) ∧ w'.cell? ⟨p, 8, none⟩ = some (.bool g.ls) ∧ w'.cell? ⟨p, 9, none⟩ = some (.int .u8 g.su) ∧ w'.cell? ⟨p, 10, none⟩ = some (.int .u8 g.wi))
    (first | exact HS0 | with_reducible exact heldG P1.out | with_reducible exact heldG P2.out)
    (first
      | (go_at_call 65; (with_reducible refine (putHalf_calls (l := halfB g.k1 g.v1 g.c1) g.k2 s3 s4 g.v2 g.c2 O1.out B1.out GC.out.h3 GC.out.h4 GW.out.k2 GW.out.v2 GW.out.c2 GS.out.v2 GS.out.c2 (Nat.le_trans LA.out (by decide))).mono ?_); rintro e wb ⟨v2, rfl, h⟩; have P2 := Aside0.mk (Grew.blk h P1.out (by decide) O1.out); have O2 := Aside0.mk h.r; have B2 := Aside0.mk h.b; clear h)
      | (go_at_call 65; (with_reducible refine (putHalf_calls (l := []) g.k1 s1 s2 g.v1 g.c1 O0.out B.out GC.out.h1 GC.out.h2 GW.out.k1 GW.out.v1 GW.out.c1 GS.out.v1 GS.out.c1 (by decide)).mono ?_); rintro e wa ⟨v1, rfl, h⟩; rw [List.nil_append] at h; have P1 := Aside0.mk (Grew.blk h P.out (by decide) O0.out); have O1 := Aside0.mk h.r; have B1 := Aside0.mk h.b; clear h))
  clear HS0 P P1 O0 O1 B B1
  obtain ⟨X0, hX0⟩ : ∃ L, L = halfB g.k1 g.v1 g.c1 ++ halfB g.k2 g.v2 g.c2 := ⟨_, rfl⟩
  rw [← hX0] at O2 LB
  have EX0 := Aside0.mk hX0
  clear hX0
  go_upto_region 4 with fail
  obtain ⟨K2, m2, rfl⟩ := Kd.R_slice O2.out
  have P3 := Aside0.mk (blk_drew1 P2.out)
  have O3 := Aside0.mk (Kd.R_drew O2.out)
  have B3 := Aside0.mk (below_drew1 B2.out)
  clear P2 O2 B2
  have HS0 := held67 P3.out
  go_region_held3 (fun w' => w'.cell? ⟨p, 6, none⟩ = some (.slice A5 g.rq.length n5) ∧ w'.cell? ⟨p, 7, none⟩ = some (.slice A6 g.rp.length n6))
    (first | exact HS0 | with_reducible exact held67 P4.out | with_reducible exact held67 P5.out | with_reducible exact held67 P6.out | with_reducible exact held67 P7.out)
    (first
      | (go_at_call 53; (with_reducible refine (num_Row.calls 100 A6 n6 g.rp (ofN (rowP (natL g.rp))) _ (Kd.C_below C6.out B5.out) h61 H6.out).mono ?_); rintro e w6 ⟨x6, rfl, hx, hb⟩; obtain ⟨J6, j6, rfl⟩ := Kd.R_slice hx; have X6 := Aside0.mk (Kd.R_reads' hx).2.2; have P6 := Aside0.mk (blk_kept P5.out hb); have B6 := Aside0.mk (below_then B5.out B5.out.size hb); have O6 := Aside0.mk (Kd.R_below O5.out hb); clear hx hb)
      | (go_at_call 53; (with_reducible refine (num_Row.calls 100 A5 n5 g.rq (ofN (rowP (natL g.rq))) _ (Kd.C_below C5.out B3.out) h51 H5.out).mono ?_); rintro e w4 ⟨x4, rfl, hx, hb⟩; obtain ⟨J4, j4, rfl⟩ := Kd.R_slice hx; have X4 := Aside0.mk (Kd.R_reads' hx).2.2; have P4 := Aside0.mk (blk_kept P3.out hb); have B4 := Aside0.mk (below_then B3.out B3.out.size hb); have O4 := Aside0.mk (Kd.R_below O3.out hb); clear hx hb)
      | (refine Kd.R_append_rows_step kB (w0 := W) W.heap.size (by rfl) (.tmp 19) (.tmp 22) 42 5 (.int .u8 0) 1 rfl Try.underlying42 Go.Proofs.Ytpanefmemabckaa.NumA.info5 rfl (by decide) (by omega) (.slice K5 (ofN (X5)).length m5) (ofN (X5)) (ofN (rowP (natL g.rp))) _ _ _ (fun _ => True) (fun _ => False) rfl rfl ?aO ?aR (fun _ _ h => h) (fun _ h => h.elim) (fun _ _ => trivial) ?aB ?aS ?aL ?_; (case aR => exact X6.out); (case aB => exact B6.out); (case aO => exact O6.out); (case aS => exact B6.out.size); (case aL => (rw [ofN_length, ofN_length]; have := LB.out; have := L5.out; have := L6.out; have h := congrArg List.length EX5.out; rw [List.length_append] at h; omega)); intro v7 w7 ho hb hg hat; rw [ofN_app] at ho; obtain ⟨X7, hX⟩ : ∃ L, L = X5 ++ rowP (natL g.rp) := ⟨_, rfl⟩; rw [← hX] at ho; have EX7 := Aside0.mk hX; clear hX; have P7 := Aside0.mk (blk_grown P6.out hg (Kd.R_ne O6.out P6.out (by decide))); have O7 := Aside0.mk ho; have B7 := Aside0.mk hb; clear ho hb hg hat; obtain ⟨K7, m7, rfl⟩ := Kd.R_slice O7.out)
      | (refine Kd.R_append_rows_step kB (w0 := W) W.heap.size (by rfl) (.tmp 15) (.tmp 18) 42 5 (.int .u8 0) 1 rfl Try.underlying42 Go.Proofs.Ytpanefmemabckaa.NumA.info5 rfl (by decide) (by omega) (.slice K2 (ofN (X0)).length m2) (ofN (X0)) (ofN (rowP (natL g.rq))) _ _ _ (fun _ => True) (fun _ => False) rfl rfl ?aO ?aR (fun _ _ h => h) (fun _ h => h.elim) (fun _ _ => trivial) ?aB ?aS ?aL ?_; (case aR => exact X4.out); (case aB => exact B4.out); (case aO => exact O4.out); (case aS => exact B4.out.size); (case aL => (rw [ofN_length, ofN_length]; have := LB.out; have := L5.out; omega)); intro v5 w5 ho hb hg hat; rw [ofN_app] at ho; obtain ⟨X5, hX⟩ : ∃ L, L = X0 ++ rowP (natL g.rq) := ⟨_, rfl⟩; rw [← hX] at ho; have EX5 := Aside0.mk hX; clear hX; have P5 := Aside0.mk (blk_grown P4.out hg (Kd.R_ne O4.out P4.out (by decide))); have O5 := Aside0.mk ho; have B5 := Aside0.mk hb; clear ho hb hg hat; obtain ⟨K5, m5, rfl⟩ := Kd.R_slice O5.out))
  clear HS0 P3 P4 P5 P6 O3 O4 O5 O6 B3 B4 B5 B6 X4 X6
  have LZ := Aside0.mk (show X7.length ≤ 600000 from by have := LB.out; have := L5.out; have := L6.out; rw [EX7.out, EX5.out, List.length_append, List.length_append]; omega)
  cases hls : g.ls
  · have Q7 := heldG P7.out
    rw [hls] at Q7
    obtain ⟨c0, c1, c2, c3, c4, c5, c6, c7, c8, c9, c10⟩ := Q7
    have EN := Aside0.mk (show genB g = X7 ++ [0, g.su.toNat, g.wi.toNat] from by rw [EX7.out, EX5.out, EX0.out]; unfold genB; rw [hls]; simp [bool01])
    have EL := Aside0.mk (show ([(0 : Int), g.su, g.wi]) = ofN [0, g.su.toNat, g.wi.toNat] from by have := GW.out.su.1; have := GW.out.wi.1; simp [ofN]; omega)
    have O8 := Aside0.mk (Kd.R_alloc O7.out (.cells (encs (Value.int .u8) [(0 : Int), g.su, g.wi]).toArray 5))
    have B8 := Aside0.mk (B7.out.alloc B7.out.size (.cells (encs (Value.int .u8) [(0 : Int), g.su, g.wi]).toArray 5))
    have C8 := Aside0.mk (show Kd.C kB (w7.alloc (.cells (encs (Value.int .u8) [(0 : Int), g.su, g.wi]).toArray 5)) (some ⟨w7.heap.size, 0, none⟩) 3 (ofN [0, g.su.toNat, g.wi.toNat]) from by rw [← EL.out]; exact (Kd.R_reads' (R_lits [(0 : Int), g.su, g.wi] w7.heap.size w7 (Nat.le_refl _) (by simp))).2.2)
    clear hls P7 O7 B7
    go_wp2_with (first | ((with_reducible refine gate_builtin (b := .append) (xs := #[.tmp 26, .tmp 32]) rfl ?_); at_builtin; refine Kd.R_append_rows kB (w0 := W) W.heap.size rfl (.tmp 26) (.tmp 32) 42 5 (.int .u8 0) 1 rfl Try.underlying42 Go.Proofs.Ytpanefmemabckaa.NumA.info5 rfl (by decide) (by omega) (.slice K7 (ofN X7).length m7) (ofN (X7)) (ofN ([0, g.su.toNat, g.wi.toNat])) _ _ _ (fun _ => True) (fun _ => False) rfl rfl ?aO ?aR (fun _ _ h => h) (fun _ h => h.elim) (fun _ _ => trivial) ?aB ?aS ?aL ?_; (case aR => exact C8.out); (case aB => exact B8.out); (case aO => exact O8.out); (case aS => exact B8.out.size); (case aL => (rw [ofN_length]; have := LZ.out; omega)); intro v9 w9 ho hb hg hat; rw [ofN_app] at ho; have O9 := Aside0.mk ho; have B9 := Aside0.mk hb; clear ho hb hg hat))
    go_ret2
    exact ⟨_, rfl, by rw [EN.out]; exact O9.out, B9.out⟩
  · have Q7 := heldG P7.out
    rw [hls] at Q7
    obtain ⟨c0, c1, c2, c3, c4, c5, c6, c7, c8, c9, c10⟩ := Q7
    have EN := Aside0.mk (show genB g = X7 ++ [1, g.su.toNat, g.wi.toNat] from by rw [EX7.out, EX5.out, EX0.out]; unfold genB; rw [hls]; simp [bool01])
    have EL := Aside0.mk (show ([(1 : Int), g.su, g.wi]) = ofN [1, g.su.toNat, g.wi.toNat] from by have := GW.out.su.1; have := GW.out.wi.1; simp [ofN]; omega)
    have O8 := Aside0.mk (Kd.R_alloc O7.out (.cells (encs (Value.int .u8) [(1 : Int), g.su, g.wi]).toArray 5))
    have B8 := Aside0.mk (B7.out.alloc B7.out.size (.cells (encs (Value.int .u8) [(1 : Int), g.su, g.wi]).toArray 5))
    have C8 := Aside0.mk (show Kd.C kB (w7.alloc (.cells (encs (Value.int .u8) [(1 : Int), g.su, g.wi]).toArray 5)) (some ⟨w7.heap.size, 0, none⟩) 3 (ofN [1, g.su.toNat, g.wi.toNat]) from by rw [← EL.out]; exact (Kd.R_reads' (R_lits [(1 : Int), g.su, g.wi] w7.heap.size w7 (Nat.le_refl _) (by simp))).2.2)
    clear hls P7 O7 B7
    go_wp2_with (first | ((with_reducible refine gate_builtin (b := .append) (xs := #[.tmp 26, .tmp 32]) rfl ?_); at_builtin; refine Kd.R_append_rows kB (w0 := W) W.heap.size rfl (.tmp 26) (.tmp 32) 42 5 (.int .u8 0) 1 rfl Try.underlying42 Go.Proofs.Ytpanefmemabckaa.NumA.info5 rfl (by decide) (by omega) (.slice K7 (ofN X7).length m7) (ofN (X7)) (ofN ([1, g.su.toNat, g.wi.toNat])) _ _ _ (fun _ => True) (fun _ => False) rfl rfl ?aO ?aR (fun _ _ h => h) (fun _ h => h.elim) (fun _ _ => trivial) ?aB ?aS ?aL ?_; (case aR => exact C8.out); (case aB => exact B8.out); (case aO => exact O8.out); (case aS => exact B8.out.size); (case aL => (rw [ofN_length]; have := LZ.out; omega)); intro v9 w9 ho hb hg hat; rw [ofN_app] at ho; have O9 := Aside0.mk ho; have B9 := Aside0.mk hb; clear ho hb hg hat))
    go_ret2
    exact ⟨_, rfl, by rw [EN.out]; exact O9.out, B9.out⟩
end Go.Proofs.Ytpanefmemabckaa.GenBytes
namespace Go.Proofs.Ytpanefmemabckaa.GenBytesR
open Go.RowKit Go.Proofs.Ytpanefmemabckaa.NumA Go.Proofs.Ytpanefmemabckaa.NumQ Go.Proofs.Ytpanefmemabckaa.NumMath Go.Proofs.Ytpanefmemabckaa.Bytes Go.Proofs.Ytpanefmemabckaa.GenS Go.Proofs.Ytpanefmemabckaa.GenRep Go.Proofs.Ytpanefmemabckaa.GenBlk Go.Proofs.Ytpanefmemabckaa.GenPure Go.Proofs.Ytpanefmemabckaa.GenMath Go.Proofs.Ytpanefmemabckaa.GenPuts Go.Proofs.Ytpanefmemabckaa.GenHalf Go.Proofs.Ytpanefmemabckaa.GenMay Go.Proofs.Ytpanefmemabckaa.GenBytes Go.Proofs.Ytpanefmemabckaa.GenMayR Go.Proofs.YtpanefmemabckaaW.PrintWords Go.Proofs.YtpanefmemabckaaW.PrintLast
open Go.Proofs.Ytpanefmemabckaa.GenZero (heap_new blk_kept blk_drew1)
set_option linter.unusedSimpArgs false
set_option linter.unusedVariables false

set_option maxRecDepth 100000 in
set_option maxHeartbeats 8000000 in
theorem bytes_no {W : World} {g : G} {s1 s2 s3 s4 s5 s6 : Value} (gc : GenC W g s1 s2 s3 s4 s5 s6) (gl : GenL g 400000) (gw : GenW g) (gb : GenB g) (gs : Small g) (hm : mayB g = false) :
    Calls Try.prog 36 #[genV g s1 s2 s3 s4 s5 s6] W fun e w' => e = .returned (.tuple #[.slice none 0 0, .int .i64 2]) ∧ Below W.heap.size W w' := by
  have q5 := gc.h5
  have q6 := gc.h6
  obtain ⟨A5, n5, rfl, h51, h52⟩ := q5
  obtain ⟨A6, n6, rfl, h61, h62⟩ := q6
  have GC := Aside0.mk gc
  have GL := Aside0.mk gl
  have GW := Aside0.mk gw
  have GB := Aside0.mk gb
  have GS := Aside0.mk gs
  have HM := Aside0.mk hm
  have C5 := Aside0.mk h52
  have C6 := Aside0.mk h62
  have P := Aside0.mk (heap_new W (genO g s1 s2 s3 s4 (.slice A5 g.rq.length n5) (.slice A6 g.rp.length n6)))
  have B := Aside0.mk (below_al W (genO g s1 s2 s3 s4 (.slice A5 g.rq.length n5) (.slice A6 g.rp.length n6)))
  obtain ⟨p, hp⟩ : ∃ p, p = W.heap.size := ⟨_, rfl⟩
  rw [← hp] at P
  have EP := Aside0.mk hp
  clear hp gc gl gw gb gs hm h52 h62
  go_enter Try.func36, Try.ntmps36
  go_upto_region 1 with fail
  change Code.wp _ _ _ _ (W.alloc (genO g s1 s2 s3 s4 (.slice A5 g.rq.length n5) (.slice A6 g.rp.length n6)))
  rw [← EP.out]
  generalize W.alloc (genO g s1 s2 s3 s4 (.slice A5 g.rq.length n5) (.slice A6 g.rp.length n6)) = W1 at P B ⊢
  clear EP
  obtain ⟨c0, c1, c2, c3, c4, c5, c6, c7, c8, c9, c10⟩ := heldG P.out
  go_wp2_with fail
  refine (refmay_calls (GC.out.below B.out) GL.out GW.out).mono ?_
  rintro e w1 ⟨rfl, hb⟩
  replace P := Aside0.mk (blk_kept P.out hb)
  replace B := Aside0.mk (below_then B.out B.out.size hb)
  clear hb c0 c1 c2 c3 c4 c5 c6 c7 c8 c9 c10
  rw [HM.out]
  go_wp2_with fail
  go_ret2
  exact ⟨rfl, B.out⟩
set_option maxRecDepth 100000 in
set_option maxHeartbeats 8000000 in
theorem bytes_yes {W : World} {g : G} {s1 s2 s3 s4 s5 s6 : Value} (gc : GenC W g s1 s2 s3 s4 s5 s6) (gl : GenL g 400000) (gw : GenW g) (gb : GenB g) (gs : Small g) (hm : mayB g = true) :
    Calls Try.prog 36 #[genV g s1 s2 s3 s4 s5 s6] W fun e w' => ∃ v, e = .returned (.tuple #[v, .int .i64 0]) ∧ RowR kB 5 w' W.heap.size v (ofN (genB g)) ∧ Below W.heap.size W w' := by
  have q5 := gc.h5
  have q6 := gc.h6
  obtain ⟨A5, n5, rfl, h51, h52⟩ := q5
  obtain ⟨A6, n6, rfl, h61, h62⟩ := q6
  have GC := Aside0.mk gc
  have GL := Aside0.mk gl
  have GW := Aside0.mk gw
  have GB := Aside0.mk gb
  have GS := Aside0.mk gs
  have HM := Aside0.mk hm
  have C5 := Aside0.mk h52
  have C6 := Aside0.mk h62
  have P := Aside0.mk (heap_new W (genO g s1 s2 s3 s4 (.slice A5 g.rq.length n5) (.slice A6 g.rp.length n6)))
  have B := Aside0.mk (below_al W (genO g s1 s2 s3 s4 (.slice A5 g.rq.length n5) (.slice A6 g.rp.length n6)))
  obtain ⟨p, hp⟩ : ∃ p, p = W.heap.size := ⟨_, rfl⟩
  rw [← hp] at P
  have EP := Aside0.mk hp
  clear hp gc gl gw gb gs hm h52 h62
  go_enter Try.func36, Try.ntmps36
  go_upto_region 1 with fail
  change Code.wp _ _ _ _ (W.alloc (genO g s1 s2 s3 s4 (.slice A5 g.rq.length n5) (.slice A6 g.rp.length n6)))
  rw [← EP.out]
  generalize W.alloc (genO g s1 s2 s3 s4 (.slice A5 g.rq.length n5) (.slice A6 g.rp.length n6)) = W1 at P B ⊢
  clear EP
  obtain ⟨c0, c1, c2, c3, c4, c5, c6, c7, c8, c9, c10⟩ := heldG P.out
  go_wp2_with fail
  refine (refmay_calls (GC.out.below B.out) GL.out GW.out).mono ?_
  rintro e w1 ⟨rfl, hb⟩
  replace P := Aside0.mk (blk_kept P.out hb)
  replace B := Aside0.mk (below_then B.out B.out.size hb)
  clear hb c0 c1 c2 c3 c4 c5 c6 c7 c8 c9 c10
  rw [HM.out]
  have H5 := Aside0.mk (show cardexref01_Row.f 100 g.rq = some (ofN (rowP (natL g.rq))) from by have h := NumRefQ.row_f (natL g.rq) (by unfold natL; rw [List.length_map]; exact GL.out.h5) 100 (by omega); rw [ofN_natL GB.out.1] at h; exact h)
  have H6 := Aside0.mk (show cardexref01_Row.f 100 g.rp = some (ofN (rowP (natL g.rp))) from by have h := NumRefQ.row_f (natL g.rp) (by unfold natL; rw [List.length_map]; exact GL.out.h6) 100 (by omega); rw [ofN_natL GB.out.2] at h; exact h)
  have L5 := Aside0.mk (show (rowP (natL g.rq)).length ≤ 16388 from rowP_len (by unfold natL; rw [List.length_map]; exact (may_len HM.out).1))
  have L6 := Aside0.mk (show (rowP (natL g.rp)).length ≤ 16388 from rowP_len (by unfold natL; rw [List.length_map]; exact (may_len HM.out).2))
  have LA := Aside0.mk (show (halfB g.k1 g.v1 g.c1).length ≤ 280012 from by rw [halfB_len]; have := GS.out.v1; have := GS.out.c1; omega)
  have LB := Aside0.mk (show (halfB g.k1 g.v1 g.c1 ++ halfB g.k2 g.v2 g.c2).length ≤ 560024 from by rw [List.length_append, halfB_len, halfB_len]; have := GS.out.v1; have := GS.out.c1; have := GS.out.v2; have := GS.out.c2; omega)
  have O0 := Aside0.mk (show RowR kB 5 w1 W.heap.size (.slice none 0 0) (ofN []) from Kd.R_nil _ _ _ _ _)
  obtain ⟨c0, c1, c2, c3, c4, c5, c6, c7, c8, c9, c10⟩ := heldG P.out
  go_wp2_with fail
  refine (refputHalf_calls (l := []) g.k1 s1 s2 g.v1 g.c1 O0.out B.out GC.out.h1 GC.out.h2 GW.out.k1 GW.out.v1 GW.out.c1 GS.out.v1 GS.out.c1 (by decide)).mono ?_
  rintro e wa ⟨v1, rfl, h⟩
  rw [List.nil_append] at h
  replace P := Aside0.mk (Grew.blk h P.out (by decide) O0.out)
  have O1 := Aside0.mk h.r
  have B1 := Aside0.mk h.b
  clear h O0 B c0 c1 c2 c3 c4 c5 c6 c7 c8 c9 c10
  obtain ⟨c0, c1, c2, c3, c4, c5, c6, c7, c8, c9, c10⟩ := heldG P.out
  go_wp2_with fail
  refine (refputHalf_calls (l := halfB g.k1 g.v1 g.c1) g.k2 s3 s4 g.v2 g.c2 O1.out B1.out GC.out.h3 GC.out.h4 GW.out.k2 GW.out.v2 GW.out.c2 GS.out.v2 GS.out.c2 (Nat.le_trans LA.out (by decide))).mono ?_
  rintro e wb ⟨v2, rfl, h⟩
  replace P := Aside0.mk (Grew.blk h P.out (by decide) O1.out)
  have O2 := Aside0.mk h.r
  have B := Aside0.mk h.b
  clear h O1 B1 c0 c1 c2 c3 c4 c5 c6 c7 c8 c9 c10
  obtain ⟨X0, hX0⟩ : ∃ L, L = halfB g.k1 g.v1 g.c1 ++ halfB g.k2 g.v2 g.c2 := ⟨_, rfl⟩
  rw [← hX0] at O2 LB
  have EX0 := Aside0.mk hX0
  clear hX0
  obtain ⟨K2, m2, rfl⟩ := Kd.R_slice O2.out
  obtain ⟨c0, c1, c2, c3, c4, c5, c6, c7, c8, c9, c10⟩ := heldG P.out
  go_wp2_with fail
  refine (cardexref01_Row.calls 100 A5 n5 g.rq (ofN (rowP (natL g.rq))) _ (Kd.C_below C5.out B.out) h51 H5.out).mono ?_
  rintro e w4 ⟨x, rfl, hx, hb⟩
  obtain ⟨J4, j4, rfl⟩ := Kd.R_slice hx
  have X4 := Aside0.mk (hx)
  replace P := Aside0.mk (blk_kept P.out hb)
  replace O2 := Aside0.mk (Kd.R_below O2.out hb)
  replace B := Aside0.mk (below_then B.out B.out.size hb)
  clear hx hb c0 c1 c2 c3 c4 c5 c6 c7 c8 c9 c10
  obtain ⟨c0, c1, c2, c3, c4, c5, c6, c7, c8, c9, c10⟩ := heldG P.out
  go_wp2_with fail
  refine (cardexref01_Row.calls 100 A6 n6 g.rp (ofN (rowP (natL g.rp))) _ (Kd.C_below C6.out B.out) h61 H6.out).mono ?_
  rintro e w6 ⟨x, rfl, hx, hb⟩
  obtain ⟨J6, j6, rfl⟩ := Kd.R_slice hx
  have X6 := Aside0.mk (Kd.R_newR hx O2.out)
  replace P := Aside0.mk (blk_kept P.out hb)
  replace O2 := Aside0.mk (Kd.R_below O2.out hb)
  replace X4 := Aside0.mk (Kd.R_below X4.out hb)
  replace B := Aside0.mk (below_then B.out B.out.size hb)
  clear hx hb c0 c1 c2 c3 c4 c5 c6 c7 c8 c9 c10
  obtain ⟨c0, c1, c2, c3, c4, c5, c6, c7, c8, c9, c10⟩ := heldG P.out
  go_upto_region 9 with (first | ((with_reducible refine gate_builtin (b := .append) (xs := #[.tmp 23, .tmp 24]) rfl ?_); at_builtin; refine Kd.R_append_rows kB (w0 := W) W.heap.size rfl (.tmp 23) (.tmp 24) 42 5 (.int .u8 0) 1 rfl Try.underlying42 Go.Proofs.Ytpanefmemabckaa.NumA.info5 rfl (by decide) (by omega) (.slice K2 (ofN (X0)).length m2) (ofN (X0)) (ofN (rowP (natL g.rq))) _ _ _ (fun _ => True) (fun _ => False) rfl rfl ?aO ?aR (fun _ _ h => h) (fun _ h => h.elim) (fun _ _ => trivial) ?aB ?aS ?aL ?_; (case aR => exact (Kd.R_reads' X4.out).2.2); (case aB => exact B.out); (case aO => exact O2.out); (case aS => exact B.out.size); (case aL => (rw [ofN_length, ofN_length]; have := LB.out; have := L5.out; omega)); intro v5 w5 ho hb hg hat; rw [ofN_app] at ho; obtain ⟨X5, hX⟩ : ∃ L, L = X0 ++ rowP (natL g.rq) := ⟨_, rfl⟩; rw [← hX] at ho; have EX5 := Aside0.mk hX; clear hX; have P5 := Aside0.mk (blk_grown P.out hg (Kd.R_ne O2.out P.out (by decide))); have O5 := Aside0.mk ho; have B5 := Aside0.mk hb; have X5b := Aside0.mk (Kd.R_grown X6.out hg (fun k hk => hk.2)); clear ho hb hg hat; obtain ⟨K5, m5, rfl⟩ := Kd.R_slice O5.out) | ((with_reducible refine gate_builtin (b := .append) (xs := #[.tmp 26, .tmp 27]) rfl ?_); at_builtin; refine Kd.R_append_rows kB (w0 := W) W.heap.size rfl (.tmp 26) (.tmp 27) 42 5 (.int .u8 0) 1 rfl Try.underlying42 Go.Proofs.Ytpanefmemabckaa.NumA.info5 rfl (by decide) (by omega) (.slice K5 (ofN (X5)).length m5) (ofN (X5)) (ofN (rowP (natL g.rp))) _ _ _ (fun _ => True) (fun _ => False) rfl rfl ?aO ?aR (fun _ _ h => h) (fun _ h => h.elim) (fun _ _ => trivial) ?aB ?aS ?aL ?_; (case aR => exact (Kd.R_reads' X5b.out).2.2); (case aB => exact B5.out); (case aO => exact O5.out); (case aS => exact B5.out.size); (case aL => (rw [ofN_length, ofN_length]; have := LB.out; have := L5.out; have := L6.out; have h := congrArg List.length EX5.out; rw [List.length_append] at h; omega)); intro v7 w7 ho hb hg hat; rw [ofN_app] at ho; obtain ⟨X7, hX⟩ : ∃ L, L = X5 ++ rowP (natL g.rp) := ⟨_, rfl⟩; rw [← hX] at ho; have EX7 := Aside0.mk hX; clear hX; have P7 := Aside0.mk (blk_grown P5.out hg (Kd.R_ne O5.out P5.out (by decide))); have O7 := Aside0.mk ho; have B7 := Aside0.mk hb; clear ho hb hg hat; obtain ⟨K7, m7, rfl⟩ := Kd.R_slice O7.out))
  clear O2 X4 c0 c1 c2 c3 c4 c5 c6 c7 c8 c9 c10
  have LZ := Aside0.mk (show X7.length ≤ 600000 from by have := LB.out; have := L5.out; have := L6.out; rw [EX7.out, EX5.out, List.length_append, List.length_append]; omega)
  clear O5 X5b B5 P5 X6 B P
  cases hls : g.ls
  · have Q7 := heldG P7.out
    rw [hls] at Q7
    obtain ⟨c0, c1, c2, c3, c4, c5, c6, c7, c8, c9, c10⟩ := Q7
    have EN := Aside0.mk (show genB g = X7 ++ [0] ++ [g.su.toNat, g.wi.toNat] from by rw [EX7.out, EX5.out, EX0.out]; unfold genB; rw [hls]; simp [bool01])
    have EL := Aside0.mk (show [(0 : Int)] = ofN [0] from by simp [ofN])
    have EL2 := Aside0.mk (show [g.su, g.wi] = ofN [g.su.toNat, g.wi.toNat] from by have := GW.out.su.1; have := GW.out.wi.1; simp [ofN]; omega)
    have P8 := Aside0.mk (blk_alloc P7.out (.cells (encs (Value.int .u8) [(0 : Int)]).toArray 5))
    have O8 := Aside0.mk (Kd.R_alloc O7.out (.cells (encs (Value.int .u8) [(0 : Int)]).toArray 5))
    have B8 := Aside0.mk (B7.out.alloc B7.out.size (.cells (encs (Value.int .u8) [(0 : Int)]).toArray 5))
    have C8 := Aside0.mk (show Kd.C kB (w7.alloc (.cells (encs (Value.int .u8) [(0 : Int)]).toArray 5)) (some ⟨w7.heap.size, 0, none⟩) 1 (ofN [0]) from by rw [← EL.out]; exact (Kd.R_reads' (R_lits [(0 : Int)] w7.heap.size w7 (Nat.le_refl _) (by simp))).2.2)
    clear hls P7 O7 B7
    go_wp2_with (first | ((with_reducible refine gate_builtin (b := .append) (xs := #[.tmp 34, .tmp 35]) rfl ?_); at_builtin; refine Kd.R_append_rows kB (w0 := W) W.heap.size rfl (.tmp 34) (.tmp 35) 42 5 (.int .u8 0) 1 rfl Try.underlying42 Go.Proofs.Ytpanefmemabckaa.NumA.info5 rfl (by decide) (by omega) (.slice K7 (ofN X7).length m7) (ofN (X7)) (ofN ([0])) _ _ _ (fun _ => True) (fun _ => False) rfl rfl ?aO ?aR (fun _ _ h => h) (fun _ h => h.elim) (fun _ _ => trivial) ?aB ?aS ?aL ?_; (case aR => exact C8.out); (case aB => exact B8.out); (case aO => exact O8.out); (case aS => exact B8.out.size); (case aL => (rw [ofN_length]; have := LZ.out; omega)); intro v9 w9 ho hb hg hat; rw [ofN_app] at ho; obtain ⟨X9, hX⟩ : ∃ L, L = X7 ++ [0] := ⟨_, rfl⟩; rw [← hX] at ho; have EX9 := Aside0.mk hX; clear hX; have P9 := Aside0.mk (blk_grown P8.out hg (Kd.R_ne O8.out P8.out (by decide))); have s9 := blk_cell P9.out 9; have s10 := blk_cell P9.out 10; simp only [List.getElem?_toArray, List.getElem?_cons_zero, List.getElem?_cons_succ] at s9 s10; have O10 := Aside0.mk (Kd.R_alloc ho (.cells (encs (Value.int .u8) [g.su, g.wi]).toArray 5)); have B10 := Aside0.mk (hb.alloc hb.size (.cells (encs (Value.int .u8) [g.su, g.wi]).toArray 5)); have C10 := Aside0.mk (show Kd.C kB (w9.alloc (.cells (encs (Value.int .u8) [g.su, g.wi]).toArray 5)) (some ⟨w9.heap.size, 0, none⟩) 2 (ofN [g.su.toNat, g.wi.toNat]) from by rw [← EL2.out]; exact (Kd.R_reads' (R_lits [g.su, g.wi] w9.heap.size w9 (Nat.le_refl _) (by simp))).2.2); obtain ⟨K9, m9, rfl⟩ := Kd.R_slice ho; clear ho hb hg hat) | ((with_reducible refine gate_builtin (b := .append) (xs := #[.tmp 37, .tmp 42]) rfl ?_); at_builtin; refine Kd.R_append_rows kB (w0 := W) W.heap.size rfl (.tmp 37) (.tmp 42) 42 5 (.int .u8 0) 1 rfl Try.underlying42 Go.Proofs.Ytpanefmemabckaa.NumA.info5 rfl (by decide) (by omega) (.slice K9 (ofN X9).length m9) (ofN (X9)) (ofN ([g.su.toNat, g.wi.toNat])) _ _ _ (fun _ => True) (fun _ => False) rfl rfl ?aO ?aR (fun _ _ h => h) (fun _ h => h.elim) (fun _ _ => trivial) ?aB ?aS ?aL ?_; (case aR => exact C10.out); (case aB => exact B10.out); (case aO => exact O10.out); (case aS => exact B10.out.size); (case aL => (rw [ofN_length]; have := LZ.out; have h := congrArg List.length EX9.out; simp at h; omega)); intro v11 w11 ho hb hg hat; rw [ofN_app] at ho; have O11 := Aside0.mk ho; have B11 := Aside0.mk hb; clear ho hb hg hat))
    go_ret2
    exact ⟨_, rfl, by rw [EN.out, ← EX9.out]; exact O11.out, B11.out⟩
  · have Q7 := heldG P7.out
    rw [hls] at Q7
    obtain ⟨c0, c1, c2, c3, c4, c5, c6, c7, c8, c9, c10⟩ := Q7
    have EN := Aside0.mk (show genB g = X7 ++ [1] ++ [g.su.toNat, g.wi.toNat] from by rw [EX7.out, EX5.out, EX0.out]; unfold genB; rw [hls]; simp [bool01])
    have EL := Aside0.mk (show [(1 : Int)] = ofN [1] from by simp [ofN])
    have EL2 := Aside0.mk (show [g.su, g.wi] = ofN [g.su.toNat, g.wi.toNat] from by have := GW.out.su.1; have := GW.out.wi.1; simp [ofN]; omega)
    have P8 := Aside0.mk (blk_alloc P7.out (.cells (encs (Value.int .u8) [(1 : Int)]).toArray 5))
    have O8 := Aside0.mk (Kd.R_alloc O7.out (.cells (encs (Value.int .u8) [(1 : Int)]).toArray 5))
    have B8 := Aside0.mk (B7.out.alloc B7.out.size (.cells (encs (Value.int .u8) [(1 : Int)]).toArray 5))
    have C8 := Aside0.mk (show Kd.C kB (w7.alloc (.cells (encs (Value.int .u8) [(1 : Int)]).toArray 5)) (some ⟨w7.heap.size, 0, none⟩) 1 (ofN [1]) from by rw [← EL.out]; exact (Kd.R_reads' (R_lits [(1 : Int)] w7.heap.size w7 (Nat.le_refl _) (by simp))).2.2)
    clear hls P7 O7 B7
    go_wp2_with (first | ((with_reducible refine gate_builtin (b := .append) (xs := #[.tmp 31, .tmp 32]) rfl ?_); at_builtin; refine Kd.R_append_rows kB (w0 := W) W.heap.size rfl (.tmp 31) (.tmp 32) 42 5 (.int .u8 0) 1 rfl Try.underlying42 Go.Proofs.Ytpanefmemabckaa.NumA.info5 rfl (by decide) (by omega) (.slice K7 (ofN X7).length m7) (ofN (X7)) (ofN ([1])) _ _ _ (fun _ => True) (fun _ => False) rfl rfl ?aO ?aR (fun _ _ h => h) (fun _ h => h.elim) (fun _ _ => trivial) ?aB ?aS ?aL ?_; (case aR => exact C8.out); (case aB => exact B8.out); (case aO => exact O8.out); (case aS => exact B8.out.size); (case aL => (rw [ofN_length]; have := LZ.out; omega)); intro v9 w9 ho hb hg hat; rw [ofN_app] at ho; obtain ⟨X9, hX⟩ : ∃ L, L = X7 ++ [1] := ⟨_, rfl⟩; rw [← hX] at ho; have EX9 := Aside0.mk hX; clear hX; have P9 := Aside0.mk (blk_grown P8.out hg (Kd.R_ne O8.out P8.out (by decide))); have s9 := blk_cell P9.out 9; have s10 := blk_cell P9.out 10; simp only [List.getElem?_toArray, List.getElem?_cons_zero, List.getElem?_cons_succ] at s9 s10; have O10 := Aside0.mk (Kd.R_alloc ho (.cells (encs (Value.int .u8) [g.su, g.wi]).toArray 5)); have B10 := Aside0.mk (hb.alloc hb.size (.cells (encs (Value.int .u8) [g.su, g.wi]).toArray 5)); have C10 := Aside0.mk (show Kd.C kB (w9.alloc (.cells (encs (Value.int .u8) [g.su, g.wi]).toArray 5)) (some ⟨w9.heap.size, 0, none⟩) 2 (ofN [g.su.toNat, g.wi.toNat]) from by rw [← EL2.out]; exact (Kd.R_reads' (R_lits [g.su, g.wi] w9.heap.size w9 (Nat.le_refl _) (by simp))).2.2); obtain ⟨K9, m9, rfl⟩ := Kd.R_slice ho; clear ho hb hg hat) | ((with_reducible refine gate_builtin (b := .append) (xs := #[.tmp 37, .tmp 42]) rfl ?_); at_builtin; refine Kd.R_append_rows kB (w0 := W) W.heap.size rfl (.tmp 37) (.tmp 42) 42 5 (.int .u8 0) 1 rfl Try.underlying42 Go.Proofs.Ytpanefmemabckaa.NumA.info5 rfl (by decide) (by omega) (.slice K9 (ofN X9).length m9) (ofN (X9)) (ofN ([g.su.toNat, g.wi.toNat])) _ _ _ (fun _ => True) (fun _ => False) rfl rfl ?aO ?aR (fun _ _ h => h) (fun _ h => h.elim) (fun _ _ => trivial) ?aB ?aS ?aL ?_; (case aR => exact C10.out); (case aB => exact B10.out); (case aO => exact O10.out); (case aS => exact B10.out.size); (case aL => (rw [ofN_length]; have := LZ.out; have h := congrArg List.length EX9.out; simp at h; omega)); intro v11 w11 ho hb hg hat; rw [ofN_app] at ho; have O11 := Aside0.mk ho; have B11 := Aside0.mk hb; clear ho hb hg hat))
    go_ret2
    exact ⟨_, rfl, by rw [EN.out, ← EX9.out]; exact O11.out, B11.out⟩

end Go.Proofs.Ytpanefmemabckaa.GenBytesR
namespace Go.Proofs.Ytpanefmemabckaa.GenReads
open Go.RowKit Go.Proofs.Ytpanefmemabckaa.NumA Go.Proofs.Ytpanefmemabckaa.NumMath Go.Proofs.Ytpanefmemabckaa.Bytes Go.Proofs.Ytpanefmemabckaa.GenS Go.Proofs.Ytpanefmemabckaa.GenRep Go.Proofs.Ytpanefmemabckaa.GenBlk Go.Proofs.Ytpanefmemabckaa.GenPure Go.Proofs.Ytpanefmemabckaa.GenMath Go.Proofs.Ytpanefmemabckaa.GenRaw Go.Proofs.Ytpanefmemabckaa.GenPuts Go.Proofs.YtpanefmemabckaaW.PrintWords Go.Proofs.YtpanefmemabckaaW.PrintLast
open Go.Proofs.Ytpanefmemabckaa.GenGet (get1 row_calls)
open Go.Proofs.Ytpanefmemabckaa.GenReadH (half_calls)
open Go.Proofs.Ytpanefmemabckaa.GenMay (may_calls)
open Go.Proofs.Ytpanefmemabckaa.GenGet (Src Rd Went Rd.held)
open Go.Proofs.Ytpanefmemabckaa.GenReadH (row_other grown_new)
open Go.Proofs.Ytpanefmemabckaa.GenZero (heap_new blk_kept blk_drew1)
set_option linter.unusedSimpArgs false
set_option linter.unusedVariables false

/-- what stands while a Gen is read: the reader, the answer's block, the Gen so far -/
structure RG (T : Nat) (W wr : World) (p : Nat) (A : Option Addr) (c : Nat) (l : List Nat) (a : Nat) (e : Int) (g : G) (s1 s2 s3 s4 s5 s6 : Value) : Prop where
  d : Rd T W wr (p + 1) A c l a e
  h : W.heap.size = p
  z : wr.heap[p]? = some (genO G0 (.slice none 0 0) (.slice none 0 0) (.slice none 0 0) (.slice none 0 0) (.slice none 0 0) (.slice none 0 0))
  k : wr.heap[p + 2]? = some (genO g s1 s2 s3 s4 s5 s6)
  o : GenR wr W.heap.size g s1 s2 s3 s4 s5 s6
section
variable {T : Nat} {W wr w' : World} {p : Nat} {A : Option Addr} {c : Nat} {l : List Nat} {a : Nat} {e : Int} {g : G} {s1 s2 s3 s4 s5 s6 : Value} {st : Nat × Int}
theorem RG.start (T : Nat) (W : World) {p : Nat} (hp : p = W.heap.size) (A : Option Addr) (c : Nat) (l : List Nat) : RG T W (((W.alloc (genO G0 (.slice none 0 0) (.slice none 0 0) (.slice none 0 0) (.slice none 0 0) (.slice none 0 0) (.slice none 0 0))).alloc (.cells #[.slice A (ofN l).length c, .int .i64 0, .int .i64 0] T)).alloc (genO G0 (.slice none 0 0) (.slice none 0 0) (.slice none 0 0) (.slice none 0 0) (.slice none 0 0) (.slice none 0 0))) p A c l 0 0 G0 (.slice none 0 0) (.slice none 0 0) (.slice none 0 0) (.slice none 0 0) (.slice none 0 0) (.slice none 0 0) := by
  subst hp
  have z1 := heap_new W (genO G0 (.slice none 0 0) (.slice none 0 0) (.slice none 0 0) (.slice none 0 0) (.slice none 0 0) (.slice none 0 0))
  have e1 : (W.alloc (genO G0 (.slice none 0 0) (.slice none 0 0) (.slice none 0 0) (.slice none 0 0) (.slice none 0 0) (.slice none 0 0))).heap.size = W.heap.size + 1 := by show (W.heap.push _).size = _; simp
  have z2 := heap_new (W.alloc (genO G0 (.slice none 0 0) (.slice none 0 0) (.slice none 0 0) (.slice none 0 0) (.slice none 0 0) (.slice none 0 0))) (.cells #[.slice A (ofN l).length c, .int .i64 0, .int .i64 0] T)
  have e2 : ((W.alloc (genO G0 (.slice none 0 0) (.slice none 0 0) (.slice none 0 0) (.slice none 0 0) (.slice none 0 0) (.slice none 0 0))).alloc (.cells #[.slice A (ofN l).length c, .int .i64 0, .int .i64 0] T)).heap.size = W.heap.size + 2 := by show ((W.alloc (genO G0 (.slice none 0 0) (.slice none 0 0) (.slice none 0 0) (.slice none 0 0) (.slice none 0 0) (.slice none 0 0))).heap.push _).size = _; simp [e1]
  have z3 := heap_new ((W.alloc (genO G0 (.slice none 0 0) (.slice none 0 0) (.slice none 0 0) (.slice none 0 0) (.slice none 0 0) (.slice none 0 0))).alloc (.cells #[.slice A (ofN l).length c, .int .i64 0, .int .i64 0] T)) (genO G0 (.slice none 0 0) (.slice none 0 0) (.slice none 0 0) (.slice none 0 0) (.slice none 0 0) (.slice none 0 0))
  rw [e1] at z2
  rw [e2] at z3
  refine ⟨⟨blk_alloc z2 _, ?_, by omega⟩, rfl, blk_alloc (blk_alloc z1 _) _, z3, ⟨Kd.R_nil _ _ _ _ _, Kd.R_nil _ _ _ _ _, Kd.R_nil _ _ _ _ _, Kd.R_nil _ _ _ _ _, Kd.R_nil _ _ _ _ _, Kd.R_nil _ _ _ _ _⟩⟩
  exact below_unalloc (below_unalloc (below_al _ _))
theorem rows_other (h : GenR wr W.heap.size g s1 s2 s3 s4 s5 s6) (ht : (T ≠ 111 ∧ T ≠ 114) ∧ T ≠ 5) {r : Nat} {cs : Array Value} (hr : wr.heap[r]? = some (.cells cs T (0, 0))) (hg : wr.grownBy w' (some r)) : GenR w' W.heap.size g s1 s2 s3 s4 s5 s6 := by
  have h1 : ∀ q, q ∈ 111 :: kS.E → q ≠ T := fun q hq => by rcases List.mem_cons.1 hq with rfl | hq; exact Ne.symm ht.1.1; exact absurd (show q ∈ ([] : List Nat) from hq) (by simp)
  have h2 : ∀ q, q ∈ 114 :: kC.E → q ≠ T := fun q hq => by rcases List.mem_cons.1 hq with rfl | hq; exact Ne.symm ht.1.2; exact absurd (show q ∈ ([] : List Nat) from hq) (by simp)
  have h3 : ∀ q, q ∈ 5 :: kB.E → q ≠ T := fun q hq => by rcases List.mem_cons.1 hq with rfl | hq; exact Ne.symm ht.2; exact absurd (show q ∈ ([] : List Nat) from hq) (by simp)
  exact ⟨row_other h.h1 hr h1 hg, row_other h.h2 hr h2 hg, row_other h.h3 hr h1 hg, row_other h.h4 hr h2 hg, row_other h.h5 hr h3 hg, row_other h.h6 hr h3 hg⟩
theorem RG.step (h : RG T W wr p A c l a e g s1 s2 s3 s4 s5 s6) (ht : (T ≠ 111 ∧ T ≠ 114) ∧ T ≠ 5) (hw : Went T W wr w' (p + 1) A c l st) : RG T W w' p A c l st.1 st.2 g s1 s2 s3 s4 s5 s6 :=
  ⟨hw.d, h.h, blk_grown h.z hw.g (by simp), blk_grown h.k hw.g (by simp), rows_other h.o ht h.d.k hw.g⟩
theorem RG.half1 (h : RG T W wr p A c l a e g s1 s2 s3 s4 s5 s6) {u v : Value} {xs : List Seen} {ys : List Cli} (h1 : RowR kS 111 wr W.heap.size u xs) (h2 : RowR kC 114 wr W.heap.size v ys) (k : Int) : RG T W (put3 wr (p + 2) 0 (.int .u32 k) u v) p A c l a e ⟨k, xs, ys, g.k2, g.v2, g.c2, g.rq, g.rp, g.ls, g.su, g.wi⟩ u v s3 s4 s5 s6 :=
  ⟨⟨put3_far h.d.k (by omega) 0 _ _ _, put3_below h.d.b (by have := h.h; omega) 0 _ _ _, h.d.g⟩, h.h, put3_far h.z (by omega) 0 _ _ _, put3_0 h.k k u v, put3_rows (g := ⟨k, xs, ys, g.k2, g.v2, g.c2, g.rq, g.rp, g.ls, g.su, g.wi⟩) ⟨h1, h2, h.o.h3, h.o.h4, h.o.h5, h.o.h6⟩ h.k (.inl rfl) 0 _ _ _⟩
theorem RG.half2 (h : RG T W wr p A c l a e g s1 s2 s3 s4 s5 s6) {u v : Value} {xs : List Seen} {ys : List Cli} (h1 : RowR kS 111 wr W.heap.size u xs) (h2 : RowR kC 114 wr W.heap.size v ys) (k : Int) : RG T W (put3 wr (p + 2) 3 (.int .u32 k) u v) p A c l a e ⟨g.k1, g.v1, g.c1, k, xs, ys, g.rq, g.rp, g.ls, g.su, g.wi⟩ s1 s2 u v s5 s6 :=
  ⟨⟨put3_far h.d.k (by omega) 3 _ _ _, put3_below h.d.b (by have := h.h; omega) 3 _ _ _, h.d.g⟩, h.h, put3_far h.z (by omega) 3 _ _ _, put3_3 h.k k u v, put3_rows (g := ⟨g.k1, g.v1, g.c1, k, xs, ys, g.rq, g.rp, g.ls, g.su, g.wi⟩) ⟨h.o.h1, h.o.h2, h1, h2, h.o.h5, h.o.h6⟩ h.k (.inl rfl) 3 _ _ _⟩
theorem RG.row6 (h : RG T W wr p A c l a e g s1 s2 s3 s4 s5 s6) {u : Value} {xs : List Int} (h1 : RowR kB 5 wr W.heap.size u xs) : RG T W (wr.setCell ⟨p + 2, 6, none⟩ u) p A c l a e ⟨g.k1, g.v1, g.c1, g.k2, g.v2, g.c2, xs, g.rp, g.ls, g.su, g.wi⟩ s1 s2 s3 s4 u s6 :=
  ⟨⟨set_far h.d.k (by omega) 6 _, set_below h.d.b (by have := h.h; omega) 6 _, h.d.g⟩, h.h, set_far h.z (by omega) 6 _, put1_6 h.k u, rows_set (g := ⟨g.k1, g.v1, g.c1, g.k2, g.v2, g.c2, xs, g.rp, g.ls, g.su, g.wi⟩) ⟨h.o.h1, h.o.h2, h.o.h3, h.o.h4, h1, h.o.h6⟩ h.k (.inl rfl) 6 _⟩
theorem RG.row7 (h : RG T W wr p A c l a e g s1 s2 s3 s4 s5 s6) {u : Value} {xs : List Int} (h1 : RowR kB 5 wr W.heap.size u xs) : RG T W (wr.setCell ⟨p + 2, 7, none⟩ u) p A c l a e ⟨g.k1, g.v1, g.c1, g.k2, g.v2, g.c2, g.rq, xs, g.ls, g.su, g.wi⟩ s1 s2 s3 s4 s5 u :=
  ⟨⟨set_far h.d.k (by omega) 7 _, set_below h.d.b (by have := h.h; omega) 7 _, h.d.g⟩, h.h, set_far h.z (by omega) 7 _, put1_7 h.k u, rows_set (g := ⟨g.k1, g.v1, g.c1, g.k2, g.v2, g.c2, g.rq, xs, g.ls, g.su, g.wi⟩) ⟨h.o.h1, h.o.h2, h.o.h3, h.o.h4, h.o.h5, h1⟩ h.k (.inl rfl) 7 _⟩
theorem RG.ls8 (h : RG T W wr p A c l a e g s1 s2 s3 s4 s5 s6) (b : Bool) : RG T W (wr.setCell ⟨p + 2, 8, none⟩ (.bool b)) p A c l a e ⟨g.k1, g.v1, g.c1, g.k2, g.v2, g.c2, g.rq, g.rp, b, g.su, g.wi⟩ s1 s2 s3 s4 s5 s6 :=
  ⟨⟨set_far h.d.k (by omega) 8 _, set_below h.d.b (by have := h.h; omega) 8 _, h.d.g⟩, h.h, set_far h.z (by omega) 8 _, (show (wr.setCell ⟨p + 2, 8, none⟩ (.bool b)).heap[p + 2]? = some (rawO g.k1 s1 s2 g.k2 s3 s4 s5 s6 b g.su g.wi) from blk_set h.k 8 _), rows_set (g := ⟨g.k1, g.v1, g.c1, g.k2, g.v2, g.c2, g.rq, g.rp, b, g.su, g.wi⟩) ⟨h.o.h1, h.o.h2, h.o.h3, h.o.h4, h.o.h5, h.o.h6⟩ h.k (.inl rfl) 8 _⟩
theorem RG.su9 (h : RG T W wr p A c l a e g s1 s2 s3 s4 s5 s6) (x : Int) : RG T W (wr.setCell ⟨p + 2, 9, none⟩ (.int .u8 x)) p A c l a e ⟨g.k1, g.v1, g.c1, g.k2, g.v2, g.c2, g.rq, g.rp, g.ls, x, g.wi⟩ s1 s2 s3 s4 s5 s6 :=
  ⟨⟨set_far h.d.k (by omega) 9 _, set_below h.d.b (by have := h.h; omega) 9 _, h.d.g⟩, h.h, set_far h.z (by omega) 9 _, (show (wr.setCell ⟨p + 2, 9, none⟩ (.int .u8 x)).heap[p + 2]? = some (rawO g.k1 s1 s2 g.k2 s3 s4 s5 s6 g.ls x g.wi) from blk_set h.k 9 _), rows_set (g := ⟨g.k1, g.v1, g.c1, g.k2, g.v2, g.c2, g.rq, g.rp, g.ls, x, g.wi⟩) ⟨h.o.h1, h.o.h2, h.o.h3, h.o.h4, h.o.h5, h.o.h6⟩ h.k (.inl rfl) 9 _⟩
theorem RG.wi10 (h : RG T W wr p A c l a e g s1 s2 s3 s4 s5 s6) (x : Int) : RG T W (wr.setCell ⟨p + 2, 10, none⟩ (.int .u8 x)) p A c l a e ⟨g.k1, g.v1, g.c1, g.k2, g.v2, g.c2, g.rq, g.rp, g.ls, g.su, x⟩ s1 s2 s3 s4 s5 s6 :=
  ⟨⟨set_far h.d.k (by omega) 10 _, set_below h.d.b (by have := h.h; omega) 10 _, h.d.g⟩, h.h, set_far h.z (by omega) 10 _, (show (wr.setCell ⟨p + 2, 10, none⟩ (.int .u8 x)).heap[p + 2]? = some (rawO g.k1 s1 s2 g.k2 s3 s4 s5 s6 g.ls g.su x) from blk_set h.k 10 _), rows_set (g := ⟨g.k1, g.v1, g.c1, g.k2, g.v2, g.c2, g.rq, g.rp, g.ls, g.su, x⟩) ⟨h.o.h1, h.o.h2, h.o.h3, h.o.h4, h.o.h5, h.o.h6⟩ h.k (.inl rfl) 10 _⟩
theorem RG.below (h : RG T W wr p A c l a e g s1 s2 s3 s4 s5 s6) (hb : Below wr.heap.size wr w') : RG T W w' p A c l a e g s1 s2 s3 s4 s5 s6 :=
  ⟨h.d.below hb, h.h, blk_kept h.z hb, blk_kept h.k hb, h.o.below hb⟩
theorem RG.rd (h : RG T W wr p A c l a e g s1 s2 s3 s4 s5 s6) : wr.cell? ⟨p + 1, 1, none⟩ = some (.int .i64 (a : Int)) ∧ wr.cell? ⟨p + 1, 2, none⟩ = some (.int .i64 e) := ⟨h.d.held.2.1, h.d.held.2.2⟩
end

set_option maxRecDepth 100000 in
set_option maxHeartbeats 16000000 in
theorem read_calls {W : World} {A : Option Addr} {c : Nat} {l : List Nat} (S : Src W A c l) :
    Calls Try.prog 37 #[.slice A (ofN l).length c] W fun x w' => ∃ t1 t2 t3 t4 t5 t6, x = .returned (.tuple #[genV (genR l).1 t1 t2 t3 t4 t5 t6, .int .i64 (genR l).2]) ∧ GenR w' W.heap.size (genR l).1 t1 t2 t3 t4 t5 t6 ∧ Below W.heap.size W w' := by
  have SR := Aside0.mk S
  have RW := Aside0.mk (raw_w S.b)
  have RL := Aside0.mk (raw_l S.b S.m)
  obtain ⟨HA, hA⟩ : ∃ K, K = halfS l (0, 0) := ⟨_, rfl⟩
  obtain ⟨HB, hB⟩ : ∃ K, K = halfS l (HA.at_, HA.e) := ⟨_, rfl⟩
  obtain ⟨Q, hQ⟩ : ∃ K, K = rowS l (HB.at_, HB.e) := ⟨_, rfl⟩
  obtain ⟨q, a3, e3⟩ := Q
  obtain ⟨P, hP⟩ : ∃ K, K = rowS l (a3, e3) := ⟨_, rfl⟩
  obtain ⟨pp, a4, e4⟩ := P
  obtain ⟨X, hX⟩ : ∃ K, K = getS l (a4, e4) 1 := ⟨_, rfl⟩
  obtain ⟨x, a5, e5⟩ := X
  obtain ⟨Y, hY⟩ : ∃ K, K = getS l (a5, e5) 1 := ⟨_, rfl⟩
  obtain ⟨y, a6, e6⟩ := Y
  obtain ⟨V, hV⟩ : ∃ K, K = getS l (a6, e6) 1 := ⟨_, rfl⟩
  obtain ⟨z, a7, e7⟩ := V
  have RE := Aside0.mk (show rawR l = ⟨⟨HA.k, HA.v, HA.c, HB.k, HB.v, HB.c, ofN q, ofN pp, decide ((x : Int) = 1), (y : Nat), (z : Nat)⟩, x, a7, e7⟩ from by
    have ed : decide (x = 1) = decide ((x : Int) = 1) := by
      by_cases h : x = 1
      · subst h; rfl
      · rw [decide_eq_false h, decide_eq_false (by omega)]
    unfold rawR
    simp only [← hA, ← hB, ← hQ, ← hP, ← hX, ← hY, ← hV, ed])
  have A1 := Aside0.mk (show HA.at_ ≤ l.length from by rw [hA]; exact halfS_le (Nat.zero_le _))
  have A2 := Aside0.mk (show HB.at_ ≤ l.length from by rw [hB]; exact halfS_le A1.out)
  have A3 := Aside0.mk (show a3 ≤ l.length from by have h := rowS_le (st := (HB.at_, HB.e)) A2.out; rw [← hQ] at h; exact h)
  have A4 := Aside0.mk (show a4 ≤ l.length from by have h := rowS_le (st := (a3, e3)) A3.out; rw [← hP] at h; exact h)
  have A5 := Aside0.mk (show a5 ≤ l.length from by have h := getS_le (s := 1) (st := (a4, e4)) A4.out; rw [← hX] at h; exact h)
  have A6 := Aside0.mk (show a6 ≤ l.length from by have h := getS_le (s := 1) (st := (a5, e5)) A5.out; rw [← hY] at h; exact h)
  have A7 := Aside0.mk (show a7 ≤ l.length from by have h := getS_le (s := 1) (st := (a6, e6)) A6.out; rw [← hV] at h; exact h)
  have X8 := Aside0.mk (show x < 256 from by have h := getS_ltn S.b (a4, e4) 1; rw [← hX] at h; exact h)
  have Y8 := Aside0.mk (show y < 256 from by have h := getS_ltn S.b (a5, e5) 1; rw [← hY] at h; exact h)
  have Z8 := Aside0.mk (show z < 256 from by have h := getS_ltn S.b (a6, e6) 1; rw [← hV] at h; exact h)
  have IA := Aside0.mk hA
  have IB := Aside0.mk hB
  have IQ := Aside0.mk hQ
  have IP := Aside0.mk hP
  have IX := Aside0.mk hX
  have IY := Aside0.mk hY
  have IV := Aside0.mk hV
  obtain ⟨p, hp⟩ : ∃ p, p = W.heap.size := ⟨_, rfl⟩
  have H0 := Aside0.mk (RG.start 98 W hp A c l)
  have EP := Aside0.mk hp
  clear hA hB hQ hP hX hY hV hp S
  go_enter Try.func37, Try.ntmps37
  go_upto_region 3 with fail
  change Code.wp _ _ _ _ (((W.alloc (genO G0 (.slice none 0 0) (.slice none 0 0) (.slice none 0 0) (.slice none 0 0) (.slice none 0 0) (.slice none 0 0))).alloc (.cells #[.slice A (ofN l).length c, .int .i64 0, .int .i64 0] 98)).alloc (genO G0 (.slice none 0 0) (.slice none 0 0) (.slice none 0 0) (.slice none 0 0) (.slice none 0 0) (.slice none 0 0)))
  rw [← EP.out]
  generalize ((W.alloc (genO G0 (.slice none 0 0) (.slice none 0 0) (.slice none 0 0) (.slice none 0 0) (.slice none 0 0) (.slice none 0 0))).alloc (.cells #[.slice A (ofN l).length c, .int .i64 0, .int .i64 0] 98)).alloc (genO G0 (.slice none 0 0) (.slice none 0 0) (.slice none 0 0) (.slice none 0 0) (.slice none 0 0) (.slice none 0 0)) = W1 at H0 ⊢
  clear EP
  go_wp2_with fail
  refine (half_calls (a := 0) (e := 0) SR.out H0.out.d (Nat.zero_le _)).mono ?_
  rintro x_ w1 ⟨u1, v1, rfl, h1, h2, hw⟩
  rw [← IA.out] at h1 h2 hw ⊢
  have H1 := Aside0.mk (H0.out.step (by decide) hw)
  obtain ⟨B1, m1, rfl⟩ := Kd.R_slice h1
  obtain ⟨C1, n1, rfl⟩ := Kd.R_slice h2
  have O1 := Aside0.mk h1
  have O2 := Aside0.mk h2
  clear hw h1 h2 H0
  obtain ⟨c0, c1, c2, c3, c4, c5, c6, c7, c8, c9, c10⟩ := heldG H1.out.k
  have f0 := blk_frozen H1.out.k 0
  have f1 := blk_frozen H1.out.k 1
  have f2 := blk_frozen H1.out.k 2
  go_upto_region 4 with fail
  clear c0 c1 c2 c3 c4 c5 c6 c7 c8 c9 c10 f0 f1 f2
  obtain ⟨w2, hW⟩ : ∃ V, V = put3 w1 (p + 2) 0 (.int .u32 HA.k) (.slice B1 HA.v.length m1) (.slice C1 HA.c.length n1) := ⟨_, rfl⟩
  have H2 := Aside0.mk (show RG 98 W w2 p A c l HA.at_ HA.e (⟨HA.k, HA.v, HA.c, 0, [], [], [], [], false, 0, 0⟩ : G) (.slice B1 HA.v.length m1) (.slice C1 HA.c.length n1) (.slice none 0 0) (.slice none 0 0) (.slice none 0 0) (.slice none 0 0) from by rw [hW]; exact H1.out.half1 O1.out O2.out HA.k)
  change Code.wp _ _ _ _ (put3 w1 (p + 2) 0 (.int .u32 HA.k) (.slice B1 HA.v.length m1) (.slice C1 HA.c.length n1))
  rw [← hW]
  clear hW H1
  clear O1 O2
  go_wp2_with fail
  refine (half_calls (a := HA.at_) (e := HA.e) SR.out H2.out.d A1.out).mono ?_
  rintro x_ w3 ⟨u2, v2, rfl, h1, h2, hw⟩
  rw [← IB.out] at h1 h2 hw ⊢
  have H3 := Aside0.mk (H2.out.step (by decide) hw)
  obtain ⟨B2, m2, rfl⟩ := Kd.R_slice h1
  obtain ⟨C2, n2, rfl⟩ := Kd.R_slice h2
  have O1 := Aside0.mk h1
  have O2 := Aside0.mk h2
  clear hw h1 h2 H2
  obtain ⟨c0, c1, c2, c3, c4, c5, c6, c7, c8, c9, c10⟩ := heldG H3.out.k
  have f3 := blk_frozen H3.out.k 3
  have f4 := blk_frozen H3.out.k 4
  have f5 := blk_frozen H3.out.k 5
  go_upto_region 5 with fail
  clear c0 c1 c2 c3 c4 c5 c6 c7 c8 c9 c10 f3 f4 f5
  obtain ⟨w4, hW⟩ : ∃ V, V = put3 w3 (p + 2) 3 (.int .u32 HB.k) (.slice B2 HB.v.length m2) (.slice C2 HB.c.length n2) := ⟨_, rfl⟩
  have H4 := Aside0.mk (show RG 98 W w4 p A c l HB.at_ HB.e (⟨HA.k, HA.v, HA.c, HB.k, HB.v, HB.c, [], [], false, 0, 0⟩ : G) (.slice B1 HA.v.length m1) (.slice C1 HA.c.length n1) (.slice B2 HB.v.length m2) (.slice C2 HB.c.length n2) (.slice none 0 0) (.slice none 0 0) from by rw [hW]; exact H3.out.half2 O1.out O2.out HB.k)
  change Code.wp _ _ _ _ (put3 w3 (p + 2) 3 (.int .u32 HB.k) (.slice B2 HB.v.length m2) (.slice C2 HB.c.length n2))
  rw [← hW]
  clear hW H3
  clear O1 O2
  go_wp2_with fail
  refine (row_calls (a := HB.at_) (e := HB.e) SR.out H4.out.d A2.out).mono ?_
  rintro x_ w5 ⟨u5, rfl, h1, hw⟩
  rw [← IQ.out] at h1 hw
  have H5 := Aside0.mk (H4.out.step (by decide) hw)
  obtain ⟨B5, m5, rfl⟩ := Kd.R_slice h1
  have O1 := Aside0.mk h1
  clear hw h1 H4
  obtain ⟨c0, c1, c2, c3, c4, c5, c6, c7, c8, c9, c10⟩ := heldG H5.out.k
  have f6 := blk_frozen H5.out.k 6
  go_upto_region 6 with fail
  clear c0 c1 c2 c3 c4 c5 c6 c7 c8 c9 c10 f6
  obtain ⟨w6, hW⟩ : ∃ V, V = w5.setCell ⟨p + 2, 6, none⟩ (.slice B5 (ofN q).length m5) := ⟨_, rfl⟩
  have H6 := Aside0.mk (show RG 98 W w6 p A c l a3 e3 (⟨HA.k, HA.v, HA.c, HB.k, HB.v, HB.c, ofN q, [], false, 0, 0⟩ : G) (.slice B1 HA.v.length m1) (.slice C1 HA.c.length n1) (.slice B2 HB.v.length m2) (.slice C2 HB.c.length n2) (.slice B5 (ofN q).length m5) (.slice none 0 0) from by rw [hW]; exact H5.out.row6 O1.out)
  change Code.wp _ _ _ _ (w5.setCell ⟨p + 2, 6, none⟩ (.slice B5 (ofN q).length m5))
  rw [← hW]
  clear hW H5
  clear O1
  go_wp2_with fail
  refine (row_calls (a := a3) (e := e3) SR.out H6.out.d A3.out).mono ?_
  rintro x_ w7 ⟨u6, rfl, h1, hw⟩
  rw [← IP.out] at h1 hw
  have H7 := Aside0.mk (H6.out.step (by decide) hw)
  obtain ⟨B6, m6, rfl⟩ := Kd.R_slice h1
  have O1 := Aside0.mk h1
  clear hw h1 H6
  obtain ⟨c0, c1, c2, c3, c4, c5, c6, c7, c8, c9, c10⟩ := heldG H7.out.k
  have f7 := blk_frozen H7.out.k 7
  go_upto_region 7 with fail
  clear c0 c1 c2 c3 c4 c5 c6 c7 c8 c9 c10 f7
  obtain ⟨w8, hW⟩ : ∃ V, V = w7.setCell ⟨p + 2, 7, none⟩ (.slice B6 (ofN pp).length m6) := ⟨_, rfl⟩
  have H8 := Aside0.mk (show RG 98 W w8 p A c l a4 e4 (⟨HA.k, HA.v, HA.c, HB.k, HB.v, HB.c, ofN q, ofN pp, false, 0, 0⟩ : G) (.slice B1 HA.v.length m1) (.slice C1 HA.c.length n1) (.slice B2 HB.v.length m2) (.slice C2 HB.c.length n2) (.slice B5 (ofN q).length m5) (.slice B6 (ofN pp).length m6) from by rw [hW]; exact H7.out.row7 O1.out)
  change Code.wp _ _ _ _ (w7.setCell ⟨p + 2, 7, none⟩ (.slice B6 (ofN pp).length m6))
  rw [← hW]
  clear hW H7
  clear O1
  go_wp2_with fail
  refine (get1 (a := a4) (e := e4) SR.out H8.out.d A4.out).mono ?_
  rintro x_ w9 ⟨rfl, hw⟩
  rw [← IX.out] at hw ⊢
  have H9 := Aside0.mk (H8.out.step (by decide) hw)
  clear hw H8
  go_wp2_with fail
  refine (get1 (a := a5) (e := e5) SR.out H9.out.d A5.out).mono ?_
  rintro x_ w10 ⟨rfl, hw⟩
  rw [← IY.out] at hw ⊢
  have H10 := Aside0.mk (H9.out.step (by decide) hw)
  clear hw H9
  have y9 : y ≤ 255 := by have := Y8.out; omega
  have wy : (y : Int) % 256 = (y : Int) := by omega
  obtain ⟨c0, c1, c2, c3, c4, c5, c6, c7, c8, c9, c10⟩ := heldG H10.out.k
  have f9 := blk_frozen H10.out.k 9
  go_upto_region 9 with fail
  clear c0 c1 c2 c3 c4 c5 c6 c7 c8 c9 c10 f9
  clear y9 wy
  obtain ⟨w11, hW⟩ : ∃ V, V = w10.setCell ⟨p + 2, 9, none⟩ (.int .u8 (y : Int)) := ⟨_, rfl⟩
  have H11 := Aside0.mk (show RG 98 W w11 p A c l a6 e6 (⟨HA.k, HA.v, HA.c, HB.k, HB.v, HB.c, ofN q, ofN pp, false, (y : Int), 0⟩ : G) (.slice B1 HA.v.length m1) (.slice C1 HA.c.length n1) (.slice B2 HB.v.length m2) (.slice C2 HB.c.length n2) (.slice B5 (ofN q).length m5) (.slice B6 (ofN pp).length m6) from by rw [hW]; exact H10.out.su9 (y : Int))
  change Code.wp _ _ _ _ (w10.setCell ⟨p + 2, 9, none⟩ (.int .u8 (y : Int)))
  rw [← hW]
  clear hW H10
  go_wp2_with fail
  refine (get1 (a := a6) (e := e6) SR.out H11.out.d A6.out).mono ?_
  rintro x_ w12 ⟨rfl, hw⟩
  rw [← IV.out] at hw ⊢
  have H12 := Aside0.mk (H11.out.step (by decide) hw)
  clear hw H11
  have y9 : z ≤ 255 := by have := Z8.out; omega
  have wy : (z : Int) % 256 = (z : Int) := by omega
  obtain ⟨c0, c1, c2, c3, c4, c5, c6, c7, c8, c9, c10⟩ := heldG H12.out.k
  have f10 := blk_frozen H12.out.k 10
  go_upto_region 10 with fail
  clear c0 c1 c2 c3 c4 c5 c6 c7 c8 c9 c10 f10
  clear y9 wy
  obtain ⟨w13, hW⟩ : ∃ V, V = w12.setCell ⟨p + 2, 10, none⟩ (.int .u8 (z : Int)) := ⟨_, rfl⟩
  have H13 := Aside0.mk (show RG 98 W w13 p A c l a7 e7 (⟨HA.k, HA.v, HA.c, HB.k, HB.v, HB.c, ofN q, ofN pp, false, (y : Int), (z : Int)⟩ : G) (.slice B1 HA.v.length m1) (.slice C1 HA.c.length n1) (.slice B2 HB.v.length m2) (.slice C2 HB.c.length n2) (.slice B5 (ofN q).length m5) (.slice B6 (ofN pp).length m6) from by rw [hW]; exact H12.out.wi10 (z : Int))
  change Code.wp _ _ _ _ (w12.setCell ⟨p + 2, 10, none⟩ (.int .u8 (z : Int)))
  rw [← hW]
  clear hW H12
  obtain ⟨c0, c1, c2, c3, c4, c5, c6, c7, c8, c9, c10⟩ := heldG H13.out.k
  have f8 := blk_frozen H13.out.k 8
  go_upto_region 11 with fail
  clear c0 c1 c2 c3 c4 c5 c6 c7 c8 c9 c10 f8
  obtain ⟨w14, hW⟩ : ∃ V, V = w13.setCell ⟨p + 2, 8, none⟩ (.bool (decide ((x : Int) = 1))) := ⟨_, rfl⟩
  have H14 := Aside0.mk (show RG 98 W w14 p A c l a7 e7 (⟨HA.k, HA.v, HA.c, HB.k, HB.v, HB.c, ofN q, ofN pp, decide ((x : Int) = 1), (y : Int), (z : Int)⟩ : G) (.slice B1 HA.v.length m1) (.slice C1 HA.c.length n1) (.slice B2 HB.v.length m2) (.slice C2 HB.c.length n2) (.slice B5 (ofN q).length m5) (.slice B6 (ofN pp).length m6) from by rw [hW]; exact H13.out.ls8 (decide ((x : Int) = 1)))
  change Code.wp _ _ _ _ (w13.setCell ⟨p + 2, 8, none⟩ (.bool (decide ((x : Int) = 1))))
  rw [← hW]
  clear hW H13
  obtain ⟨d1, d2⟩ := H14.out.rd
  by_cases he : e7 = 0
  · subst he
    by_cases hx : 1 < x
    · have hx' : (1 : Int) < (x : Int) := by omega
      obtain ⟨c0, c1, c2, c3, c4, c5, c6, c7, c8, c9, c10⟩ := heldG H14.out.z
      have f0 := blk_frozen H14.out.z 0
      have f1 := blk_frozen H14.out.z 1
      have f2 := blk_frozen H14.out.z 2
      have f3 := blk_frozen H14.out.z 3
      have f4 := blk_frozen H14.out.z 4
      have f5 := blk_frozen H14.out.z 5
      have f6 := blk_frozen H14.out.z 6
      have f7 := blk_frozen H14.out.z 7
      have f8 := blk_frozen H14.out.z 8
      have f9 := blk_frozen H14.out.z 9
      have f10 := blk_frozen H14.out.z 10
      go_wp2_with fail
      clear c0 c1 c2 c3 c4 c5 c6 c7 c8 c9 c10 f0 f1 f2 f3 f4 f5 f6 f7 f8 f9 f10
      obtain ⟨wz, hW⟩ : ∃ V, V = put11 w14 p (.int .u32 0) (.slice none 0 0) (.slice none 0 0) (.int .u32 0) (.slice none 0 0) (.slice none 0 0) (.slice none 0 0) (.slice none 0 0) (.bool false) (.int .u8 0) (.int .u8 0) := ⟨_, rfl⟩
      have P9 := Aside0.mk (show wz.heap[p]? = some (genO G0 (.slice none 0 0) (.slice none 0 0) (.slice none 0 0) (.slice none 0 0) (.slice none 0 0) (.slice none 0 0)) from by rw [hW]; exact put11_self (g' := G0) H14.out.z _ _ _ _ _ _)
      have B9 := Aside0.mk (show Below W.heap.size W wz from by rw [hW]; exact put11_below H14.out.d.b (by have := H14.out.h; omega) _ _ _ _ _ _ _ _ _ _ _)
      change bodyPost _ _ _ _ _ (put11 w14 p (.int .u32 0) (.slice none 0 0) (.slice none 0 0) (.int .u32 0) (.slice none 0 0) (.slice none 0 0) (.slice none 0 0) (.slice none 0 0) (.bool false) (.int .u8 0) (.int .u8 0))
      rw [← hW]
      clear hW
      obtain ⟨c0, c1, c2, c3, c4, c5, c6, c7, c8, c9, c10⟩ := heldG P9.out
      refine bodyPost_ret (v := .tuple #[genV G0 (.slice none 0 0) (.slice none 0 0) (.slice none 0 0) (.slice none 0 0) (.slice none 0 0) (.slice none 0 0), .int .i64 5]) (by simp [results, Try.results37, go_sem, c0, c1, c2, c3, c4, c5, c6, c7, c8, c9, c10]) rfl ?_
      rw [show genR l = (G0, 5) from by unfold genR; rw [RE.out]; rw [if_pos rfl, if_pos (.inl hx)]]
      exact ⟨_, _, _, _, _, _, rfl, ⟨Kd.R_nil _ _ _ _ _, Kd.R_nil _ _ _ _ _, Kd.R_nil _ _ _ _ _, Kd.R_nil _ _ _ _ _, Kd.R_nil _ _ _ _ _, Kd.R_nil _ _ _ _ _⟩, B9.out⟩
    · have hx' : ¬ (1 : Int) < (x : Int) := by omega
      by_cases ha : a7 < l.length
      · have ha' : (a7 : Int) < ((ofN l).length : Int) := by rw [ofN_length]; omega
        have hb' : ((a7 : Int) != ((ofN l).length : Int)) = true := bne_iff_ne.mpr (by omega)
        obtain ⟨c0, c1, c2, c3, c4, c5, c6, c7, c8, c9, c10⟩ := heldG H14.out.z
        have f0 := blk_frozen H14.out.z 0
        have f1 := blk_frozen H14.out.z 1
        have f2 := blk_frozen H14.out.z 2
        have f3 := blk_frozen H14.out.z 3
        have f4 := blk_frozen H14.out.z 4
        have f5 := blk_frozen H14.out.z 5
        have f6 := blk_frozen H14.out.z 6
        have f7 := blk_frozen H14.out.z 7
        have f8 := blk_frozen H14.out.z 8
        have f9 := blk_frozen H14.out.z 9
        have f10 := blk_frozen H14.out.z 10
        go_wp2_with fail
        clear c0 c1 c2 c3 c4 c5 c6 c7 c8 c9 c10 f0 f1 f2 f3 f4 f5 f6 f7 f8 f9 f10
        obtain ⟨wz, hW⟩ : ∃ V, V = put11 w14 p (.int .u32 0) (.slice none 0 0) (.slice none 0 0) (.int .u32 0) (.slice none 0 0) (.slice none 0 0) (.slice none 0 0) (.slice none 0 0) (.bool false) (.int .u8 0) (.int .u8 0) := ⟨_, rfl⟩
        have P9 := Aside0.mk (show wz.heap[p]? = some (genO G0 (.slice none 0 0) (.slice none 0 0) (.slice none 0 0) (.slice none 0 0) (.slice none 0 0) (.slice none 0 0)) from by rw [hW]; exact put11_self (g' := G0) H14.out.z _ _ _ _ _ _)
        have B9 := Aside0.mk (show Below W.heap.size W wz from by rw [hW]; exact put11_below H14.out.d.b (by have := H14.out.h; omega) _ _ _ _ _ _ _ _ _ _ _)
        change bodyPost _ _ _ _ _ (put11 w14 p (.int .u32 0) (.slice none 0 0) (.slice none 0 0) (.int .u32 0) (.slice none 0 0) (.slice none 0 0) (.slice none 0 0) (.slice none 0 0) (.bool false) (.int .u8 0) (.int .u8 0))
        rw [← hW]
        clear hW
        obtain ⟨c0, c1, c2, c3, c4, c5, c6, c7, c8, c9, c10⟩ := heldG P9.out
        refine bodyPost_ret (v := .tuple #[genV G0 (.slice none 0 0) (.slice none 0 0) (.slice none 0 0) (.slice none 0 0) (.slice none 0 0) (.slice none 0 0), .int .i64 5]) (by simp [results, Try.results37, go_sem, c0, c1, c2, c3, c4, c5, c6, c7, c8, c9, c10]) rfl ?_
        rw [show genR l = (G0, 5) from by unfold genR; rw [RE.out]; rw [if_pos rfl, if_pos (.inr (.inl ha))]]
        exact ⟨_, _, _, _, _, _, rfl, ⟨Kd.R_nil _ _ _ _ _, Kd.R_nil _ _ _ _ _, Kd.R_nil _ _ _ _ _, Kd.R_nil _ _ _ _ _, Kd.R_nil _ _ _ _ _, Kd.R_nil _ _ _ _ _⟩, B9.out⟩
      · have ha' : ¬ (a7 : Int) < ((ofN l).length : Int) := by rw [ofN_length]; omega
        have hb' : ((a7 : Int) != ((ofN l).length : Int)) = false := by have := A7.out; have e : (a7 : Int) = ((ofN l).length : Int) := (by rw [ofN_length]; omega); rw [e]; simp
        obtain ⟨c0, c1, c2, c3, c4, c5, c6, c7, c8, c9, c10⟩ := heldG H14.out.k
        have GL := RL.out
        have GW := RW.out
        rw [RE.out] at GL GW
        go_wp2_with fail
        refine (may_calls (GenC.of H14.out.o) GL GW).mono ?_
        rintro x_ wm ⟨rfl, hb⟩
        have HM := Aside0.mk (H14.out.below hb)
        clear hb GL GW c0 c1 c2 c3 c4 c5 c6 c7 c8 c9 c10 d1 d2
        obtain ⟨b, hmb⟩ : ∃ b, b = mayB (⟨HA.k, HA.v, HA.c, HB.k, HB.v, HB.c, ofN q, ofN pp, decide ((x : Int) = 1), (y : Int), (z : Int)⟩ : G) := ⟨_, rfl⟩
        rw [← hmb]
        cases b
        · have MB := Aside0.mk hmb.symm
          clear hmb
          obtain ⟨c0, c1, c2, c3, c4, c5, c6, c7, c8, c9, c10⟩ := heldG HM.out.z
          have f0 := blk_frozen HM.out.z 0
          have f1 := blk_frozen HM.out.z 1
          have f2 := blk_frozen HM.out.z 2
          have f3 := blk_frozen HM.out.z 3
          have f4 := blk_frozen HM.out.z 4
          have f5 := blk_frozen HM.out.z 5
          have f6 := blk_frozen HM.out.z 6
          have f7 := blk_frozen HM.out.z 7
          have f8 := blk_frozen HM.out.z 8
          have f9 := blk_frozen HM.out.z 9
          have f10 := blk_frozen HM.out.z 10
          go_wp2_with fail
          clear c0 c1 c2 c3 c4 c5 c6 c7 c8 c9 c10 f0 f1 f2 f3 f4 f5 f6 f7 f8 f9 f10
          obtain ⟨wz, hW⟩ : ∃ V, V = put11 wm p (.int .u32 0) (.slice none 0 0) (.slice none 0 0) (.int .u32 0) (.slice none 0 0) (.slice none 0 0) (.slice none 0 0) (.slice none 0 0) (.bool false) (.int .u8 0) (.int .u8 0) := ⟨_, rfl⟩
          have P9 := Aside0.mk (show wz.heap[p]? = some (genO G0 (.slice none 0 0) (.slice none 0 0) (.slice none 0 0) (.slice none 0 0) (.slice none 0 0) (.slice none 0 0)) from by rw [hW]; exact put11_self (g' := G0) HM.out.z _ _ _ _ _ _)
          have B9 := Aside0.mk (show Below W.heap.size W wz from by rw [hW]; exact put11_below HM.out.d.b (by have := HM.out.h; omega) _ _ _ _ _ _ _ _ _ _ _)
          change bodyPost _ _ _ _ _ (put11 wm p (.int .u32 0) (.slice none 0 0) (.slice none 0 0) (.int .u32 0) (.slice none 0 0) (.slice none 0 0) (.slice none 0 0) (.slice none 0 0) (.bool false) (.int .u8 0) (.int .u8 0))
          rw [← hW]
          clear hW
          obtain ⟨c0, c1, c2, c3, c4, c5, c6, c7, c8, c9, c10⟩ := heldG P9.out
          refine bodyPost_ret (v := .tuple #[genV G0 (.slice none 0 0) (.slice none 0 0) (.slice none 0 0) (.slice none 0 0) (.slice none 0 0) (.slice none 0 0), .int .i64 5]) (by simp [results, Try.results37, go_sem, c0, c1, c2, c3, c4, c5, c6, c7, c8, c9, c10]) rfl ?_
          rw [show genR l = (G0, 5) from by unfold genR; rw [RE.out]; rw [if_pos rfl, if_pos (.inr (.inr MB.out))]]
          exact ⟨_, _, _, _, _, _, rfl, ⟨Kd.R_nil _ _ _ _ _, Kd.R_nil _ _ _ _ _, Kd.R_nil _ _ _ _ _, Kd.R_nil _ _ _ _ _, Kd.R_nil _ _ _ _ _, Kd.R_nil _ _ _ _ _⟩, B9.out⟩
        · have MB := Aside0.mk hmb.symm
          clear hmb
          obtain ⟨c0, c1, c2, c3, c4, c5, c6, c7, c8, c9, c10⟩ := heldG HM.out.k
          have g0 := blk_frozen HM.out.z 0
          have g1 := blk_frozen HM.out.z 1
          have g2 := blk_frozen HM.out.z 2
          have g3 := blk_frozen HM.out.z 3
          have g4 := blk_frozen HM.out.z 4
          have g5 := blk_frozen HM.out.z 5
          have g6 := blk_frozen HM.out.z 6
          have g7 := blk_frozen HM.out.z 7
          have g8 := blk_frozen HM.out.z 8
          have g9 := blk_frozen HM.out.z 9
          have g10 := blk_frozen HM.out.z 10
          have ⟨e0, e1, e2, e3, e4, e5, e6, e7, e8, e9, e10⟩ := heldG HM.out.z
          go_wp2_with fail
          clear c0 c1 c2 c3 c4 c5 c6 c7 c8 c9 c10 g0 g1 g2 g3 g4 g5 g6 g7 g8 g9 g10 e0 e1 e2 e3 e4 e5 e6 e7 e8 e9 e10
          obtain ⟨wz, hW⟩ : ∃ V, V = put11 wm p (.int .u32 HA.k) (.slice B1 HA.v.length m1) (.slice C1 HA.c.length n1) (.int .u32 HB.k) (.slice B2 HB.v.length m2) (.slice C2 HB.c.length n2) (.slice B5 (ofN q).length m5) (.slice B6 (ofN pp).length m6) (.bool (decide ((x : Int) = 1))) (.int .u8 (y : Int)) (.int .u8 (z : Int)) := ⟨_, rfl⟩
          have P9 := Aside0.mk (show wz.heap[p]? = some (genO (⟨HA.k, HA.v, HA.c, HB.k, HB.v, HB.c, ofN q, ofN pp, decide ((x : Int) = 1), (y : Int), (z : Int)⟩ : G) (.slice B1 HA.v.length m1) (.slice C1 HA.c.length n1) (.slice B2 HB.v.length m2) (.slice C2 HB.c.length n2) (.slice B5 (ofN q).length m5) (.slice B6 (ofN pp).length m6)) from by rw [hW]; exact put11_self (g' := (⟨HA.k, HA.v, HA.c, HB.k, HB.v, HB.c, ofN q, ofN pp, decide ((x : Int) = 1), (y : Int), (z : Int)⟩ : G)) HM.out.z _ _ _ _ _ _)
          have O9 := Aside0.mk (show GenR wz W.heap.size (⟨HA.k, HA.v, HA.c, HB.k, HB.v, HB.c, ofN q, ofN pp, decide ((x : Int) = 1), (y : Int), (z : Int)⟩ : G) (.slice B1 HA.v.length m1) (.slice C1 HA.c.length n1) (.slice B2 HB.v.length m2) (.slice C2 HB.c.length n2) (.slice B5 (ofN q).length m5) (.slice B6 (ofN pp).length m6) from by rw [hW]; exact put11_rows HM.out.o HM.out.z _ _ _ _ _ _ _ _ _ _ _)
          have B9 := Aside0.mk (show Below W.heap.size W wz from by rw [hW]; exact put11_below HM.out.d.b (by have := HM.out.h; omega) _ _ _ _ _ _ _ _ _ _ _)
          change bodyPost _ _ _ _ _ (put11 wm p (.int .u32 HA.k) (.slice B1 HA.v.length m1) (.slice C1 HA.c.length n1) (.int .u32 HB.k) (.slice B2 HB.v.length m2) (.slice C2 HB.c.length n2) (.slice B5 (ofN q).length m5) (.slice B6 (ofN pp).length m6) (.bool (decide ((x : Int) = 1))) (.int .u8 (y : Int)) (.int .u8 (z : Int)))
          rw [← hW]
          clear hW
          obtain ⟨c0, c1, c2, c3, c4, c5, c6, c7, c8, c9, c10⟩ := heldG P9.out
          refine bodyPost_ret (v := .tuple #[genV (⟨HA.k, HA.v, HA.c, HB.k, HB.v, HB.c, ofN q, ofN pp, decide ((x : Int) = 1), (y : Int), (z : Int)⟩ : G) (.slice B1 HA.v.length m1) (.slice C1 HA.c.length n1) (.slice B2 HB.v.length m2) (.slice C2 HB.c.length n2) (.slice B5 (ofN q).length m5) (.slice B6 (ofN pp).length m6), .int .i64 0]) (by simp [results, Try.results37, go_sem, c0, c1, c2, c3, c4, c5, c6, c7, c8, c9, c10]) rfl ?_
          rw [show genR l = ((⟨HA.k, HA.v, HA.c, HB.k, HB.v, HB.c, ofN q, ofN pp, decide ((x : Int) = 1), (y : Int), (z : Int)⟩ : G), 0) from by unfold genR; rw [RE.out]; rw [if_pos rfl, if_neg (by simp only [not_or]; exact ⟨hx, ha, by rw [MB.out]; simp⟩)]]
          exact ⟨_, _, _, _, _, _, rfl, O9.out, B9.out⟩
  · have he' : (e7 != 0) = true := bne_iff_ne.mpr he
    obtain ⟨c0, c1, c2, c3, c4, c5, c6, c7, c8, c9, c10⟩ := heldG H14.out.z
    have f0 := blk_frozen H14.out.z 0
    have f1 := blk_frozen H14.out.z 1
    have f2 := blk_frozen H14.out.z 2
    have f3 := blk_frozen H14.out.z 3
    have f4 := blk_frozen H14.out.z 4
    have f5 := blk_frozen H14.out.z 5
    have f6 := blk_frozen H14.out.z 6
    have f7 := blk_frozen H14.out.z 7
    have f8 := blk_frozen H14.out.z 8
    have f9 := blk_frozen H14.out.z 9
    have f10 := blk_frozen H14.out.z 10
    go_upto_region 12 with fail
    have X2 := H14.out.rd
    refine start_ (n := 7) (S := (fun w' => w'.cell? ⟨p + 1, 1, none⟩ = some (.int .i64 (a7 : Int)) ∧ w'.cell? ⟨p + 1, 2, none⟩ = some (.int .i64 e7))) (ds := []) #[false, false, false, false, false, false, false] (by kernel_rfl) rfl rfl X2 (fun hHeld => ?_)
    have X3 := heldG H14.out.z
    have H14' := Aside0.mk (H14.out.below (below_of_drew w14))
    clear c0 c1 c2 c3 c4 c5 c6 c7 c8 c9 c10 f0 f1 f2 f3 f4 f5 f6 f7 f8 f9 f10 X3
    generalize w14.drew = w99 at H14' hHeld ⊢
    refine pure_ (i := 0) (N := some 41) (v := ?_) (a' := ?_) #[true, false, false, false, false, false, false] rfl rfl (by kernel_rfl) (fun _ _ _ h => h) (Or.inl ⟨by rfl, ?_⟩) ?_ ?_
    rotate_left
    · intro w'
      go_simp
      with_reducible rfl
    rotate_left
    · simp only [Act.put, List.setIfInBounds_toArray, List.set_cons_zero, List.set_cons_succ, i64_w, i32_w]
      rfl
    refine pure_ (i := 1) (N := some 42) (v := ?_) (a' := ?_) #[true, true, false, false, false, false, false] rfl rfl (by kernel_rfl) (fun _ _ _ h => h) (Or.inl ⟨by rfl, ?_⟩) ?_ ?_
    rotate_left
    · intro w'
      go_simp
      with_reducible rfl
    rotate_left
    · simp only [Act.put, List.setIfInBounds_toArray, List.set_cons_zero, List.set_cons_succ, i64_w, i32_w]
      rfl
    refine pure_ (i := 2) (N := some 43) (v := ?_) (a' := ?_) #[true, true, true, false, false, false, false] rfl rfl (by kernel_rfl) (fun _ _ _ h => h) (Or.inl ⟨by rfl, ?_⟩) ?_ ?_
    rotate_left
    · intro w'
      go_simp
      with_reducible rfl
    rotate_left
    · simp only [Act.put, List.setIfInBounds_toArray, List.set_cons_zero, List.set_cons_succ, i64_w, i32_w]
      rfl
    refine pure_ (i := 3) (N := some 44) (v := ?_) (a' := ?_) #[true, true, true, true, false, false, false] rfl rfl (by kernel_rfl) (fun _ _ _ h => h) (Or.inl ⟨by rfl, ?_⟩) ?_ ?_
    rotate_left
    · intro w'
      go_simp
      with_reducible rfl
    rotate_left
    · simp only [Act.put, List.setIfInBounds_toArray, List.set_cons_zero, List.set_cons_succ, i64_w, i32_w]
      rfl
    refine take_ (i := 4) (N := some 45) (v := ?_) (a' := ?_) #[true, true, true, true, true, false, false] rfl rfl (by kernel_rfl) (fun _ _ _ h => h) (Or.inl ⟨by rfl, ?_⟩) hHeld ?_ ?_
    rotate_left
    · rintro w' ⟨s_0, s_1⟩
      go_simp
      with_reducible rfl
    rotate_left
    · simp only [Act.put, List.setIfInBounds_toArray, List.set_cons_zero, List.set_cons_succ, i64_w, i32_w]
      rfl
    refine one_ (i := 5) (N := none) #[true, true, true, true, true, true, false] rfl rfl (by kernel_rfl) (by decide) (fun K hK => ?_)
    obtain ⟨c0, c1, c2, c3, c4, c5, c6, c7, c8, c9, c10⟩ := heldG H14'.out.z
    have f0 := blk_frozen H14'.out.z 0
    have f1 := blk_frozen H14'.out.z 1
    have f2 := blk_frozen H14'.out.z 2
    have f3 := blk_frozen H14'.out.z 3
    have f4 := blk_frozen H14'.out.z 4
    have f5 := blk_frozen H14'.out.z 5
    have f6 := blk_frozen H14'.out.z 6
    have f7 := blk_frozen H14'.out.z 7
    have f8 := blk_frozen H14'.out.z 8
    have f9 := blk_frozen H14'.out.z 9
    have f10 := blk_frozen H14'.out.z 10
    refine skip_ (w1 := ?_) (by rfl) rfl ?_ ?_
    rotate_left
    · go_simp
      rfl
    refine hK.out _ _ ⟨blk_cell (put11_far (r := p) H14'.out.d.k (by omega) _ _ _ _ _ _ _ _ _ _ _) 1, blk_cell (put11_far (r := p) H14'.out.d.k (by omega) _ _ _ _ _ _ _ _ _ _ _) 2⟩ (fun hHeld => ?_)
    clear hK K
    refine pure_ (i := 6) (N := some 3) (v := ?_) (a' := ?_) #[true, true, true, true, true, true, true] rfl rfl (by kernel_rfl) (fun _ _ _ h => h) (Or.inl ⟨by rfl, ?_⟩) ?_ ?_
    rotate_left
    · intro w'
      go_simp
      with_reducible rfl
    rotate_left
    · simp only [Act.put, List.setIfInBounds_toArray, List.set_cons_zero, List.set_cons_succ, i64_w, i32_w]
      rfl
    refine done_ (by kernel_rfl) ?_
    go_wp2_with fail
    clear c0 c1 c2 c3 c4 c5 c6 c7 c8 c9 c10 f0 f1 f2 f3 f4 f5 f6 f7 f8 f9 f10
    obtain ⟨wz, hW⟩ : ∃ V, V = put11 w99 p (.int .u32 0) (.slice none 0 0) (.slice none 0 0) (.int .u32 0) (.slice none 0 0) (.slice none 0 0) (.slice none 0 0) (.slice none 0 0) (.bool false) (.int .u8 0) (.int .u8 0) := ⟨_, rfl⟩
    have P9 := Aside0.mk (show wz.heap[p]? = some (genO G0 (.slice none 0 0) (.slice none 0 0) (.slice none 0 0) (.slice none 0 0) (.slice none 0 0) (.slice none 0 0)) from by rw [hW]; exact put11_self (g' := G0) H14'.out.z _ _ _ _ _ _)
    have B9 := Aside0.mk (show Below W.heap.size W wz from by rw [hW]; exact put11_below H14'.out.d.b (by have := H14'.out.h; omega) _ _ _ _ _ _ _ _ _ _ _)
    change bodyPost _ _ _ _ _ (put11 w99 p (.int .u32 0) (.slice none 0 0) (.slice none 0 0) (.int .u32 0) (.slice none 0 0) (.slice none 0 0) (.slice none 0 0) (.slice none 0 0) (.bool false) (.int .u8 0) (.int .u8 0))
    rw [← hW]
    clear hW
    obtain ⟨c0, c1, c2, c3, c4, c5, c6, c7, c8, c9, c10⟩ := heldG P9.out
    refine bodyPost_ret (v := .tuple #[genV G0 (.slice none 0 0) (.slice none 0 0) (.slice none 0 0) (.slice none 0 0) (.slice none 0 0) (.slice none 0 0), .int .i64 e7]) (by simp [results, Try.results37, go_sem, c0, c1, c2, c3, c4, c5, c6, c7, c8, c9, c10]) rfl ?_
    rw [show genR l = (G0, e7) from by unfold genR; rw [RE.out]; rw [if_neg he]]
    exact ⟨_, _, _, _, _, _, rfl, ⟨Kd.R_nil _ _ _ _ _, Kd.R_nil _ _ _ _ _, Kd.R_nil _ _ _ _ _, Kd.R_nil _ _ _ _ _, Kd.R_nil _ _ _ _ _, Kd.R_nil _ _ _ _ _⟩, B9.out⟩
end Go.Proofs.Ytpanefmemabckaa.GenReads
namespace Go.Proofs.Ytpanefmemabckaa.GenReadsR
open Go.RowKit Go.Proofs.Ytpanefmemabckaa.NumA Go.Proofs.Ytpanefmemabckaa.NumMath Go.Proofs.Ytpanefmemabckaa.Bytes Go.Proofs.Ytpanefmemabckaa.GenS Go.Proofs.Ytpanefmemabckaa.GenRep Go.Proofs.Ytpanefmemabckaa.GenBlk Go.Proofs.Ytpanefmemabckaa.GenPure Go.Proofs.Ytpanefmemabckaa.GenMath Go.Proofs.Ytpanefmemabckaa.GenRaw Go.Proofs.Ytpanefmemabckaa.GenPuts Go.Proofs.YtpanefmemabckaaW.PrintWords Go.Proofs.YtpanefmemabckaaW.PrintLast
open Go.Proofs.Ytpanefmemabckaa.GenGetR (get1 row_calls)
open Go.Proofs.Ytpanefmemabckaa.GenReadHR (half_calls)
open Go.Proofs.Ytpanefmemabckaa.GenMayR (refmay_calls)
open Go.Proofs.Ytpanefmemabckaa.GenGet (Src Rd Went Rd.held)
open Go.Proofs.Ytpanefmemabckaa.GenReadH (row_other grown_new)
open Go.Proofs.Ytpanefmemabckaa.GenZero (heap_new blk_kept blk_drew1)
set_option linter.unusedSimpArgs false
set_option linter.unusedVariables false

open Go.Proofs.Ytpanefmemabckaa.GenReads (RG RG.start)
set_option maxRecDepth 100000 in
set_option maxHeartbeats 16000000 in
theorem read_calls {W : World} {A : Option Addr} {c : Nat} {l : List Nat} (S : Src W A c l) :
    Calls Try.prog 38 #[.slice A (ofN l).length c] W fun x w' => ∃ t1 t2 t3 t4 t5 t6, x = .returned (.tuple #[genV (genR l).1 t1 t2 t3 t4 t5 t6, .int .i64 (genR l).2]) ∧ GenR w' W.heap.size (genR l).1 t1 t2 t3 t4 t5 t6 ∧ Below W.heap.size W w' := by
  have SR := Aside0.mk S
  have RW := Aside0.mk (raw_w S.b)
  have RL := Aside0.mk (raw_l S.b S.m)
  obtain ⟨HA, hA⟩ : ∃ K, K = halfS l (0, 0) := ⟨_, rfl⟩
  obtain ⟨HB, hB⟩ : ∃ K, K = halfS l (HA.at_, HA.e) := ⟨_, rfl⟩
  obtain ⟨Q, hQ⟩ : ∃ K, K = rowS l (HB.at_, HB.e) := ⟨_, rfl⟩
  obtain ⟨q, a3, e3⟩ := Q
  obtain ⟨P, hP⟩ : ∃ K, K = rowS l (a3, e3) := ⟨_, rfl⟩
  obtain ⟨pp, a4, e4⟩ := P
  obtain ⟨X, hX⟩ : ∃ K, K = getS l (a4, e4) 1 := ⟨_, rfl⟩
  obtain ⟨x, a5, e5⟩ := X
  obtain ⟨Y, hY⟩ : ∃ K, K = getS l (a5, e5) 1 := ⟨_, rfl⟩
  obtain ⟨y, a6, e6⟩ := Y
  obtain ⟨V, hV⟩ : ∃ K, K = getS l (a6, e6) 1 := ⟨_, rfl⟩
  obtain ⟨z, a7, e7⟩ := V
  have RE := Aside0.mk (show rawR l = ⟨⟨HA.k, HA.v, HA.c, HB.k, HB.v, HB.c, ofN q, ofN pp, decide ((x : Int) = 1), (y : Nat), (z : Nat)⟩, x, a7, e7⟩ from by
    have ed : decide (x = 1) = decide ((x : Int) = 1) := by
      by_cases h : x = 1
      · subst h; rfl
      · rw [decide_eq_false h, decide_eq_false (by omega)]
    unfold rawR
    simp only [← hA, ← hB, ← hQ, ← hP, ← hX, ← hY, ← hV, ed])
  have A1 := Aside0.mk (show HA.at_ ≤ l.length from by rw [hA]; exact halfS_le (Nat.zero_le _))
  have A2 := Aside0.mk (show HB.at_ ≤ l.length from by rw [hB]; exact halfS_le A1.out)
  have A3 := Aside0.mk (show a3 ≤ l.length from by have h := rowS_le (st := (HB.at_, HB.e)) A2.out; rw [← hQ] at h; exact h)
  have A4 := Aside0.mk (show a4 ≤ l.length from by have h := rowS_le (st := (a3, e3)) A3.out; rw [← hP] at h; exact h)
  have A5 := Aside0.mk (show a5 ≤ l.length from by have h := getS_le (s := 1) (st := (a4, e4)) A4.out; rw [← hX] at h; exact h)
  have A6 := Aside0.mk (show a6 ≤ l.length from by have h := getS_le (s := 1) (st := (a5, e5)) A5.out; rw [← hY] at h; exact h)
  have A7 := Aside0.mk (show a7 ≤ l.length from by have h := getS_le (s := 1) (st := (a6, e6)) A6.out; rw [← hV] at h; exact h)
  have X8 := Aside0.mk (show x < 256 from by have h := getS_ltn S.b (a4, e4) 1; rw [← hX] at h; exact h)
  have Y8 := Aside0.mk (show y < 256 from by have h := getS_ltn S.b (a5, e5) 1; rw [← hY] at h; exact h)
  have Z8 := Aside0.mk (show z < 256 from by have h := getS_ltn S.b (a6, e6) 1; rw [← hV] at h; exact h)
  have IA := Aside0.mk hA
  have IB := Aside0.mk hB
  have IQ := Aside0.mk hQ
  have IP := Aside0.mk hP
  have IX := Aside0.mk hX
  have IY := Aside0.mk hY
  have IV := Aside0.mk hV
  obtain ⟨p, hp⟩ : ∃ p, p = W.heap.size := ⟨_, rfl⟩
  have H0 := Aside0.mk (RG.start 104 W hp A c l)
  have EP := Aside0.mk hp
  clear hA hB hQ hP hX hY hV hp S
  go_enter Try.func38, Try.ntmps38
  go_upto_region 3 with fail
  change Code.wp _ _ _ _ (((W.alloc (genO G0 (.slice none 0 0) (.slice none 0 0) (.slice none 0 0) (.slice none 0 0) (.slice none 0 0) (.slice none 0 0))).alloc (.cells #[.slice A (ofN l).length c, .int .i64 0, .int .i64 0] 104)).alloc (genO G0 (.slice none 0 0) (.slice none 0 0) (.slice none 0 0) (.slice none 0 0) (.slice none 0 0) (.slice none 0 0)))
  rw [← EP.out]
  generalize ((W.alloc (genO G0 (.slice none 0 0) (.slice none 0 0) (.slice none 0 0) (.slice none 0 0) (.slice none 0 0) (.slice none 0 0))).alloc (.cells #[.slice A (ofN l).length c, .int .i64 0, .int .i64 0] 104)).alloc (genO G0 (.slice none 0 0) (.slice none 0 0) (.slice none 0 0) (.slice none 0 0) (.slice none 0 0) (.slice none 0 0)) = W1 at H0 ⊢
  clear EP
  go_wp2_with fail
  refine (half_calls (a := 0) (e := 0) SR.out H0.out.d (Nat.zero_le _)).mono ?_
  rintro x_ w1 ⟨u1, v1, rfl, h1, h2, hw⟩
  rw [← IA.out] at h1 h2 hw ⊢
  have H1 := Aside0.mk (H0.out.step (by decide) hw)
  obtain ⟨B1, m1, rfl⟩ := Kd.R_slice h1
  obtain ⟨C1, n1, rfl⟩ := Kd.R_slice h2
  have O1 := Aside0.mk h1
  have O2 := Aside0.mk h2
  clear hw h1 h2 H0
  obtain ⟨c0, c1, c2, c3, c4, c5, c6, c7, c8, c9, c10⟩ := heldG H1.out.k
  have f0 := blk_frozen H1.out.k 0
  have f1 := blk_frozen H1.out.k 1
  have f2 := blk_frozen H1.out.k 2
  go_upto_region 4 with fail
  clear c0 c1 c2 c3 c4 c5 c6 c7 c8 c9 c10 f0 f1 f2
  obtain ⟨w2, hW⟩ : ∃ V, V = put3 w1 (p + 2) 0 (.int .u32 HA.k) (.slice B1 HA.v.length m1) (.slice C1 HA.c.length n1) := ⟨_, rfl⟩
  have H2 := Aside0.mk (show RG 104 W w2 p A c l HA.at_ HA.e (⟨HA.k, HA.v, HA.c, 0, [], [], [], [], false, 0, 0⟩ : G) (.slice B1 HA.v.length m1) (.slice C1 HA.c.length n1) (.slice none 0 0) (.slice none 0 0) (.slice none 0 0) (.slice none 0 0) from by rw [hW]; exact H1.out.half1 O1.out O2.out HA.k)
  change Code.wp _ _ _ _ (put3 w1 (p + 2) 0 (.int .u32 HA.k) (.slice B1 HA.v.length m1) (.slice C1 HA.c.length n1))
  rw [← hW]
  clear hW H1
  clear O1 O2
  go_wp2_with fail
  refine (half_calls (a := HA.at_) (e := HA.e) SR.out H2.out.d A1.out).mono ?_
  rintro x_ w3 ⟨u2, v2, rfl, h1, h2, hw⟩
  rw [← IB.out] at h1 h2 hw ⊢
  have H3 := Aside0.mk (H2.out.step (by decide) hw)
  obtain ⟨B2, m2, rfl⟩ := Kd.R_slice h1
  obtain ⟨C2, n2, rfl⟩ := Kd.R_slice h2
  have O1 := Aside0.mk h1
  have O2 := Aside0.mk h2
  clear hw h1 h2 H2
  obtain ⟨c0, c1, c2, c3, c4, c5, c6, c7, c8, c9, c10⟩ := heldG H3.out.k
  have f3 := blk_frozen H3.out.k 3
  have f4 := blk_frozen H3.out.k 4
  have f5 := blk_frozen H3.out.k 5
  go_upto_region 5 with fail
  clear c0 c1 c2 c3 c4 c5 c6 c7 c8 c9 c10 f3 f4 f5
  obtain ⟨w4, hW⟩ : ∃ V, V = put3 w3 (p + 2) 3 (.int .u32 HB.k) (.slice B2 HB.v.length m2) (.slice C2 HB.c.length n2) := ⟨_, rfl⟩
  have H4 := Aside0.mk (show RG 104 W w4 p A c l HB.at_ HB.e (⟨HA.k, HA.v, HA.c, HB.k, HB.v, HB.c, [], [], false, 0, 0⟩ : G) (.slice B1 HA.v.length m1) (.slice C1 HA.c.length n1) (.slice B2 HB.v.length m2) (.slice C2 HB.c.length n2) (.slice none 0 0) (.slice none 0 0) from by rw [hW]; exact H3.out.half2 O1.out O2.out HB.k)
  change Code.wp _ _ _ _ (put3 w3 (p + 2) 3 (.int .u32 HB.k) (.slice B2 HB.v.length m2) (.slice C2 HB.c.length n2))
  rw [← hW]
  clear hW H3
  clear O1 O2
  go_wp2_with fail
  refine (row_calls (a := HB.at_) (e := HB.e) SR.out H4.out.d A2.out).mono ?_
  rintro x_ w5 ⟨u5, rfl, h1, hw⟩
  rw [← IQ.out] at h1 hw
  have H5 := Aside0.mk (H4.out.step (by decide) hw)
  obtain ⟨B5, m5, rfl⟩ := Kd.R_slice h1
  have O1 := Aside0.mk h1
  clear hw h1 H4
  obtain ⟨c0, c1, c2, c3, c4, c5, c6, c7, c8, c9, c10⟩ := heldG H5.out.k
  have f6 := blk_frozen H5.out.k 6
  go_upto_region 6 with fail
  clear c0 c1 c2 c3 c4 c5 c6 c7 c8 c9 c10 f6
  obtain ⟨w6, hW⟩ : ∃ V, V = w5.setCell ⟨p + 2, 6, none⟩ (.slice B5 (ofN q).length m5) := ⟨_, rfl⟩
  have H6 := Aside0.mk (show RG 104 W w6 p A c l a3 e3 (⟨HA.k, HA.v, HA.c, HB.k, HB.v, HB.c, ofN q, [], false, 0, 0⟩ : G) (.slice B1 HA.v.length m1) (.slice C1 HA.c.length n1) (.slice B2 HB.v.length m2) (.slice C2 HB.c.length n2) (.slice B5 (ofN q).length m5) (.slice none 0 0) from by rw [hW]; exact H5.out.row6 O1.out)
  change Code.wp _ _ _ _ (w5.setCell ⟨p + 2, 6, none⟩ (.slice B5 (ofN q).length m5))
  rw [← hW]
  clear hW H5
  clear O1
  go_wp2_with fail
  refine (row_calls (a := a3) (e := e3) SR.out H6.out.d A3.out).mono ?_
  rintro x_ w7 ⟨u6, rfl, h1, hw⟩
  rw [← IP.out] at h1 hw
  have H7 := Aside0.mk (H6.out.step (by decide) hw)
  obtain ⟨B6, m6, rfl⟩ := Kd.R_slice h1
  have O1 := Aside0.mk h1
  clear hw h1 H6
  obtain ⟨c0, c1, c2, c3, c4, c5, c6, c7, c8, c9, c10⟩ := heldG H7.out.k
  have f7 := blk_frozen H7.out.k 7
  go_upto_region 7 with fail
  clear c0 c1 c2 c3 c4 c5 c6 c7 c8 c9 c10 f7
  obtain ⟨w8, hW⟩ : ∃ V, V = w7.setCell ⟨p + 2, 7, none⟩ (.slice B6 (ofN pp).length m6) := ⟨_, rfl⟩
  have H8 := Aside0.mk (show RG 104 W w8 p A c l a4 e4 (⟨HA.k, HA.v, HA.c, HB.k, HB.v, HB.c, ofN q, ofN pp, false, 0, 0⟩ : G) (.slice B1 HA.v.length m1) (.slice C1 HA.c.length n1) (.slice B2 HB.v.length m2) (.slice C2 HB.c.length n2) (.slice B5 (ofN q).length m5) (.slice B6 (ofN pp).length m6) from by rw [hW]; exact H7.out.row7 O1.out)
  change Code.wp _ _ _ _ (w7.setCell ⟨p + 2, 7, none⟩ (.slice B6 (ofN pp).length m6))
  rw [← hW]
  clear hW H7
  clear O1
  go_wp2_with fail
  refine (get1 (a := a4) (e := e4) SR.out H8.out.d A4.out).mono ?_
  rintro x_ w9 ⟨rfl, hw⟩
  rw [← IX.out] at hw ⊢
  have H9 := Aside0.mk (H8.out.step (by decide) hw)
  clear hw H8
  obtain ⟨c0, c1, c2, c3, c4, c5, c6, c7, c8, c9, c10⟩ := heldG H9.out.k
  have f8 := blk_frozen H9.out.k 8
  go_upto_region 9 with fail
  clear c0 c1 c2 c3 c4 c5 c6 c7 c8 c9 c10 f8
  obtain ⟨w10, hW⟩ : ∃ V, V = w9.setCell ⟨p + 2, 8, none⟩ (.bool (decide ((x : Int) = 1))) := ⟨_, rfl⟩
  have H10 := Aside0.mk (show RG 104 W w10 p A c l a5 e5 (⟨HA.k, HA.v, HA.c, HB.k, HB.v, HB.c, ofN q, ofN pp, decide ((x : Int) = 1), 0, 0⟩ : G) (.slice B1 HA.v.length m1) (.slice C1 HA.c.length n1) (.slice B2 HB.v.length m2) (.slice C2 HB.c.length n2) (.slice B5 (ofN q).length m5) (.slice B6 (ofN pp).length m6) from by rw [hW]; exact H9.out.ls8 (decide ((x : Int) = 1)))
  change Code.wp _ _ _ _ (w9.setCell ⟨p + 2, 8, none⟩ (.bool (decide ((x : Int) = 1))))
  rw [← hW]
  clear hW H9
  go_wp2_with fail
  refine (get1 (a := a5) (e := e5) SR.out H10.out.d A5.out).mono ?_
  rintro x_ w11 ⟨rfl, hw⟩
  rw [← IY.out] at hw ⊢
  have H11 := Aside0.mk (H10.out.step (by decide) hw)
  clear hw H10
  have y9 : y ≤ 255 := by have := Y8.out; omega
  have wy : (y : Int) % 256 = (y : Int) := by omega
  obtain ⟨c0, c1, c2, c3, c4, c5, c6, c7, c8, c9, c10⟩ := heldG H11.out.k
  have f9 := blk_frozen H11.out.k 9
  go_upto_region 10 with fail
  clear c0 c1 c2 c3 c4 c5 c6 c7 c8 c9 c10 f9
  clear y9 wy
  obtain ⟨w12, hW⟩ : ∃ V, V = w11.setCell ⟨p + 2, 9, none⟩ (.int .u8 (y : Int)) := ⟨_, rfl⟩
  have H12 := Aside0.mk (show RG 104 W w12 p A c l a6 e6 (⟨HA.k, HA.v, HA.c, HB.k, HB.v, HB.c, ofN q, ofN pp, decide ((x : Int) = 1), (y : Int), 0⟩ : G) (.slice B1 HA.v.length m1) (.slice C1 HA.c.length n1) (.slice B2 HB.v.length m2) (.slice C2 HB.c.length n2) (.slice B5 (ofN q).length m5) (.slice B6 (ofN pp).length m6) from by rw [hW]; exact H11.out.su9 (y : Int))
  change Code.wp _ _ _ _ (w11.setCell ⟨p + 2, 9, none⟩ (.int .u8 (y : Int)))
  rw [← hW]
  clear hW H11
  go_wp2_with fail
  refine (get1 (a := a6) (e := e6) SR.out H12.out.d A6.out).mono ?_
  rintro x_ w13 ⟨rfl, hw⟩
  rw [← IV.out] at hw ⊢
  have H13 := Aside0.mk (H12.out.step (by decide) hw)
  clear hw H12
  have y9 : z ≤ 255 := by have := Z8.out; omega
  have wy : (z : Int) % 256 = (z : Int) := by omega
  obtain ⟨c0, c1, c2, c3, c4, c5, c6, c7, c8, c9, c10⟩ := heldG H13.out.k
  have f10 := blk_frozen H13.out.k 10
  go_upto_region 11 with fail
  clear c0 c1 c2 c3 c4 c5 c6 c7 c8 c9 c10 f10
  clear y9 wy
  obtain ⟨w14, hW⟩ : ∃ V, V = w13.setCell ⟨p + 2, 10, none⟩ (.int .u8 (z : Int)) := ⟨_, rfl⟩
  have H14 := Aside0.mk (show RG 104 W w14 p A c l a7 e7 (⟨HA.k, HA.v, HA.c, HB.k, HB.v, HB.c, ofN q, ofN pp, decide ((x : Int) = 1), (y : Int), (z : Int)⟩ : G) (.slice B1 HA.v.length m1) (.slice C1 HA.c.length n1) (.slice B2 HB.v.length m2) (.slice C2 HB.c.length n2) (.slice B5 (ofN q).length m5) (.slice B6 (ofN pp).length m6) from by rw [hW]; exact H13.out.wi10 (z : Int))
  change Code.wp _ _ _ _ (w13.setCell ⟨p + 2, 10, none⟩ (.int .u8 (z : Int)))
  rw [← hW]
  clear hW H13
  obtain ⟨d1, d2⟩ := H14.out.rd
  by_cases he : e7 = 0
  · subst he
    by_cases hx : 1 < x
    · have hx' : (1 : Int) < (x : Int) := by omega
      obtain ⟨c0, c1, c2, c3, c4, c5, c6, c7, c8, c9, c10⟩ := heldG H14.out.z
      have f0 := blk_frozen H14.out.z 0
      have f1 := blk_frozen H14.out.z 1
      have f2 := blk_frozen H14.out.z 2
      have f3 := blk_frozen H14.out.z 3
      have f4 := blk_frozen H14.out.z 4
      have f5 := blk_frozen H14.out.z 5
      have f6 := blk_frozen H14.out.z 6
      have f7 := blk_frozen H14.out.z 7
      have f8 := blk_frozen H14.out.z 8
      have f9 := blk_frozen H14.out.z 9
      have f10 := blk_frozen H14.out.z 10
      go_wp2_with fail
      clear c0 c1 c2 c3 c4 c5 c6 c7 c8 c9 c10 f0 f1 f2 f3 f4 f5 f6 f7 f8 f9 f10
      obtain ⟨wz, hW⟩ : ∃ V, V = put11 w14 p (.int .u32 0) (.slice none 0 0) (.slice none 0 0) (.int .u32 0) (.slice none 0 0) (.slice none 0 0) (.slice none 0 0) (.slice none 0 0) (.bool false) (.int .u8 0) (.int .u8 0) := ⟨_, rfl⟩
      have P9 := Aside0.mk (show wz.heap[p]? = some (genO G0 (.slice none 0 0) (.slice none 0 0) (.slice none 0 0) (.slice none 0 0) (.slice none 0 0) (.slice none 0 0)) from by rw [hW]; exact put11_self (g' := G0) H14.out.z _ _ _ _ _ _)
      have B9 := Aside0.mk (show Below W.heap.size W wz from by rw [hW]; exact put11_below H14.out.d.b (by have := H14.out.h; omega) _ _ _ _ _ _ _ _ _ _ _)
      change bodyPost _ _ _ _ _ (put11 w14 p (.int .u32 0) (.slice none 0 0) (.slice none 0 0) (.int .u32 0) (.slice none 0 0) (.slice none 0 0) (.slice none 0 0) (.slice none 0 0) (.bool false) (.int .u8 0) (.int .u8 0))
      rw [← hW]
      clear hW
      obtain ⟨c0, c1, c2, c3, c4, c5, c6, c7, c8, c9, c10⟩ := heldG P9.out
      refine bodyPost_ret (v := .tuple #[genV G0 (.slice none 0 0) (.slice none 0 0) (.slice none 0 0) (.slice none 0 0) (.slice none 0 0) (.slice none 0 0), .int .i64 5]) (by simp [results, Try.results38, go_sem, c0, c1, c2, c3, c4, c5, c6, c7, c8, c9, c10]) rfl ?_
      rw [show genR l = (G0, 5) from by unfold genR; rw [RE.out]; rw [if_pos rfl, if_pos (.inl hx)]]
      exact ⟨_, _, _, _, _, _, rfl, ⟨Kd.R_nil _ _ _ _ _, Kd.R_nil _ _ _ _ _, Kd.R_nil _ _ _ _ _, Kd.R_nil _ _ _ _ _, Kd.R_nil _ _ _ _ _, Kd.R_nil _ _ _ _ _⟩, B9.out⟩
    · have hx' : ¬ (1 : Int) < (x : Int) := by omega
      by_cases ha : a7 < l.length
      · have ha' : (a7 : Int) < ((ofN l).length : Int) := by rw [ofN_length]; omega
        have hb' : ((a7 : Int) != ((ofN l).length : Int)) = true := bne_iff_ne.mpr (by omega)
        obtain ⟨c0, c1, c2, c3, c4, c5, c6, c7, c8, c9, c10⟩ := heldG H14.out.z
        have f0 := blk_frozen H14.out.z 0
        have f1 := blk_frozen H14.out.z 1
        have f2 := blk_frozen H14.out.z 2
        have f3 := blk_frozen H14.out.z 3
        have f4 := blk_frozen H14.out.z 4
        have f5 := blk_frozen H14.out.z 5
        have f6 := blk_frozen H14.out.z 6
        have f7 := blk_frozen H14.out.z 7
        have f8 := blk_frozen H14.out.z 8
        have f9 := blk_frozen H14.out.z 9
        have f10 := blk_frozen H14.out.z 10
        go_wp2_with fail
        clear c0 c1 c2 c3 c4 c5 c6 c7 c8 c9 c10 f0 f1 f2 f3 f4 f5 f6 f7 f8 f9 f10
        obtain ⟨wz, hW⟩ : ∃ V, V = put11 w14 p (.int .u32 0) (.slice none 0 0) (.slice none 0 0) (.int .u32 0) (.slice none 0 0) (.slice none 0 0) (.slice none 0 0) (.slice none 0 0) (.bool false) (.int .u8 0) (.int .u8 0) := ⟨_, rfl⟩
        have P9 := Aside0.mk (show wz.heap[p]? = some (genO G0 (.slice none 0 0) (.slice none 0 0) (.slice none 0 0) (.slice none 0 0) (.slice none 0 0) (.slice none 0 0)) from by rw [hW]; exact put11_self (g' := G0) H14.out.z _ _ _ _ _ _)
        have B9 := Aside0.mk (show Below W.heap.size W wz from by rw [hW]; exact put11_below H14.out.d.b (by have := H14.out.h; omega) _ _ _ _ _ _ _ _ _ _ _)
        change bodyPost _ _ _ _ _ (put11 w14 p (.int .u32 0) (.slice none 0 0) (.slice none 0 0) (.int .u32 0) (.slice none 0 0) (.slice none 0 0) (.slice none 0 0) (.slice none 0 0) (.bool false) (.int .u8 0) (.int .u8 0))
        rw [← hW]
        clear hW
        obtain ⟨c0, c1, c2, c3, c4, c5, c6, c7, c8, c9, c10⟩ := heldG P9.out
        refine bodyPost_ret (v := .tuple #[genV G0 (.slice none 0 0) (.slice none 0 0) (.slice none 0 0) (.slice none 0 0) (.slice none 0 0) (.slice none 0 0), .int .i64 5]) (by simp [results, Try.results38, go_sem, c0, c1, c2, c3, c4, c5, c6, c7, c8, c9, c10]) rfl ?_
        rw [show genR l = (G0, 5) from by unfold genR; rw [RE.out]; rw [if_pos rfl, if_pos (.inr (.inl ha))]]
        exact ⟨_, _, _, _, _, _, rfl, ⟨Kd.R_nil _ _ _ _ _, Kd.R_nil _ _ _ _ _, Kd.R_nil _ _ _ _ _, Kd.R_nil _ _ _ _ _, Kd.R_nil _ _ _ _ _, Kd.R_nil _ _ _ _ _⟩, B9.out⟩
      · have ha' : ¬ (a7 : Int) < ((ofN l).length : Int) := by rw [ofN_length]; omega
        have hb' : ((a7 : Int) != ((ofN l).length : Int)) = false := by have := A7.out; have e : (a7 : Int) = ((ofN l).length : Int) := (by rw [ofN_length]; omega); rw [e]; simp
        obtain ⟨c0, c1, c2, c3, c4, c5, c6, c7, c8, c9, c10⟩ := heldG H14.out.k
        have GL := RL.out
        have GW := RW.out
        rw [RE.out] at GL GW
        go_wp2_with fail
        refine (refmay_calls (GenC.of H14.out.o) GL GW).mono ?_
        rintro x_ wm ⟨rfl, hb⟩
        have HM := Aside0.mk (H14.out.below hb)
        clear hb GL GW c0 c1 c2 c3 c4 c5 c6 c7 c8 c9 c10 d1 d2
        obtain ⟨b, hmb⟩ : ∃ b, b = mayB (⟨HA.k, HA.v, HA.c, HB.k, HB.v, HB.c, ofN q, ofN pp, decide ((x : Int) = 1), (y : Int), (z : Int)⟩ : G) := ⟨_, rfl⟩
        rw [← hmb]
        cases b
        · have MB := Aside0.mk hmb.symm
          clear hmb
          obtain ⟨c0, c1, c2, c3, c4, c5, c6, c7, c8, c9, c10⟩ := heldG HM.out.z
          have f0 := blk_frozen HM.out.z 0
          have f1 := blk_frozen HM.out.z 1
          have f2 := blk_frozen HM.out.z 2
          have f3 := blk_frozen HM.out.z 3
          have f4 := blk_frozen HM.out.z 4
          have f5 := blk_frozen HM.out.z 5
          have f6 := blk_frozen HM.out.z 6
          have f7 := blk_frozen HM.out.z 7
          have f8 := blk_frozen HM.out.z 8
          have f9 := blk_frozen HM.out.z 9
          have f10 := blk_frozen HM.out.z 10
          go_wp2_with fail
          clear c0 c1 c2 c3 c4 c5 c6 c7 c8 c9 c10 f0 f1 f2 f3 f4 f5 f6 f7 f8 f9 f10
          obtain ⟨wz, hW⟩ : ∃ V, V = put11 wm p (.int .u32 0) (.slice none 0 0) (.slice none 0 0) (.int .u32 0) (.slice none 0 0) (.slice none 0 0) (.slice none 0 0) (.slice none 0 0) (.bool false) (.int .u8 0) (.int .u8 0) := ⟨_, rfl⟩
          have P9 := Aside0.mk (show wz.heap[p]? = some (genO G0 (.slice none 0 0) (.slice none 0 0) (.slice none 0 0) (.slice none 0 0) (.slice none 0 0) (.slice none 0 0)) from by rw [hW]; exact put11_self (g' := G0) HM.out.z _ _ _ _ _ _)
          have B9 := Aside0.mk (show Below W.heap.size W wz from by rw [hW]; exact put11_below HM.out.d.b (by have := HM.out.h; omega) _ _ _ _ _ _ _ _ _ _ _)
          change bodyPost _ _ _ _ _ (put11 wm p (.int .u32 0) (.slice none 0 0) (.slice none 0 0) (.int .u32 0) (.slice none 0 0) (.slice none 0 0) (.slice none 0 0) (.slice none 0 0) (.bool false) (.int .u8 0) (.int .u8 0))
          rw [← hW]
          clear hW
          obtain ⟨c0, c1, c2, c3, c4, c5, c6, c7, c8, c9, c10⟩ := heldG P9.out
          refine bodyPost_ret (v := .tuple #[genV G0 (.slice none 0 0) (.slice none 0 0) (.slice none 0 0) (.slice none 0 0) (.slice none 0 0) (.slice none 0 0), .int .i64 5]) (by simp [results, Try.results38, go_sem, c0, c1, c2, c3, c4, c5, c6, c7, c8, c9, c10]) rfl ?_
          rw [show genR l = (G0, 5) from by unfold genR; rw [RE.out]; rw [if_pos rfl, if_pos (.inr (.inr MB.out))]]
          exact ⟨_, _, _, _, _, _, rfl, ⟨Kd.R_nil _ _ _ _ _, Kd.R_nil _ _ _ _ _, Kd.R_nil _ _ _ _ _, Kd.R_nil _ _ _ _ _, Kd.R_nil _ _ _ _ _, Kd.R_nil _ _ _ _ _⟩, B9.out⟩
        · have MB := Aside0.mk hmb.symm
          clear hmb
          obtain ⟨c0, c1, c2, c3, c4, c5, c6, c7, c8, c9, c10⟩ := heldG HM.out.k
          have g0 := blk_frozen HM.out.z 0
          have g1 := blk_frozen HM.out.z 1
          have g2 := blk_frozen HM.out.z 2
          have g3 := blk_frozen HM.out.z 3
          have g4 := blk_frozen HM.out.z 4
          have g5 := blk_frozen HM.out.z 5
          have g6 := blk_frozen HM.out.z 6
          have g7 := blk_frozen HM.out.z 7
          have g8 := blk_frozen HM.out.z 8
          have g9 := blk_frozen HM.out.z 9
          have g10 := blk_frozen HM.out.z 10
          have ⟨e0, e1, e2, e3, e4, e5, e6, e7, e8, e9, e10⟩ := heldG HM.out.z
          go_wp2_with fail
          clear c0 c1 c2 c3 c4 c5 c6 c7 c8 c9 c10 g0 g1 g2 g3 g4 g5 g6 g7 g8 g9 g10 e0 e1 e2 e3 e4 e5 e6 e7 e8 e9 e10
          obtain ⟨wz, hW⟩ : ∃ V, V = put11 wm p (.int .u32 HA.k) (.slice B1 HA.v.length m1) (.slice C1 HA.c.length n1) (.int .u32 HB.k) (.slice B2 HB.v.length m2) (.slice C2 HB.c.length n2) (.slice B5 (ofN q).length m5) (.slice B6 (ofN pp).length m6) (.bool (decide ((x : Int) = 1))) (.int .u8 (y : Int)) (.int .u8 (z : Int)) := ⟨_, rfl⟩
          have P9 := Aside0.mk (show wz.heap[p]? = some (genO (⟨HA.k, HA.v, HA.c, HB.k, HB.v, HB.c, ofN q, ofN pp, decide ((x : Int) = 1), (y : Int), (z : Int)⟩ : G) (.slice B1 HA.v.length m1) (.slice C1 HA.c.length n1) (.slice B2 HB.v.length m2) (.slice C2 HB.c.length n2) (.slice B5 (ofN q).length m5) (.slice B6 (ofN pp).length m6)) from by rw [hW]; exact put11_self (g' := (⟨HA.k, HA.v, HA.c, HB.k, HB.v, HB.c, ofN q, ofN pp, decide ((x : Int) = 1), (y : Int), (z : Int)⟩ : G)) HM.out.z _ _ _ _ _ _)
          have O9 := Aside0.mk (show GenR wz W.heap.size (⟨HA.k, HA.v, HA.c, HB.k, HB.v, HB.c, ofN q, ofN pp, decide ((x : Int) = 1), (y : Int), (z : Int)⟩ : G) (.slice B1 HA.v.length m1) (.slice C1 HA.c.length n1) (.slice B2 HB.v.length m2) (.slice C2 HB.c.length n2) (.slice B5 (ofN q).length m5) (.slice B6 (ofN pp).length m6) from by rw [hW]; exact put11_rows HM.out.o HM.out.z _ _ _ _ _ _ _ _ _ _ _)
          have B9 := Aside0.mk (show Below W.heap.size W wz from by rw [hW]; exact put11_below HM.out.d.b (by have := HM.out.h; omega) _ _ _ _ _ _ _ _ _ _ _)
          change bodyPost _ _ _ _ _ (put11 wm p (.int .u32 HA.k) (.slice B1 HA.v.length m1) (.slice C1 HA.c.length n1) (.int .u32 HB.k) (.slice B2 HB.v.length m2) (.slice C2 HB.c.length n2) (.slice B5 (ofN q).length m5) (.slice B6 (ofN pp).length m6) (.bool (decide ((x : Int) = 1))) (.int .u8 (y : Int)) (.int .u8 (z : Int)))
          rw [← hW]
          clear hW
          obtain ⟨c0, c1, c2, c3, c4, c5, c6, c7, c8, c9, c10⟩ := heldG P9.out
          refine bodyPost_ret (v := .tuple #[genV (⟨HA.k, HA.v, HA.c, HB.k, HB.v, HB.c, ofN q, ofN pp, decide ((x : Int) = 1), (y : Int), (z : Int)⟩ : G) (.slice B1 HA.v.length m1) (.slice C1 HA.c.length n1) (.slice B2 HB.v.length m2) (.slice C2 HB.c.length n2) (.slice B5 (ofN q).length m5) (.slice B6 (ofN pp).length m6), .int .i64 0]) (by simp [results, Try.results38, go_sem, c0, c1, c2, c3, c4, c5, c6, c7, c8, c9, c10]) rfl ?_
          rw [show genR l = ((⟨HA.k, HA.v, HA.c, HB.k, HB.v, HB.c, ofN q, ofN pp, decide ((x : Int) = 1), (y : Int), (z : Int)⟩ : G), 0) from by unfold genR; rw [RE.out]; rw [if_pos rfl, if_neg (by simp only [not_or]; exact ⟨hx, ha, by rw [MB.out]; simp⟩)]]
          exact ⟨_, _, _, _, _, _, rfl, O9.out, B9.out⟩
  · have he' : (e7 != 0) = true := bne_iff_ne.mpr he
    obtain ⟨c0, c1, c2, c3, c4, c5, c6, c7, c8, c9, c10⟩ := heldG H14.out.z
    have f0 := blk_frozen H14.out.z 0
    have f1 := blk_frozen H14.out.z 1
    have f2 := blk_frozen H14.out.z 2
    have f3 := blk_frozen H14.out.z 3
    have f4 := blk_frozen H14.out.z 4
    have f5 := blk_frozen H14.out.z 5
    have f6 := blk_frozen H14.out.z 6
    have f7 := blk_frozen H14.out.z 7
    have f8 := blk_frozen H14.out.z 8
    have f9 := blk_frozen H14.out.z 9
    have f10 := blk_frozen H14.out.z 10
    go_upto_region 12 with fail
    have X2 := H14.out.rd
    refine start_ (n := 7) (S := (fun w' => w'.cell? ⟨p + 1, 1, none⟩ = some (.int .i64 (a7 : Int)) ∧ w'.cell? ⟨p + 1, 2, none⟩ = some (.int .i64 e7))) (ds := []) #[false, false, false, false, false, false, false] (by kernel_rfl) rfl rfl X2 (fun hHeld => ?_)
    have X3 := heldG H14.out.z
    have H14' := Aside0.mk (H14.out.below (below_of_drew w14))
    clear c0 c1 c2 c3 c4 c5 c6 c7 c8 c9 c10 f0 f1 f2 f3 f4 f5 f6 f7 f8 f9 f10 X3
    generalize w14.drew = w99 at H14' hHeld ⊢
    refine pure_ (i := 0) (N := some 40) (v := ?_) (a' := ?_) #[true, false, false, false, false, false, false] rfl rfl (by kernel_rfl) (fun _ _ _ h => h) (Or.inl ⟨by rfl, ?_⟩) ?_ ?_
    rotate_left
    · intro w'
      go_simp
      with_reducible rfl
    rotate_left
    · simp only [Act.put, List.setIfInBounds_toArray, List.set_cons_zero, List.set_cons_succ, i64_w, i32_w]
      rfl
    refine pure_ (i := 1) (N := some 41) (v := ?_) (a' := ?_) #[true, true, false, false, false, false, false] rfl rfl (by kernel_rfl) (fun _ _ _ h => h) (Or.inl ⟨by rfl, ?_⟩) ?_ ?_
    rotate_left
    · intro w'
      go_simp
      with_reducible rfl
    rotate_left
    · simp only [Act.put, List.setIfInBounds_toArray, List.set_cons_zero, List.set_cons_succ, i64_w, i32_w]
      rfl
    refine pure_ (i := 2) (N := some 42) (v := ?_) (a' := ?_) #[true, true, true, false, false, false, false] rfl rfl (by kernel_rfl) (fun _ _ _ h => h) (Or.inl ⟨by rfl, ?_⟩) ?_ ?_
    rotate_left
    · intro w'
      go_simp
      with_reducible rfl
    rotate_left
    · simp only [Act.put, List.setIfInBounds_toArray, List.set_cons_zero, List.set_cons_succ, i64_w, i32_w]
      rfl
    refine pure_ (i := 3) (N := some 43) (v := ?_) (a' := ?_) #[true, true, true, true, false, false, false] rfl rfl (by kernel_rfl) (fun _ _ _ h => h) (Or.inl ⟨by rfl, ?_⟩) ?_ ?_
    rotate_left
    · intro w'
      go_simp
      with_reducible rfl
    rotate_left
    · simp only [Act.put, List.setIfInBounds_toArray, List.set_cons_zero, List.set_cons_succ, i64_w, i32_w]
      rfl
    refine take_ (i := 4) (N := some 44) (v := ?_) (a' := ?_) #[true, true, true, true, true, false, false] rfl rfl (by kernel_rfl) (fun _ _ _ h => h) (Or.inl ⟨by rfl, ?_⟩) hHeld ?_ ?_
    rotate_left
    · rintro w' ⟨s_0, s_1⟩
      go_simp
      with_reducible rfl
    rotate_left
    · simp only [Act.put, List.setIfInBounds_toArray, List.set_cons_zero, List.set_cons_succ, i64_w, i32_w]
      rfl
    refine one_ (i := 5) (N := none) #[true, true, true, true, true, true, false] rfl rfl (by kernel_rfl) (by decide) (fun K hK => ?_)
    obtain ⟨c0, c1, c2, c3, c4, c5, c6, c7, c8, c9, c10⟩ := heldG H14'.out.z
    have f0 := blk_frozen H14'.out.z 0
    have f1 := blk_frozen H14'.out.z 1
    have f2 := blk_frozen H14'.out.z 2
    have f3 := blk_frozen H14'.out.z 3
    have f4 := blk_frozen H14'.out.z 4
    have f5 := blk_frozen H14'.out.z 5
    have f6 := blk_frozen H14'.out.z 6
    have f7 := blk_frozen H14'.out.z 7
    have f8 := blk_frozen H14'.out.z 8
    have f9 := blk_frozen H14'.out.z 9
    have f10 := blk_frozen H14'.out.z 10
    refine skip_ (w1 := ?_) (by rfl) rfl ?_ ?_
    rotate_left
    · go_simp
      rfl
    refine hK.out _ _ ⟨blk_cell (put11_far (r := p) H14'.out.d.k (by omega) _ _ _ _ _ _ _ _ _ _ _) 1, blk_cell (put11_far (r := p) H14'.out.d.k (by omega) _ _ _ _ _ _ _ _ _ _ _) 2⟩ (fun hHeld => ?_)
    clear hK K
    refine pure_ (i := 6) (N := some 3) (v := ?_) (a' := ?_) #[true, true, true, true, true, true, true] rfl rfl (by kernel_rfl) (fun _ _ _ h => h) (Or.inl ⟨by rfl, ?_⟩) ?_ ?_
    rotate_left
    · intro w'
      go_simp
      with_reducible rfl
    rotate_left
    · simp only [Act.put, List.setIfInBounds_toArray, List.set_cons_zero, List.set_cons_succ, i64_w, i32_w]
      rfl
    refine done_ (by kernel_rfl) ?_
    go_wp2_with fail
    clear c0 c1 c2 c3 c4 c5 c6 c7 c8 c9 c10 f0 f1 f2 f3 f4 f5 f6 f7 f8 f9 f10
    obtain ⟨wz, hW⟩ : ∃ V, V = put11 w99 p (.int .u32 0) (.slice none 0 0) (.slice none 0 0) (.int .u32 0) (.slice none 0 0) (.slice none 0 0) (.slice none 0 0) (.slice none 0 0) (.bool false) (.int .u8 0) (.int .u8 0) := ⟨_, rfl⟩
    have P9 := Aside0.mk (show wz.heap[p]? = some (genO G0 (.slice none 0 0) (.slice none 0 0) (.slice none 0 0) (.slice none 0 0) (.slice none 0 0) (.slice none 0 0)) from by rw [hW]; exact put11_self (g' := G0) H14'.out.z _ _ _ _ _ _)
    have B9 := Aside0.mk (show Below W.heap.size W wz from by rw [hW]; exact put11_below H14'.out.d.b (by have := H14'.out.h; omega) _ _ _ _ _ _ _ _ _ _ _)
    change bodyPost _ _ _ _ _ (put11 w99 p (.int .u32 0) (.slice none 0 0) (.slice none 0 0) (.int .u32 0) (.slice none 0 0) (.slice none 0 0) (.slice none 0 0) (.slice none 0 0) (.bool false) (.int .u8 0) (.int .u8 0))
    rw [← hW]
    clear hW
    obtain ⟨c0, c1, c2, c3, c4, c5, c6, c7, c8, c9, c10⟩ := heldG P9.out
    refine bodyPost_ret (v := .tuple #[genV G0 (.slice none 0 0) (.slice none 0 0) (.slice none 0 0) (.slice none 0 0) (.slice none 0 0) (.slice none 0 0), .int .i64 e7]) (by simp [results, Try.results38, go_sem, c0, c1, c2, c3, c4, c5, c6, c7, c8, c9, c10]) rfl ?_
    rw [show genR l = (G0, e7) from by unfold genR; rw [RE.out]; rw [if_neg he]]
    exact ⟨_, _, _, _, _, _, rfl, ⟨Kd.R_nil _ _ _ _ _, Kd.R_nil _ _ _ _ _, Kd.R_nil _ _ _ _ _, Kd.R_nil _ _ _ _ _, Kd.R_nil _ _ _ _ _, Kd.R_nil _ _ _ _ _⟩, B9.out⟩
end Go.Proofs.Ytpanefmemabckaa.GenReadsR
