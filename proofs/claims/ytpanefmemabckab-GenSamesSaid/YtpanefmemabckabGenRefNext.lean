/- The reference's Next of any Gen: the walk. -/
import Derived.Test.YtpanefmemabckabGenRep
namespace Go.Proofs.Ytpanefmemabckab.GenRefNext
open Go.RowKit Go.Proofs.Ytpanefmemabckab.NumA Go.Proofs.Ytpanefmemabckab.GenS Go.Proofs.Ytpanefmemabckab.GenRep Go.Proofs.Ytpanefmemabckab.GenBlk Go.Proofs.YtpanefmemabckabW.PrintWords Go.Proofs.YtpanefmemabckabW.PrintLast
open Go.Proofs.Ytpanefmemabckab.GenZero (heap_new blk_kept blk_drew1 Z)
open Go.Proofs.Ytpanefmemabckab.GenZeroC (heldZ)
set_option linter.unusedSimpArgs false

set_option maxRecDepth 100000 in
set_option maxHeartbeats 8000000 in
theorem refnext_other (g : G) (s1 s2 s3 s4 s5 s6 : Value) (how key : Int) (sv sa sq sp : Value) (view : List S58) (added : List S60) (rq rp : List Int) (w : World)
    (hg : GenC w g s1 s2 s3 s4 s5 s6) (hl : GenL g 400000) (hv : RowC kS w sv view) (ha : RowC kC w sa added) (hq : RowC kB w sq rq) (hp : RowC kB w sp rp) (h2 : how ≠ 2) (h4 : how ≠ 4) (lv : view.length ≤ 400000) (la : added.length ≤ 400000) (lq : rq.length ≤ 140737488351232) (lp : rp.length ≤ 140737488351232) :
    Calls Try.prog 31 #[genV g s1 s2 s3 s4 s5 s6, .int .u8 how, .int .u32 key, sv, sa, sq, sp] w fun e w' => ∃ t1 t2 t3 t4 t5 t6, e = .returned (genV (nextP how key view added rq rp g) t1 t2 t3 t4 t5 t6) ∧
      GenR w' w.heap.size (nextP how key view added rq rp g) t1 t2 t3 t4 t5 t6 ∧ Below w.heap.size w w' := by
  have H24 := Aside0.mk (And.intro h2 h4)
  clear h2 h4
  have hL := Aside0.mk hl
  have LV := Aside0.mk lv
  have LA := Aside0.mk la
  have LQ := Aside0.mk lq
  have LP := Aside0.mk lp
  have hpp := blk_alloc (heap_new w (genO g s1 s2 s3 s4 s5 s6)) Z
  have hqq := heap_new (w.alloc (genO g s1 s2 s3 s4 s5 s6)) Z
  have hB : Below w.heap.size w ((w.alloc (genO g s1 s2 s3 s4 s5 s6)).alloc Z) := ((Below.refl _ _).alloc (Nat.le_refl _) _).alloc (by simp) _
  rw [show (w.alloc (genO g s1 s2 s3 s4 s5 s6)).heap.size = w.heap.size + 1 from by simp] at hqq
  obtain ⟨p, hp'⟩ : ∃ p, p = w.heap.size := ⟨_, rfl⟩
  obtain ⟨W0, hW0⟩ : ∃ W0, W0 = (w.alloc (genO g s1 s2 s3 s4 s5 s6)).alloc Z := ⟨_, rfl⟩
  rw [← hW0] at hpp hqq hB
  rw [← hp'] at hpp hqq
  have EW := Aside0.mk hW0
  have EP := Aside0.mk hp'
  have P0 := Aside0.mk (blk_drew1 hpp)
  have P00 := Aside0.mk hpp
  have G00 := Aside0.mk (hg.below hB)
  have Q0 := Aside0.mk (blk_drew1 hqq)
  have B0 := Aside0.mk (below_drew1 hB)
  have BW0 := Aside0.mk (below_drew1 hB)
  have G0 := Aside0.mk (hg.below B0.out)
  have V0 := Aside0.mk (hv.below B0.out)
  have A0 := Aside0.mk (ha.below B0.out)
  have R0 := Aside0.mk (hq.below B0.out)
  have T0 := Aside0.mk (hp.below B0.out)
  obtain ⟨c0, c1, c2, c3, c4, c5, c6, c7, c8, c9, c10⟩ := heldG hpp
  clear hpp hqq hB hp' hW0 hg hv ha hq hp hl lv la lq lp
  go_enter Try.func31, Try.ntmps31
  go_upto_region 1 with fail
  change Code.wp _ _ _ _ ((w.alloc (genO g s1 s2 s3 s4 s5 s6)).alloc Z)
  rw [← EW.out, ← EP.out]
  go_cut [15] (fun v15 wc => ∃ (r : Nat) (t1 t2 t3 t4 t5 t6 : Value), v15 = .pointer (some ⟨r, 0, none⟩) ∧ Aside0 (wc.heap[r]? = some (genO g t1 t2 t3 t4 t5 t6)) ∧ Aside0 (GenR wc w.heap.size g t1 t2 t3 t4 t5 t6) ∧ Aside0 (wc.heap[p]? = some (genO g s1 s2 s3 s4 s5 s6)) ∧ Aside0 (wc.heap[p + 1]? = some Z) ∧ Aside0 (Below w.heap.size w wc))
  case first =>
    go_region_held3 (fun w' => w'.cell? ⟨p, 0, none⟩ = some (.int .u32 g.k1) ∧ w'.cell? ⟨p, 1, none⟩ = some s1 ∧ w'.cell? ⟨p, 2, none⟩ = some s2 ∧ w'.cell? ⟨p, 3, none⟩ = some (.int .u32 g.k2) ∧ w'.cell? ⟨p, 4, none⟩ = some s3 ∧ w'.cell? ⟨p, 5, none⟩ = some s4 ∧ w'.cell? ⟨p, 6, none⟩ = some s5 ∧ w'.cell? ⟨p, 7, none⟩ = some s6 ∧ w'.cell? ⟨p, 8, none⟩ = some (.bool g.ls) ∧ w'.cell? ⟨p, 9, none⟩ = some (.int .u8 g.su) ∧ w'.cell? ⟨p, 10, none⟩ = some (.int .u8 g.wi))
      (first
      | with_reducible exact ⟨c0, c1, c2, c3, c4, c5, c6, c7, c8, c9, c10⟩
      | with_reducible exact heldG P4.out
      | with_reducible exact heldG (blk_alloc P4.out _)
      | with_reducible exact heldG P3.out
      | with_reducible exact heldG (blk_alloc P3.out _)
      | with_reducible exact heldG P2.out
      | with_reducible exact heldG (blk_alloc P2.out _)
      | with_reducible exact heldG P1.out
      | with_reducible exact heldG (blk_alloc P1.out _)
      | with_reducible exact heldG P0.out
      | with_reducible exact heldG (blk_alloc P0.out _)
      | with_reducible exact heldG (blk_drew1 (blk_alloc P00.out _))
      | with_reducible exact heldG (put11_far P4.out NZ.out _ _ _ _ _ _ _ _ _ _ _)
      | with_reducible exact heldG (put11_far (blk_alloc P4.out _) (Nat.ne_of_lt (blk_lt P4.out)) _ _ _ _ _ _ _ _ _ _ _))
    (first
    | (go_at_call 56; (with_reducible refine (anew (k := g.k1) (by first | with_reducible exact G0.out.h1 | with_reducible exact G00.out.h1.below (below_drew1 (below_al _ _))) (by first | with_reducible exact G0.out.h2 | with_reducible exact G00.out.h2.below (below_drew1 (below_al _ _))) (Nat.le_trans hL.out.h1 (by decide)) (Nat.le_trans hL.out.h2 (by decide))).mono ?_); rintro e w1 ⟨t1, t2, rfl, h1, h2, hb⟩; have hB1 := Aside0.mk (show Below W0.drew.heap.size W0.drew w1 from by first | with_reducible exact hb | exact below_unalloc (w := W0.drew) (o := Z) hb); (try (have hb' := (show Below (W0.alloc Z).drew.heap.size (W0.alloc Z).drew w1 from (by with_reducible exact hb)); have QZ := Aside0.mk (show w1.heap[W0.heap.size]? = some Z from blk_kept (W := (W0.alloc Z).drew) (blk_drew1 (heap_new W0 Z)) hb'); have NZ := Aside0.mk (show p ≠ W0.heap.size from Nat.ne_of_lt (blk_lt P00.out)); have NY := Aside0.mk (show p + 1 ≠ W0.heap.size from Nat.ne_of_lt (blk_lt Q0.out)); have NR := Aside0.mk (show w.heap.size ≤ W0.heap.size from BW0.out.size); clear hb')); have P1 := Aside0.mk (blk_kept P0.out hB1.out); have Q1 := Aside0.mk (blk_kept Q0.out hB1.out); have BW1 := Aside0.mk (below_then BW0.out BW0.out.size hB1.out); have H1 := Aside0.mk (Kd.R_lower h1 (show w.heap.size ≤ _ from by first | with_reducible exact BW0.out.size | exact Nat.le_trans BW0.out.size (below_al W0.drew Z).size)); have H2 := Aside0.mk (Kd.R_lower h2 (show w.heap.size ≤ _ from by first | with_reducible exact BW0.out.size | exact Nat.le_trans BW0.out.size (below_al W0.drew Z).size)); clear hb h1 h2; obtain ⟨A1, n1, rfl⟩ := Kd.R_slice H1.out; obtain ⟨A2, n2, rfl⟩ := Kd.R_slice H2.out)
    | (go_at_call 56; (with_reducible refine (anew (k := g.k2) (by first | with_reducible exact (G0.out.h3).below hB1.out | with_reducible exact ((G0.out.h3).below hB1.out).below (below_al _ _)) (by first | with_reducible exact (G0.out.h4).below hB1.out | with_reducible exact ((G0.out.h4).below hB1.out).below (below_al _ _)) (Nat.le_trans hL.out.h3 (by decide)) (Nat.le_trans hL.out.h4 (by decide))).mono ?_); rintro e w2 ⟨t3, t4, rfl, h3, h4, hb⟩; have hB2 := Aside0.mk (show Below w1.heap.size w1 w2 from by first | with_reducible exact hb | with_reducible exact below_unalloc hb); (try (have QZ := Aside0.mk (blk_kept (heap_new w1 Z) hb); have NZ := Aside0.mk (Nat.ne_of_lt (blk_lt P1.out)); have NY := Aside0.mk (Nat.ne_of_lt (blk_lt Q1.out)); have NR := Aside0.mk BW1.out.size)); (try have QZ := Aside0.mk (blk_kept QZ.out hb)); have P2 := Aside0.mk (blk_kept P1.out hB2.out); have Q2 := Aside0.mk (blk_kept Q1.out hB2.out); have BW2 := Aside0.mk (below_then BW1.out BW1.out.size hB2.out); replace H1 := Aside0.mk (Kd.R_below H1.out hB2.out); replace H2 := Aside0.mk (Kd.R_below H2.out hB2.out); have H3 := Aside0.mk (Kd.R_lower h3 (show w.heap.size ≤ _ from by first | with_reducible exact BW1.out.size | exact Nat.le_trans BW1.out.size (below_al _ _).size)); have H4 := Aside0.mk (Kd.R_lower h4 (show w.heap.size ≤ _ from by first | with_reducible exact BW1.out.size | exact Nat.le_trans BW1.out.size (below_al _ _).size)); clear hb h3 h4; obtain ⟨A3, n3, rfl⟩ := Kd.R_slice H3.out; obtain ⟨A4, n4, rfl⟩ := Kd.R_slice H4.out)
    | (go_at_call 11; (with_reducible refine (copyB (by first | with_reducible exact ((G0.out.h5).below hB1.out).below hB2.out | with_reducible exact (((G0.out.h5).below hB1.out).below hB2.out).below (below_al _ _)) (Nat.le_trans hL.out.h5 (by decide))).mono ?_); rintro e w3 ⟨t5, rfl, h5, hb⟩; have hB3 := Aside0.mk (show Below w2.heap.size w2 w3 from by first | with_reducible exact hb | with_reducible exact below_unalloc hb); (try (have QZ := Aside0.mk (blk_kept (heap_new w2 Z) hb); have NZ := Aside0.mk (Nat.ne_of_lt (blk_lt P2.out)); have NY := Aside0.mk (Nat.ne_of_lt (blk_lt Q2.out)); have NR := Aside0.mk BW2.out.size)); (try have QZ := Aside0.mk (blk_kept QZ.out hb)); have P3 := Aside0.mk (blk_kept P2.out hB3.out); have Q3 := Aside0.mk (blk_kept Q2.out hB3.out); have BW3 := Aside0.mk (below_then BW2.out BW2.out.size hB3.out); replace H1 := Aside0.mk (Kd.R_below H1.out hB3.out); replace H2 := Aside0.mk (Kd.R_below H2.out hB3.out); replace H3 := Aside0.mk (Kd.R_below H3.out hB3.out); replace H4 := Aside0.mk (Kd.R_below H4.out hB3.out); have H5 := Aside0.mk (Kd.R_lower h5 (show w.heap.size ≤ _ from by first | with_reducible exact BW2.out.size | exact Nat.le_trans BW2.out.size (below_al _ _).size)); clear hb h5; obtain ⟨A5, n5, rfl⟩ := Kd.R_slice H5.out)
    | (go_at_call 11; (with_reducible refine (copyB (by first | with_reducible exact (((G0.out.h6).below hB1.out).below hB2.out).below hB3.out | with_reducible exact ((((G0.out.h6).below hB1.out).below hB2.out).below hB3.out).below (below_al _ _)) (Nat.le_trans hL.out.h6 (by decide))).mono ?_); rintro e w4 ⟨t6, rfl, h6, hb⟩; have hB4 := Aside0.mk (show Below w3.heap.size w3 w4 from by first | with_reducible exact hb | with_reducible exact below_unalloc hb); (try (have QZ := Aside0.mk (blk_kept (heap_new w3 Z) hb); have NZ := Aside0.mk (Nat.ne_of_lt (blk_lt P3.out)); have NY := Aside0.mk (Nat.ne_of_lt (blk_lt Q3.out)); have NR := Aside0.mk BW3.out.size)); (try have QZ := Aside0.mk (blk_kept QZ.out hb)); have P4 := Aside0.mk (blk_kept P3.out hB4.out); have Q4 := Aside0.mk (blk_kept Q3.out hB4.out); have BW4 := Aside0.mk (below_then BW3.out BW3.out.size hB4.out); replace H1 := Aside0.mk (Kd.R_below H1.out hB4.out); replace H2 := Aside0.mk (Kd.R_below H2.out hB4.out); replace H3 := Aside0.mk (Kd.R_below H3.out hB4.out); replace H4 := Aside0.mk (Kd.R_below H4.out hB4.out); replace H5 := Aside0.mk (Kd.R_below H5.out hB4.out); have H6 := Aside0.mk (Kd.R_lower h6 (show w.heap.size ≤ _ from by first | with_reducible exact BW3.out.size | exact Nat.le_trans BW3.out.size (below_al _ _).size)); clear hb h6; obtain ⟨A6, n6, rfl⟩ := Kd.R_slice H6.out; (try (obtain ⟨z0, z1, z2, z3, z4, z5, z6, z7, z8, z9, z10⟩ := heldZ QZ.out; have f0 := blk_frozen QZ.out 0; have f1 := blk_frozen QZ.out 1; have f2 := blk_frozen QZ.out 2; have f3 := blk_frozen QZ.out 3; have f4 := blk_frozen QZ.out 4; have f5 := blk_frozen QZ.out 5; have f6 := blk_frozen QZ.out 6; have f7 := blk_frozen QZ.out 7; have f8 := blk_frozen QZ.out 8; have f9 := blk_frozen QZ.out 9; have f10 := blk_frozen QZ.out 10))))
    all_goals have GR := Aside0.mk (show GenR w4 w.heap.size g _ _ _ _ _ _ from ⟨H1.out, H2.out, H3.out, H4.out, H5.out, H6.out⟩)
    all_goals clear H1 H2 H3 H4 H5 H6 hB1 hB2 hB3 hB4 P0 P1 P2 P3 Q0 Q1 Q2 Q3 BW0 BW1 BW2 BW3 c0 c1 c2 c3 c4 c5 c6 c7 c8 c9 c10
    all_goals (try go_wp2_with fail)
    all_goals go_meet
    all_goals trace "met"
    all_goals first
      | with_reducible exact ⟨_, _, _, _, _, _, _, rfl, ⟨heap_new w4 _⟩, ⟨GR.out.below (below_al _ _)⟩, ⟨blk_alloc P4.out _⟩, ⟨blk_alloc Q4.out _⟩, ⟨BW4.out.alloc BW4.out.size _⟩⟩
      | with_reducible exact ⟨_, _, _, _, _, _, _, rfl, ⟨put11_self (g := ⟨0, [], [], 0, [], [], [], [], false, 0, 0⟩) (g' := g) QZ.out _ _ _ _ _ _⟩, ⟨put11_rows GR.out QZ.out _ _ _ _ _ _ _ _ _ _ _⟩, ⟨put11_far P4.out NZ.out _ _ _ _ _ _ _ _ _ _ _⟩, ⟨put11_far Q4.out NY.out _ _ _ _ _ _ _ _ _ _ _⟩, ⟨put11_below BW4.out NR.out _ _ _ _ _ _ _ _ _ _ _⟩⟩
  case rest =>
    obtain ⟨r, t1, t2, t3, t4, t5, t6, rfl, D, GR, P, Q, B⟩ := hcut
    obtain ⟨A1, n1, rfl⟩ := Kd.R_slice GR.out.h1
    obtain ⟨A2, n2, rfl⟩ := Kd.R_slice GR.out.h2
    obtain ⟨A3, n3, rfl⟩ := Kd.R_slice GR.out.h3
    obtain ⟨A4, n4, rfl⟩ := Kd.R_slice GR.out.h4
    obtain ⟨A5, n5, rfl⟩ := Kd.R_slice GR.out.h5
    obtain ⟨A6, n6, rfl⟩ := Kd.R_slice GR.out.h6
    clear P0 P00 G00 BW0 c0 c1 c2 c3 c4 c5 c6 c7 c8 c9 c10
    obtain ⟨c0, c1, c2, c3, c4, c5, c6, c7, c8, c9, c10⟩ := heldG D.out
    obtain ⟨z0, z1, z2, z3, z4, z5, z6, z7, z8, z9, z10⟩ := heldZ Q.out
    have f0 := blk_frozen Q.out 0
    have f1 := blk_frozen Q.out 1
    have f2 := blk_frozen Q.out 2
    have f3 := blk_frozen Q.out 3
    have f4 := blk_frozen Q.out 4
    have f5 := blk_frozen Q.out 5
    have f6 := blk_frozen Q.out 6
    have f7 := blk_frozen Q.out 7
    have f8 := blk_frozen Q.out 8
    have f9 := blk_frozen Q.out 9
    have f10 := blk_frozen Q.out 10
    obtain ⟨h2, h4⟩ := H24.out
    have h2' : (how != 2) = true := bne_iff_ne.mpr h2
    have h4' : (how != 4) = true := bne_iff_ne.mpr h4
    have e := Aside0.mk (show nextP how key view added rq rp g = g from by unfold nextP; rw [if_neg h2, if_neg h4])
    clear h2 h4
    go_wp2_with fail
    have BQ := Aside0.mk (put11_below B.out (r := p + 1) (by have := EP.out; omega) (.int .u32 g.k1) (.slice A1 g.v1.length n1) (.slice A2 g.c1.length n2) (.int .u32 g.k2) (.slice A3 g.v2.length n3) (.slice A4 g.c2.length n4) (.slice A5 g.rq.length n5) (.slice A6 g.rp.length n6) (.bool g.ls) (.int .u8 g.su) (.int .u8 g.wi))
    have GQ := Aside0.mk (put11_rows GR.out Q.out (.int .u32 g.k1) (.slice A1 g.v1.length n1) (.slice A2 g.c1.length n2) (.int .u32 g.k2) (.slice A3 g.v2.length n3) (.slice A4 g.c2.length n4) (.slice A5 g.rq.length n5) (.slice A6 g.rp.length n6) (.bool g.ls) (.int .u8 g.su) (.int .u8 g.wi))
    have DQ := put11_self (g := ⟨0, [], [], 0, [], [], [], [], false, 0, 0⟩) (g' := g) Q.out (.slice A1 g.v1.length n1) (.slice A2 g.c1.length n2) (.slice A3 g.v2.length n3) (.slice A4 g.c2.length n4) (.slice A5 g.rq.length n5) (.slice A6 g.rp.length n6)
    obtain ⟨W9, hW9⟩ : ∃ W9, W9 = put11 wc (p + 1) (.int .u32 g.k1) (.slice A1 g.v1.length n1) (.slice A2 g.c1.length n2) (.int .u32 g.k2) (.slice A3 g.v2.length n3) (.slice A4 g.c2.length n4) (.slice A5 g.rq.length n5) (.slice A6 g.rp.length n6) (.bool g.ls) (.int .u8 g.su) (.int .u8 g.wi) := ⟨_, rfl⟩
    change bodyPost _ _ _ _ _ (put11 wc (p + 1) (.int .u32 g.k1) (.slice A1 g.v1.length n1) (.slice A2 g.c1.length n2) (.int .u32 g.k2) (.slice A3 g.v2.length n3) (.slice A4 g.c2.length n4) (.slice A5 g.rq.length n5) (.slice A6 g.rp.length n6) (.bool g.ls) (.int .u8 g.su) (.int .u8 g.wi))
    rw [← hW9] at BQ GQ DQ ⊢
    clear hW9 f0 f1 f2 f3 f4 f5 f6 f7 f8 f9 f10 z0 z1 z2 z3 z4 z5 z6 z7 z8 z9 z10 c0 c1 c2 c3 c4 c5 c6 c7 c8 c9 c10
    obtain ⟨c0, c1, c2, c3, c4, c5, c6, c7, c8, c9, c10⟩ := heldG DQ
    exact bodyPost_ret (v := genV g (.slice A1 g.v1.length n1) (.slice A2 g.c1.length n2) (.slice A3 g.v2.length n3) (.slice A4 g.c2.length n4) (.slice A5 g.rq.length n5) (.slice A6 g.rp.length n6)) (by simp [results, Try.results31, go_sem, c0, c1, c2, c3, c4, c5, c6, c7, c8, c9, c10]) rfl ⟨_, _, _, _, _, _, by rw [e.out], by rw [e.out]; exact GQ.out, BQ.out⟩

set_option maxRecDepth 100000 in
set_option maxHeartbeats 4000000 in
/-- a Gen anew -/
theorem copied_calls (g : G) (s1 s2 s3 s4 s5 s6 : Value) (w : World) (hg : GenC w g s1 s2 s3 s4 s5 s6) (hl : GenL g 400000) :
    Calls Try.prog 28 #[genV g s1 s2 s3 s4 s5 s6] w fun e w' => ∃ t1 t2 t3 t4 t5 t6, e = .returned (genV g t1 t2 t3 t4 t5 t6) ∧ GenR w' w.heap.size g t1 t2 t3 t4 t5 t6 ∧ Below w.heap.size w w' := by
  have h := fun W (hb : Below w.heap.size w W) => refnext_other g s1 s2 s3 s4 s5 s6 0 0 (.slice none 0 0) (.slice none 0 0) (.slice none 0 0) (.slice none 0 0) [] [] [] [] W (hg.below hb) hl (RowC.nil _ _) (RowC.nil _ _) (RowC.nil _ _) (RowC.nil _ _) (by decide) (by decide) (by decide) (by decide) (by decide) (by decide)
  have H := Aside0.mk h
  have e : nextP 0 0 [] [] [] [] g = g := rfl
  clear h hg hl
  have D := Aside0.mk (heap_new (w.alloc (genO g s1 s2 s3 s4 s5 s6)) Z)
  have B := Aside0.mk ((below_al w (genO g s1 s2 s3 s4 s5 s6)).alloc (by simp) Z)
  go_enter Try.func28, Try.ntmps28
  go_wp2_with fail
  change Calls _ _ _ ((w.alloc (genO g s1 s2 s3 s4 s5 s6)).alloc Z) _
  rw [show (w.alloc (genO g s1 s2 s3 s4 s5 s6)).heap.size = w.heap.size + 1 from by simp] at D
  generalize (w.alloc (genO g s1 s2 s3 s4 s5 s6)).alloc Z = W0 at D B ⊢
  refine (H.out W0 B.out).mono ?_
  rintro e1 w1 ⟨t1, t2, t3, t4, t5, t6, rfl, h1, h2⟩
  rw [e] at h1 ⊢
  have GR := Aside0.mk (lower h1 B.out.size)
  have Q := Aside0.mk (blk_kept D.out h2)
  have BW := Aside0.mk (below_then B.out B.out.size h2)
  clear h1 h2 D B H
  obtain ⟨A1, n1, rfl⟩ := Kd.R_slice GR.out.h1
  obtain ⟨A2, n2, rfl⟩ := Kd.R_slice GR.out.h2
  obtain ⟨A3, n3, rfl⟩ := Kd.R_slice GR.out.h3
  obtain ⟨A4, n4, rfl⟩ := Kd.R_slice GR.out.h4
  obtain ⟨A5, n5, rfl⟩ := Kd.R_slice GR.out.h5
  obtain ⟨A6, n6, rfl⟩ := Kd.R_slice GR.out.h6
  obtain ⟨z0, z1, z2, z3, z4, z5, z6, z7, z8, z9, z10⟩ := heldZ Q.out
  have f0 := blk_frozen Q.out 0
  have f1 := blk_frozen Q.out 1
  have f2 := blk_frozen Q.out 2
  have f3 := blk_frozen Q.out 3
  have f4 := blk_frozen Q.out 4
  have f5 := blk_frozen Q.out 5
  have f6 := blk_frozen Q.out 6
  have f7 := blk_frozen Q.out 7
  have f8 := blk_frozen Q.out 8
  have f9 := blk_frozen Q.out 9
  have f10 := blk_frozen Q.out 10
  go_wp2_with fail
  have BQ := Aside0.mk (put11_below BW.out (r := (w.heap.size + 1)) (by omega) (.int .u32 g.k1) (.slice A1 (g).v1.length n1) (.slice A2 (g).c1.length n2) (.int .u32 g.k2) (.slice A3 (g).v2.length n3) (.slice A4 (g).c2.length n4) (.slice A5 (g).rq.length n5) (.slice A6 (g).rp.length n6) (.bool g.ls) (.int .u8 g.su) (.int .u8 g.wi))
  have GQ := Aside0.mk (put11_rows GR.out Q.out (.int .u32 g.k1) (.slice A1 (g).v1.length n1) (.slice A2 (g).c1.length n2) (.int .u32 g.k2) (.slice A3 (g).v2.length n3) (.slice A4 (g).c2.length n4) (.slice A5 (g).rq.length n5) (.slice A6 (g).rp.length n6) (.bool g.ls) (.int .u8 g.su) (.int .u8 g.wi))
  have DQ := put11_self (g := ⟨0, [], [], 0, [], [], [], [], false, 0, 0⟩) (g' := g) Q.out (.slice A1 (g).v1.length n1) (.slice A2 (g).c1.length n2) (.slice A3 (g).v2.length n3) (.slice A4 (g).c2.length n4) (.slice A5 (g).rq.length n5) (.slice A6 (g).rp.length n6)
  obtain ⟨W9, hW9⟩ : ∃ W9, W9 = put11 w1 (w.heap.size + 1) (.int .u32 g.k1) (.slice A1 (g).v1.length n1) (.slice A2 (g).c1.length n2) (.int .u32 g.k2) (.slice A3 (g).v2.length n3) (.slice A4 (g).c2.length n4) (.slice A5 (g).rq.length n5) (.slice A6 (g).rp.length n6) (.bool g.ls) (.int .u8 g.su) (.int .u8 g.wi) := ⟨_, rfl⟩
  change bodyPost _ _ _ _ _ (put11 w1 (w.heap.size + 1) (.int .u32 g.k1) (.slice A1 (g).v1.length n1) (.slice A2 (g).c1.length n2) (.int .u32 g.k2) (.slice A3 (g).v2.length n3) (.slice A4 (g).c2.length n4) (.slice A5 (g).rq.length n5) (.slice A6 (g).rp.length n6) (.bool g.ls) (.int .u8 g.su) (.int .u8 g.wi))
  rw [← hW9] at BQ GQ DQ ⊢
  clear hW9 f0 z0 f1 z1 f2 z2 f3 z3 f4 z4 f5 z5 f6 z6 f7 z7 f8 z8 f9 z9 f10 z10
  obtain ⟨c0, c1, c2, c3, c4, c5, c6, c7, c8, c9, c10⟩ := heldG DQ
  exact bodyPost_ret (v := genV g (.slice A1 (g).v1.length n1) (.slice A2 (g).c1.length n2) (.slice A3 (g).v2.length n3) (.slice A4 (g).c2.length n4) (.slice A5 (g).rq.length n5) (.slice A6 (g).rp.length n6)) (by simp [results, Try.results28, go_sem, c0, c1, c2, c3, c4, c5, c6, c7, c8, c9, c10]) rfl ⟨_, _, _, _, _, _, rfl, GQ.out, BQ.out⟩
end Go.Proofs.Ytpanefmemabckab.GenRefNext
