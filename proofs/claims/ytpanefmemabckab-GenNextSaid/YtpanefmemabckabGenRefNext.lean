/- The reference's Next of any Gen: the walk. -/
import Derived.Test.YtpanefmemabckabGenRep
namespace Go.Proofs.Ytpanefmemabckab.GenRefNext
open Go.RowKit Go.Proofs.Ytpanefmemabckab.NumA Go.Proofs.Ytpanefmemabckab.GenS Go.Proofs.Ytpanefmemabckab.GenRep Go.Proofs.Ytpanefmemabckab.GenBlk Go.Proofs.YtpanefmemabckabW.PrintWords Go.Proofs.YtpanefmemabckabW.PrintLast
open Go.Proofs.Ytpanefmemabckab.GenZero (heap_new blk_kept blk_drew1 Z)
open Go.Proofs.Ytpanefmemabckab.GenZeroC (heldZ)
set_option linter.unusedSimpArgs false

set_option maxRecDepth 100000 in
set_option maxHeartbeats 8000000 in
theorem refnext_calls (g : G) (s1 s2 s3 s4 s5 s6 : Value) (how key : Int) (sv sa sq sp : Value) (view : List S58) (added : List S60) (rq rp : List Int) (w : World)
    (hg : GenC w g s1 s2 s3 s4 s5 s6) (hl : GenL g 400000) (hv : RowC kS w sv view) (ha : RowC kC w sa added) (hq : RowC kB w sq rq) (hp : RowC kB w sp rp) (lv : view.length ≤ 400000) (la : added.length ≤ 400000) (lq : rq.length ≤ 140737488351232) (lp : rp.length ≤ 140737488351232) :
    Calls Try.prog 31 #[genV g s1 s2 s3 s4 s5 s6, .int .u8 how, .int .u32 key, sv, sa, sq, sp] w fun e w' => ∃ t1 t2 t3 t4 t5 t6, e = .returned (genV (nextP how key view added rq rp g) t1 t2 t3 t4 t5 t6) ∧
      GenR w' w.heap.size (nextP how key view added rq rp g) t1 t2 t3 t4 t5 t6 ∧ Below w.heap.size w w' := by
  have hL := Aside0.mk hl
  have LV := Aside0.mk lv
  have LA := Aside0.mk la
  have LQ := Aside0.mk lq
  have LP := Aside0.mk lp
  have hpp := blk_alloc (heap_new w (genO g s1 s2 s3 s4 s5 s6)) Z
  have hqq := heap_new (w.alloc (genO g s1 s2 s3 s4 s5 s6)) Z
  have hB : Below w.heap.size w ((w.alloc (genO g s1 s2 s3 s4 s5 s6)).alloc Z) := ((Below.refl _ _).alloc (Nat.le_refl _) _).alloc (by simp) _
  rw [show (w.alloc (genO g s1 s2 s3 s4 s5 s6)).heap.size = w.heap.size + 1 from by simp] at hqq
  obtain ⟨p, hp'⟩ : ∃ p, p = w.heap.size := ⟨_, rfl⟩
  obtain ⟨W0, hW0⟩ : ∃ W0, W0 = (w.alloc (genO g s1 s2 s3 s4 s5 s6)).alloc Z := ⟨_, rfl⟩
  rw [← hW0] at hpp hqq hB
  rw [← hp'] at hpp hqq
  have EW := Aside0.mk hW0
  have EP := Aside0.mk hp'
  have P0 := Aside0.mk (blk_drew1 hpp)
  have P00 := Aside0.mk hpp
  have G00 := Aside0.mk (hg.below hB)
  have Q0 := Aside0.mk (blk_drew1 hqq)
  have B0 := Aside0.mk (below_drew1 hB)
  have BW0 := Aside0.mk (below_drew1 hB)
  have G0 := Aside0.mk (hg.below B0.out)
  have GC := Aside0.mk hg
  have VC := Aside0.mk hv
  have AC := Aside0.mk ha
  have RC := Aside0.mk hq
  have TC := Aside0.mk hp
  obtain ⟨c0, c1, c2, c3, c4, c5, c6, c7, c8, c9, c10⟩ := heldG hpp
  clear hpp hqq hB hp' hW0 hg hv ha hq hp hl lv la lq lp
  go_enter Try.func31, Try.ntmps31
  go_upto_region 1 with fail
  change Code.wp _ _ _ _ ((w.alloc (genO g s1 s2 s3 s4 s5 s6)).alloc Z)
  rw [← EW.out, ← EP.out]
  go_cut [15] (fun v15 wc => ∃ (r : Nat) (t1 t2 t3 t4 t5 t6 : Value), v15 = .pointer (some ⟨r, 0, none⟩) ∧ Aside0 (wc.heap[r]? = some (genO g t1 t2 t3 t4 t5 t6)) ∧ Aside0 (GenR wc w.heap.size g t1 t2 t3 t4 t5 t6) ∧ Aside0 (wc.heap[p]? = some (genO g s1 s2 s3 s4 s5 s6)) ∧ Aside0 (wc.heap[p + 1]? = some Z) ∧ Aside0 (Below w.heap.size w wc) ∧ Aside0 (w.heap.size ≤ r ∧ p ≠ r ∧ p + 1 ≠ r))
  case first =>
    go_region_held3 (fun w' => w'.cell? ⟨p, 0, none⟩ = some (.int .u32 g.k1) ∧ w'.cell? ⟨p, 1, none⟩ = some s1 ∧ w'.cell? ⟨p, 2, none⟩ = some s2 ∧ w'.cell? ⟨p, 3, none⟩ = some (.int .u32 g.k2) ∧ w'.cell? ⟨p, 4, none⟩ = some s3 ∧ w'.cell? ⟨p, 5, none⟩ = some s4 ∧ w'.cell? ⟨p, 6, none⟩ = some s5 ∧ w'.cell? ⟨p, 7, none⟩ = some s6 ∧ w'.cell? ⟨p, 8, none⟩ = some (.bool g.ls) ∧ w'.cell? ⟨p, 9, none⟩ = some (.int .u8 g.su) ∧ w'.cell? ⟨p, 10, none⟩ = some (.int .u8 g.wi))
      (first
      | with_reducible exact ⟨c0, c1, c2, c3, c4, c5, c6, c7, c8, c9, c10⟩
      | with_reducible exact heldG P4.out
      | with_reducible exact heldG (blk_alloc P4.out _)
      | with_reducible exact heldG P3.out
      | with_reducible exact heldG (blk_alloc P3.out _)
      | with_reducible exact heldG P2.out
      | with_reducible exact heldG (blk_alloc P2.out _)
      | with_reducible exact heldG P1.out
      | with_reducible exact heldG (blk_alloc P1.out _)
      | with_reducible exact heldG P0.out
      | with_reducible exact heldG (blk_alloc P0.out _)
      | with_reducible exact heldG (blk_drew1 (blk_alloc P00.out _))
      | with_reducible exact heldG (put11_far P4.out NZ.out _ _ _ _ _ _ _ _ _ _ _)
      | with_reducible exact heldG (put11_far (blk_alloc P4.out _) (Nat.ne_of_lt (blk_lt P4.out)) _ _ _ _ _ _ _ _ _ _ _))
    (first
    | (go_at_call 56; (with_reducible refine (anew (k := g.k1) (by first | with_reducible exact G0.out.h1 | with_reducible exact G00.out.h1.below (below_drew1 (below_al _ _))) (by first | with_reducible exact G0.out.h2 | with_reducible exact G00.out.h2.below (below_drew1 (below_al _ _))) (Nat.le_trans hL.out.h1 (by decide)) (Nat.le_trans hL.out.h2 (by decide))).mono ?_); rintro e w1 ⟨t1, t2, rfl, h1, h2, hb⟩; have hB1 := Aside0.mk (show Below W0.drew.heap.size W0.drew w1 from by first | with_reducible exact hb | exact below_unalloc (w := W0.drew) (o := Z) hb); (try (have hb' := (show Below (W0.alloc Z).drew.heap.size (W0.alloc Z).drew w1 from (by with_reducible exact hb)); have QZ := Aside0.mk (show w1.heap[W0.heap.size]? = some Z from blk_kept (W := (W0.alloc Z).drew) (blk_drew1 (heap_new W0 Z)) hb'); have NZ := Aside0.mk (show p ≠ W0.heap.size from Nat.ne_of_lt (blk_lt P00.out)); have NY := Aside0.mk (show p + 1 ≠ W0.heap.size from Nat.ne_of_lt (blk_lt Q0.out)); have NR := Aside0.mk (show w.heap.size ≤ W0.heap.size from BW0.out.size); clear hb')); have P1 := Aside0.mk (blk_kept P0.out hB1.out); have Q1 := Aside0.mk (blk_kept Q0.out hB1.out); have BW1 := Aside0.mk (below_then BW0.out BW0.out.size hB1.out); have H1 := Aside0.mk (Kd.R_lower h1 (show w.heap.size ≤ _ from by first | with_reducible exact BW0.out.size | exact Nat.le_trans BW0.out.size (below_al W0.drew Z).size)); have H2 := Aside0.mk (Kd.R_lower h2 (show w.heap.size ≤ _ from by first | with_reducible exact BW0.out.size | exact Nat.le_trans BW0.out.size (below_al W0.drew Z).size)); clear hb h1 h2; obtain ⟨A1, n1, rfl⟩ := Kd.R_slice H1.out; obtain ⟨A2, n2, rfl⟩ := Kd.R_slice H2.out)
    | (go_at_call 56; (with_reducible refine (anew (k := g.k2) (by first | with_reducible exact (G0.out.h3).below hB1.out | with_reducible exact ((G0.out.h3).below hB1.out).below (below_al _ _)) (by first | with_reducible exact (G0.out.h4).below hB1.out | with_reducible exact ((G0.out.h4).below hB1.out).below (below_al _ _)) (Nat.le_trans hL.out.h3 (by decide)) (Nat.le_trans hL.out.h4 (by decide))).mono ?_); rintro e w2 ⟨t3, t4, rfl, h3, h4, hb⟩; have hB2 := Aside0.mk (show Below w1.heap.size w1 w2 from by first | with_reducible exact hb | with_reducible exact below_unalloc hb); (try (have QZ := Aside0.mk (blk_kept (heap_new w1 Z) hb); have NZ := Aside0.mk (Nat.ne_of_lt (blk_lt P1.out)); have NY := Aside0.mk (Nat.ne_of_lt (blk_lt Q1.out)); have NR := Aside0.mk BW1.out.size)); (try have QZ := Aside0.mk (blk_kept QZ.out hb)); have P2 := Aside0.mk (blk_kept P1.out hB2.out); have Q2 := Aside0.mk (blk_kept Q1.out hB2.out); have BW2 := Aside0.mk (below_then BW1.out BW1.out.size hB2.out); replace H1 := Aside0.mk (Kd.R_below H1.out hB2.out); replace H2 := Aside0.mk (Kd.R_below H2.out hB2.out); have H3 := Aside0.mk (Kd.R_lower h3 (show w.heap.size ≤ _ from by first | with_reducible exact BW1.out.size | exact Nat.le_trans BW1.out.size (below_al _ _).size)); have H4 := Aside0.mk (Kd.R_lower h4 (show w.heap.size ≤ _ from by first | with_reducible exact BW1.out.size | exact Nat.le_trans BW1.out.size (below_al _ _).size)); clear hb h3 h4; obtain ⟨A3, n3, rfl⟩ := Kd.R_slice H3.out; obtain ⟨A4, n4, rfl⟩ := Kd.R_slice H4.out)
    | (go_at_call 11; (with_reducible refine (copyB (by first | with_reducible exact ((G0.out.h5).below hB1.out).below hB2.out | with_reducible exact (((G0.out.h5).below hB1.out).below hB2.out).below (below_al _ _)) (Nat.le_trans hL.out.h5 (by decide))).mono ?_); rintro e w3 ⟨t5, rfl, h5, hb⟩; have hB3 := Aside0.mk (show Below w2.heap.size w2 w3 from by first | with_reducible exact hb | with_reducible exact below_unalloc hb); (try (have QZ := Aside0.mk (blk_kept (heap_new w2 Z) hb); have NZ := Aside0.mk (Nat.ne_of_lt (blk_lt P2.out)); have NY := Aside0.mk (Nat.ne_of_lt (blk_lt Q2.out)); have NR := Aside0.mk BW2.out.size)); (try have QZ := Aside0.mk (blk_kept QZ.out hb)); have P3 := Aside0.mk (blk_kept P2.out hB3.out); have Q3 := Aside0.mk (blk_kept Q2.out hB3.out); have BW3 := Aside0.mk (below_then BW2.out BW2.out.size hB3.out); replace H1 := Aside0.mk (Kd.R_below H1.out hB3.out); replace H2 := Aside0.mk (Kd.R_below H2.out hB3.out); replace H3 := Aside0.mk (Kd.R_below H3.out hB3.out); replace H4 := Aside0.mk (Kd.R_below H4.out hB3.out); have H5 := Aside0.mk (Kd.R_lower h5 (show w.heap.size ≤ _ from by first | with_reducible exact BW2.out.size | exact Nat.le_trans BW2.out.size (below_al _ _).size)); clear hb h5; obtain ⟨A5, n5, rfl⟩ := Kd.R_slice H5.out)
    | (go_at_call 11; (with_reducible refine (copyB (by first | with_reducible exact (((G0.out.h6).below hB1.out).below hB2.out).below hB3.out | with_reducible exact ((((G0.out.h6).below hB1.out).below hB2.out).below hB3.out).below (below_al _ _)) (Nat.le_trans hL.out.h6 (by decide))).mono ?_); rintro e w4 ⟨t6, rfl, h6, hb⟩; have hB4 := Aside0.mk (show Below w3.heap.size w3 w4 from by first | with_reducible exact hb | with_reducible exact below_unalloc hb); (try (have QZ := Aside0.mk (blk_kept (heap_new w3 Z) hb); have NZ := Aside0.mk (Nat.ne_of_lt (blk_lt P3.out)); have NY := Aside0.mk (Nat.ne_of_lt (blk_lt Q3.out)); have NR := Aside0.mk BW3.out.size)); (try have QZ := Aside0.mk (blk_kept QZ.out hb)); have P4 := Aside0.mk (blk_kept P3.out hB4.out); have Q4 := Aside0.mk (blk_kept Q3.out hB4.out); have BW4 := Aside0.mk (below_then BW3.out BW3.out.size hB4.out); replace H1 := Aside0.mk (Kd.R_below H1.out hB4.out); replace H2 := Aside0.mk (Kd.R_below H2.out hB4.out); replace H3 := Aside0.mk (Kd.R_below H3.out hB4.out); replace H4 := Aside0.mk (Kd.R_below H4.out hB4.out); replace H5 := Aside0.mk (Kd.R_below H5.out hB4.out); have H6 := Aside0.mk (Kd.R_lower h6 (show w.heap.size ≤ _ from by first | with_reducible exact BW3.out.size | exact Nat.le_trans BW3.out.size (below_al _ _).size)); clear hb h6; obtain ⟨A6, n6, rfl⟩ := Kd.R_slice H6.out; (try (obtain ⟨z0, z1, z2, z3, z4, z5, z6, z7, z8, z9, z10⟩ := heldZ QZ.out; have f0 := blk_frozen QZ.out 0; have f1 := blk_frozen QZ.out 1; have f2 := blk_frozen QZ.out 2; have f3 := blk_frozen QZ.out 3; have f4 := blk_frozen QZ.out 4; have f5 := blk_frozen QZ.out 5; have f6 := blk_frozen QZ.out 6; have f7 := blk_frozen QZ.out 7; have f8 := blk_frozen QZ.out 8; have f9 := blk_frozen QZ.out 9; have f10 := blk_frozen QZ.out 10))))
    all_goals have GR := Aside0.mk (show GenR w4 w.heap.size g _ _ _ _ _ _ from ⟨H1.out, H2.out, H3.out, H4.out, H5.out, H6.out⟩)
    all_goals clear H1 H2 H3 H4 H5 H6 hB1 hB2 hB3 hB4 P0 P1 P2 P3 Q0 Q1 Q2 Q3 BW0 BW1 BW2 BW3 c0 c1 c2 c3 c4 c5 c6 c7 c8 c9 c10
    all_goals (try go_wp2_with fail)
    all_goals go_meet
    all_goals trace "met"
    all_goals first
      | with_reducible exact ⟨_, _, _, _, _, _, _, rfl, ⟨heap_new w4 _⟩, ⟨GR.out.below (below_al _ _)⟩, ⟨blk_alloc P4.out _⟩, ⟨blk_alloc Q4.out _⟩, ⟨BW4.out.alloc BW4.out.size _⟩, ⟨BW4.out.size, Nat.ne_of_lt (blk_lt P4.out), Nat.ne_of_lt (blk_lt Q4.out)⟩⟩
      | with_reducible exact ⟨_, _, _, _, _, _, _, rfl, ⟨put11_self (g := ⟨0, [], [], 0, [], [], [], [], false, 0, 0⟩) (g' := g) QZ.out _ _ _ _ _ _⟩, ⟨put11_rows GR.out QZ.out _ _ _ _ _ _ _ _ _ _ _⟩, ⟨put11_far P4.out NZ.out _ _ _ _ _ _ _ _ _ _ _⟩, ⟨put11_far Q4.out NY.out _ _ _ _ _ _ _ _ _ _ _⟩, ⟨put11_below BW4.out NR.out _ _ _ _ _ _ _ _ _ _ _⟩, ⟨NR.out, NZ.out, NY.out⟩⟩
  case rest =>
    obtain ⟨r, t1, t2, t3, t4, t5, t6, rfl, D, GR, P, Q, B, N⟩ := hcut
    obtain ⟨A1, n1, rfl⟩ := Kd.R_slice GR.out.h1
    obtain ⟨A2, n2, rfl⟩ := Kd.R_slice GR.out.h2
    obtain ⟨A3, n3, rfl⟩ := Kd.R_slice GR.out.h3
    obtain ⟨A4, n4, rfl⟩ := Kd.R_slice GR.out.h4
    obtain ⟨A5, n5, rfl⟩ := Kd.R_slice GR.out.h5
    obtain ⟨A6, n6, rfl⟩ := Kd.R_slice GR.out.h6
    clear P0 P00 G00 BW0 c0 c1 c2 c3 c4 c5 c6 c7 c8 c9 c10
    obtain ⟨c0, c1, c2, c3, c4, c5, c6, c7, c8, c9, c10⟩ := heldG D.out
    by_cases h2 : how = 2
    · subst h2
      have H1 := Aside0.mk GR.out.h1
      have H2 := Aside0.mk GR.out.h2
      have H3 := Aside0.mk GR.out.h3
      have H4 := Aside0.mk GR.out.h4
      have H5 := Aside0.mk GR.out.h5
      have H6 := Aside0.mk GR.out.h6
      clear GR
      go_wp2_with fail
      refine (views (VC.out.below B.out) (Nat.le_trans LV.out (by decide))).mono ?_
      rintro e wd1 ⟨t7, rfl, h7, hb⟩
      clear c0 c1 c2 c3 c4 c5 c6 c7 c8 c9 c10
      have H7 := Aside0.mk (Kd.R_lower h7 B.out.size)
      replace D := Aside0.mk (blk_kept D.out hb)
      replace P := Aside0.mk (blk_kept P.out hb)
      replace Q := Aside0.mk (blk_kept Q.out hb)
      replace H1 := Aside0.mk (Kd.R_below H1.out hb)
      replace H2 := Aside0.mk (Kd.R_below H2.out hb)
      replace H3 := Aside0.mk (Kd.R_below H3.out hb)
      replace H4 := Aside0.mk (Kd.R_below H4.out hb)
      replace H5 := Aside0.mk (Kd.R_below H5.out hb)
      replace H6 := Aside0.mk (Kd.R_below H6.out hb)
      replace B := Aside0.mk (below_then B.out B.out.size hb)
      clear hb h7
      obtain ⟨A7, n7, rfl⟩ := Kd.R_slice H7.out
      go_wp2_with fail
      refine (clients (AC.out.below B.out) (RowC.nil _ _) (Nat.le_trans LA.out (by decide)) (by decide)).mono ?_
      rintro e wd2 ⟨t8, rfl, h8, hb⟩
      rw [List.append_nil] at h8
      have H8 := Aside0.mk (Kd.R_lower h8 B.out.size)
      replace D := Aside0.mk (blk_kept D.out hb)
      replace P := Aside0.mk (blk_kept P.out hb)
      replace Q := Aside0.mk (blk_kept Q.out hb)
      replace H1 := Aside0.mk (Kd.R_below H1.out hb)
      replace H2 := Aside0.mk (Kd.R_below H2.out hb)
      replace H3 := Aside0.mk (Kd.R_below H3.out hb)
      replace H4 := Aside0.mk (Kd.R_below H4.out hb)
      replace H5 := Aside0.mk (Kd.R_below H5.out hb)
      replace H6 := Aside0.mk (Kd.R_below H6.out hb)
      replace H7 := Aside0.mk (Kd.R_below H7.out hb)
      replace B := Aside0.mk (below_then B.out B.out.size hb)
      clear hb h8
      obtain ⟨A8, n8, rfl⟩ := Kd.R_slice H8.out
      have F := Aside0.mk (heap_new wd2 (halfO key (.slice A7 view.length n7) (.slice A8 added.length n8)))
      have NB := Aside0.mk B.out.size
      have ND := Aside0.mk (Nat.ne_of_lt (blk_lt D.out))
      have NP := Aside0.mk (Nat.ne_of_lt (blk_lt P.out))
      have NQ := Aside0.mk (Nat.ne_of_lt (blk_lt Q.out))
      replace D := Aside0.mk (blk_alloc D.out (halfO key (.slice A7 view.length n7) (.slice A8 added.length n8)))
      replace P := Aside0.mk (blk_alloc P.out (halfO key (.slice A7 view.length n7) (.slice A8 added.length n8)))
      replace Q := Aside0.mk (blk_alloc Q.out (halfO key (.slice A7 view.length n7) (.slice A8 added.length n8)))
      replace B := Aside0.mk (B.out.alloc B.out.size (halfO key (.slice A7 view.length n7) (.slice A8 added.length n8)))
      replace H1 := Aside0.mk (Kd.R_alloc H1.out (halfO key (.slice A7 view.length n7) (.slice A8 added.length n8)))
      replace H2 := Aside0.mk (Kd.R_alloc H2.out (halfO key (.slice A7 view.length n7) (.slice A8 added.length n8)))
      replace H3 := Aside0.mk (Kd.R_alloc H3.out (halfO key (.slice A7 view.length n7) (.slice A8 added.length n8)))
      replace H4 := Aside0.mk (Kd.R_alloc H4.out (halfO key (.slice A7 view.length n7) (.slice A8 added.length n8)))
      replace H5 := Aside0.mk (Kd.R_alloc H5.out (halfO key (.slice A7 view.length n7) (.slice A8 added.length n8)))
      replace H6 := Aside0.mk (Kd.R_alloc H6.out (halfO key (.slice A7 view.length n7) (.slice A8 added.length n8)))
      replace H7 := Aside0.mk (Kd.R_alloc H7.out (halfO key (.slice A7 view.length n7) (.slice A8 added.length n8)))
      replace H8 := Aside0.mk (Kd.R_alloc H8.out (halfO key (.slice A7 view.length n7) (.slice A8 added.length n8)))
      obtain ⟨q, hq⟩ : ∃ q, q = wd2.heap.size := ⟨_, rfl⟩
      rw [← hq] at F NB ND NP NQ
      have EQ := Aside0.mk hq
      clear hq
      go_upto_region 5 with fail
      change Code.wp _ _ _ _ (wd2.alloc (halfO key (.slice A7 view.length n7) (.slice A8 added.length n8)))
      rw [← EQ.out]
      generalize wd2.alloc (halfO key (.slice A7 view.length n7) (.slice A8 added.length n8)) = we at P Q B D F H1 H2 H3 H4 H5 H6 H7 H8 ⊢
      clear EQ
      have d0 := blk_cell D.out 0
      have d1 := blk_cell D.out 1
      have d2 := blk_cell D.out 2
      have d3 := blk_cell D.out 3
      have d4 := blk_cell D.out 4
      have d5 := blk_cell D.out 5
      have fd0 := blk_frozen D.out 0
      have fd1 := blk_frozen D.out 1
      have fd2 := blk_frozen D.out 2
      have fd3 := blk_frozen D.out 3
      have fd4 := blk_frozen D.out 4
      have fd5 := blk_frozen D.out 5
      simp only [List.getElem?_toArray, List.getElem?_cons_zero, List.getElem?_cons_succ] at d0 d1 d2 d3 d4 d5
      go_upto_region 8 with fail
      clear d0 fd0 d1 fd1 d2 fd2 d3 fd3 d4 fd4 d5 fd5
      obtain ⟨wf, hW⟩ : ∃ W, W = (((we.setCell ⟨r, 3, none⟩ (.int .u32 g.k1)).setCell ⟨r, 4, none⟩ (.slice A1 g.v1.length n1)).setCell ⟨r, 5, none⟩ (.slice A2 g.c1.length n2)) := ⟨_, rfl⟩
      rw [show (((we.setCell ⟨r, 3, none⟩ (.int .u32 g.k1)).setCell ⟨r, 4, none⟩ (.slice A1 g.v1.length n1)).setCell ⟨r, 5, none⟩ (.slice A2 g.c1.length n2)) = wf from hW.symm]
      replace H1 := Aside0.mk (show RowR kS 58 wf w.heap.size _ _ from by rw [hW]; exact put3_row H1.out D.out (by decide) 3 (.int .u32 g.k1) (.slice A1 g.v1.length n1) (.slice A2 g.c1.length n2))
      replace H2 := Aside0.mk (show RowR kC 60 wf w.heap.size _ _ from by rw [hW]; exact put3_row H2.out D.out (by decide) 3 (.int .u32 g.k1) (.slice A1 g.v1.length n1) (.slice A2 g.c1.length n2))
      replace H7 := Aside0.mk (show RowR kS 58 wf w.heap.size _ _ from by rw [hW]; exact put3_row H7.out D.out (by decide) 3 (.int .u32 g.k1) (.slice A1 g.v1.length n1) (.slice A2 g.c1.length n2))
      replace H8 := Aside0.mk (show RowR kC 60 wf w.heap.size _ _ from by rw [hW]; exact put3_row H8.out D.out (by decide) 3 (.int .u32 g.k1) (.slice A1 g.v1.length n1) (.slice A2 g.c1.length n2))
      replace B := Aside0.mk (show Below w.heap.size w wf from by rw [hW]; exact put3_below B.out (r := r) N.out.1 3 (.int .u32 g.k1) (.slice A1 g.v1.length n1) (.slice A2 g.c1.length n2))
      replace Q := Aside0.mk (show wf.heap[p + 1]? = some (Z) from by rw [hW]; exact put3_far Q.out N.out.2.2 3 (.int .u32 g.k1) (.slice A1 g.v1.length n1) (.slice A2 g.c1.length n2))
      replace F := Aside0.mk (show wf.heap[q]? = some (halfO key (.slice A7 view.length n7) (.slice A8 added.length n8)) from by rw [hW]; exact put3_far F.out ND.out.symm 3 (.int .u32 g.k1) (.slice A1 g.v1.length n1) (.slice A2 g.c1.length n2))
      replace D := Aside0.mk (show wf.heap[r]? = some (rawO g.k1 (.slice A1 g.v1.length n1) (.slice A2 g.c1.length n2) g.k1 (.slice A1 g.v1.length n1) (.slice A2 g.c1.length n2) (.slice A5 g.rq.length n5) (.slice A6 g.rp.length n6) g.ls g.su g.wi) from by rw [hW]; exact put3_3 D.out g.k1 (.slice A1 g.v1.length n1) (.slice A2 g.c1.length n2))
      clear hW
      clear H3 H4 H5 H6 P NP
      have d0 := blk_cell D.out 0
      have d1 := blk_cell D.out 1
      have d2 := blk_cell D.out 2
      have fd0 := blk_frozen D.out 0
      have fd1 := blk_frozen D.out 1
      have fd2 := blk_frozen D.out 2
      simp only [List.getElem?_toArray, List.getElem?_cons_zero, List.getElem?_cons_succ] at d0 d1 d2
      have k0 := blk_cell F.out 0
      have k1 := blk_cell F.out 1
      have k2 := blk_cell F.out 2
      have fk0 := blk_frozen F.out 0
      have fk1 := blk_frozen F.out 1
      have fk2 := blk_frozen F.out 2
      simp only [List.getElem?_toArray, List.getElem?_cons_zero, List.getElem?_cons_succ] at k0 k1 k2
      go_upto_region 9 with fail
      clear d0 fd0 d1 fd1 d2 fd2
      clear k0 fk0 k1 fk1 k2 fk2
      obtain ⟨wh, hW⟩ : ∃ W, W = (((wf.setCell ⟨r, 0, none⟩ (.int .u32 key)).setCell ⟨r, 1, none⟩ (.slice A7 view.length n7)).setCell ⟨r, 2, none⟩ (.slice A8 added.length n8)) := ⟨_, rfl⟩
      rw [show (((wf.setCell ⟨r, 0, none⟩ (.int .u32 key)).setCell ⟨r, 1, none⟩ (.slice A7 view.length n7)).setCell ⟨r, 2, none⟩ (.slice A8 added.length n8)) = wh from hW.symm]
      replace H1 := Aside0.mk (show RowR kS 58 wh w.heap.size _ _ from by rw [hW]; exact put3_row H1.out D.out (by decide) 0 (.int .u32 key) (.slice A7 view.length n7) (.slice A8 added.length n8))
      replace H2 := Aside0.mk (show RowR kC 60 wh w.heap.size _ _ from by rw [hW]; exact put3_row H2.out D.out (by decide) 0 (.int .u32 key) (.slice A7 view.length n7) (.slice A8 added.length n8))
      replace H7 := Aside0.mk (show RowR kS 58 wh w.heap.size _ _ from by rw [hW]; exact put3_row H7.out D.out (by decide) 0 (.int .u32 key) (.slice A7 view.length n7) (.slice A8 added.length n8))
      replace H8 := Aside0.mk (show RowR kC 60 wh w.heap.size _ _ from by rw [hW]; exact put3_row H8.out D.out (by decide) 0 (.int .u32 key) (.slice A7 view.length n7) (.slice A8 added.length n8))
      replace B := Aside0.mk (show Below w.heap.size w wh from by rw [hW]; exact put3_below B.out (r := r) N.out.1 0 (.int .u32 key) (.slice A7 view.length n7) (.slice A8 added.length n8))
      replace Q := Aside0.mk (show wh.heap[p + 1]? = some (Z) from by rw [hW]; exact put3_far Q.out N.out.2.2 0 (.int .u32 key) (.slice A7 view.length n7) (.slice A8 added.length n8))
      replace D := Aside0.mk (show wh.heap[r]? = some (rawO key (.slice A7 view.length n7) (.slice A8 added.length n8) g.k1 (.slice A1 g.v1.length n1) (.slice A2 g.c1.length n2) (.slice A5 g.rq.length n5) (.slice A6 g.rp.length n6) g.ls g.su g.wi) from by rw [hW]; exact put3_0 D.out key (.slice A7 view.length n7) (.slice A8 added.length n8))
      clear hW
      clear F ND NQ NB
      go_wp2_with fail
      refine (copyB (RC.out.below B.out) (Nat.le_trans LQ.out (by decide))).mono ?_
      rintro e wi ⟨t10, rfl, h10, hb⟩
      have H10 := Aside0.mk (Kd.R_lower h10 B.out.size)
      replace D := Aside0.mk (blk_kept D.out hb)
      replace Q := Aside0.mk (blk_kept Q.out hb)
      replace H1 := Aside0.mk (Kd.R_below H1.out hb)
      replace H2 := Aside0.mk (Kd.R_below H2.out hb)
      replace H7 := Aside0.mk (Kd.R_below H7.out hb)
      replace H8 := Aside0.mk (Kd.R_below H8.out hb)
      replace B := Aside0.mk (below_then B.out B.out.size hb)
      clear hb h10
      obtain ⟨A10, n10, rfl⟩ := Kd.R_slice H10.out
      have d6 := blk_cell D.out 6
      have fd6 := blk_frozen D.out 6
      simp only [List.getElem?_toArray, List.getElem?_cons_zero, List.getElem?_cons_succ] at d6
      go_upto_region 10 with fail
      clear d6 fd6
      obtain ⟨wj, hW⟩ : ∃ W, W = (wi.setCell ⟨r, 6, none⟩ (.slice A10 rq.length n10)) := ⟨_, rfl⟩
      rw [show (wi.setCell ⟨r, 6, none⟩ (.slice A10 rq.length n10)) = wj from hW.symm]
      replace H1 := Aside0.mk (show RowR kS 58 wj w.heap.size _ _ from by rw [hW]; exact row_set H1.out D.out (by decide) 6 (.slice A10 rq.length n10))
      replace H2 := Aside0.mk (show RowR kC 60 wj w.heap.size _ _ from by rw [hW]; exact row_set H2.out D.out (by decide) 6 (.slice A10 rq.length n10))
      replace H7 := Aside0.mk (show RowR kS 58 wj w.heap.size _ _ from by rw [hW]; exact row_set H7.out D.out (by decide) 6 (.slice A10 rq.length n10))
      replace H8 := Aside0.mk (show RowR kC 60 wj w.heap.size _ _ from by rw [hW]; exact row_set H8.out D.out (by decide) 6 (.slice A10 rq.length n10))
      replace H10 := Aside0.mk (show RowR kB 5 wj w.heap.size _ _ from by rw [hW]; exact row_set H10.out D.out (by decide) 6 (.slice A10 rq.length n10))
      replace B := Aside0.mk (show Below w.heap.size w wj from by rw [hW]; exact set_below B.out (r := r) N.out.1 6 (.slice A10 rq.length n10))
      replace Q := Aside0.mk (show wj.heap[p + 1]? = some (Z) from by rw [hW]; exact set_far Q.out N.out.2.2 6 (.slice A10 rq.length n10))
      replace D := Aside0.mk (show wj.heap[r]? = some (rawO key (.slice A7 view.length n7) (.slice A8 added.length n8) g.k1 (.slice A1 g.v1.length n1) (.slice A2 g.c1.length n2) (.slice A10 rq.length n10) (.slice A6 g.rp.length n6) g.ls g.su g.wi) from by rw [hW]; exact put1_6 D.out (.slice A10 rq.length n10))
      clear hW
      go_wp2_with fail
      refine (copyB (TC.out.below B.out) (Nat.le_trans LP.out (by decide))).mono ?_
      rintro e wk ⟨t11, rfl, h11, hb⟩
      have H11 := Aside0.mk (Kd.R_lower h11 B.out.size)
      replace D := Aside0.mk (blk_kept D.out hb)
      replace Q := Aside0.mk (blk_kept Q.out hb)
      replace H1 := Aside0.mk (Kd.R_below H1.out hb)
      replace H2 := Aside0.mk (Kd.R_below H2.out hb)
      replace H7 := Aside0.mk (Kd.R_below H7.out hb)
      replace H8 := Aside0.mk (Kd.R_below H8.out hb)
      replace H10 := Aside0.mk (Kd.R_below H10.out hb)
      replace B := Aside0.mk (below_then B.out B.out.size hb)
      clear hb h11
      obtain ⟨A11, n11, rfl⟩ := Kd.R_slice H11.out
      have d7 := blk_cell D.out 7
      have fd7 := blk_frozen D.out 7
      simp only [List.getElem?_toArray, List.getElem?_cons_zero, List.getElem?_cons_succ] at d7
      go_upto_region 11 with fail
      clear d7 fd7
      obtain ⟨wl, hW⟩ : ∃ W, W = (wk.setCell ⟨r, 7, none⟩ (.slice A11 rp.length n11)) := ⟨_, rfl⟩
      rw [show (wk.setCell ⟨r, 7, none⟩ (.slice A11 rp.length n11)) = wl from hW.symm]
      replace H1 := Aside0.mk (show RowR kS 58 wl w.heap.size _ _ from by rw [hW]; exact row_set H1.out D.out (by decide) 7 (.slice A11 rp.length n11))
      replace H2 := Aside0.mk (show RowR kC 60 wl w.heap.size _ _ from by rw [hW]; exact row_set H2.out D.out (by decide) 7 (.slice A11 rp.length n11))
      replace H7 := Aside0.mk (show RowR kS 58 wl w.heap.size _ _ from by rw [hW]; exact row_set H7.out D.out (by decide) 7 (.slice A11 rp.length n11))
      replace H8 := Aside0.mk (show RowR kC 60 wl w.heap.size _ _ from by rw [hW]; exact row_set H8.out D.out (by decide) 7 (.slice A11 rp.length n11))
      replace H10 := Aside0.mk (show RowR kB 5 wl w.heap.size _ _ from by rw [hW]; exact row_set H10.out D.out (by decide) 7 (.slice A11 rp.length n11))
      replace H11 := Aside0.mk (show RowR kB 5 wl w.heap.size _ _ from by rw [hW]; exact row_set H11.out D.out (by decide) 7 (.slice A11 rp.length n11))
      replace B := Aside0.mk (show Below w.heap.size w wl from by rw [hW]; exact set_below B.out (r := r) N.out.1 7 (.slice A11 rp.length n11))
      replace Q := Aside0.mk (show wl.heap[p + 1]? = some (Z) from by rw [hW]; exact set_far Q.out N.out.2.2 7 (.slice A11 rp.length n11))
      replace D := Aside0.mk (show wl.heap[r]? = some (rawO key (.slice A7 view.length n7) (.slice A8 added.length n8) g.k1 (.slice A1 g.v1.length n1) (.slice A2 g.c1.length n2) (.slice A10 rq.length n10) (.slice A11 rp.length n11) g.ls g.su g.wi) from by rw [hW]; exact put1_7 D.out (.slice A11 rp.length n11))
      clear hW
      have GR := Aside0.mk (show GenR wl w.heap.size (⟨key, view, added, g.k1, g.v1, g.c1, rq, rp, g.ls, g.su, g.wi⟩ : G) _ _ _ _ _ _ from ⟨H7.out, H8.out, H1.out, H2.out, H10.out, H11.out⟩)
      obtain ⟨x0, x1, x2, x3, x4, x5, x6, x7, x8, x9, x10⟩ := heldR D.out
      obtain ⟨z0, z1, z2, z3, z4, z5, z6, z7, z8, z9, z10⟩ := heldZ Q.out
      have f0 := blk_frozen Q.out 0
      have f1 := blk_frozen Q.out 1
      have f2 := blk_frozen Q.out 2
      have f3 := blk_frozen Q.out 3
      have f4 := blk_frozen Q.out 4
      have f5 := blk_frozen Q.out 5
      have f6 := blk_frozen Q.out 6
      have f7 := blk_frozen Q.out 7
      have f8 := blk_frozen Q.out 8
      have f9 := blk_frozen Q.out 9
      have f10 := blk_frozen Q.out 10
      go_wp2_with fail
      have BQ := Aside0.mk (put11_below B.out (r := (p + 1)) (by have := EP.out; omega) (.int .u32 key) (.slice A7 view.length n7) (.slice A8 added.length n8) (.int .u32 g.k1) (.slice A1 g.v1.length n1) (.slice A2 g.c1.length n2) (.slice A10 rq.length n10) (.slice A11 rp.length n11) (.bool g.ls) (.int .u8 g.su) (.int .u8 g.wi))
      have GQ := Aside0.mk (put11_rows GR.out Q.out (.int .u32 key) (.slice A7 view.length n7) (.slice A8 added.length n8) (.int .u32 g.k1) (.slice A1 g.v1.length n1) (.slice A2 g.c1.length n2) (.slice A10 rq.length n10) (.slice A11 rp.length n11) (.bool g.ls) (.int .u8 g.su) (.int .u8 g.wi))
      have DQ := put11_self (g := ⟨0, [], [], 0, [], [], [], [], false, 0, 0⟩) (g' := ((⟨key, view, added, g.k1, g.v1, g.c1, rq, rp, g.ls, g.su, g.wi⟩ : G))) Q.out (.slice A7 view.length n7) (.slice A8 added.length n8) (.slice A1 g.v1.length n1) (.slice A2 g.c1.length n2) (.slice A10 rq.length n10) (.slice A11 rp.length n11)
      obtain ⟨W9, hW9⟩ : ∃ W9, W9 = put11 wl (p + 1) (.int .u32 key) (.slice A7 view.length n7) (.slice A8 added.length n8) (.int .u32 g.k1) (.slice A1 g.v1.length n1) (.slice A2 g.c1.length n2) (.slice A10 rq.length n10) (.slice A11 rp.length n11) (.bool g.ls) (.int .u8 g.su) (.int .u8 g.wi) := ⟨_, rfl⟩
      change bodyPost _ _ _ _ _ (put11 wl (p + 1) (.int .u32 key) (.slice A7 view.length n7) (.slice A8 added.length n8) (.int .u32 g.k1) (.slice A1 g.v1.length n1) (.slice A2 g.c1.length n2) (.slice A10 rq.length n10) (.slice A11 rp.length n11) (.bool g.ls) (.int .u8 g.su) (.int .u8 g.wi))
      rw [← hW9] at BQ GQ DQ ⊢
      clear hW9 f0 z0 f1 z1 f2 z2 f3 z3 f4 z4 f5 z5 f6 z6 f7 z7 f8 z8 f9 z9 f10 z10
      obtain ⟨c0, c1, c2, c3, c4, c5, c6, c7, c8, c9, c10⟩ := heldG DQ
      exact bodyPost_ret (v := genV ((⟨key, view, added, g.k1, g.v1, g.c1, rq, rp, g.ls, g.su, g.wi⟩ : G)) (.slice A7 view.length n7) (.slice A8 added.length n8) (.slice A1 g.v1.length n1) (.slice A2 g.c1.length n2) (.slice A10 rq.length n10) (.slice A11 rp.length n11)) (by simp [results, Try.results31, go_sem, c0, c1, c2, c3, c4, c5, c6, c7, c8, c9, c10]) rfl ⟨_, _, _, _, _, _, rfl, GQ.out, BQ.out⟩
    · by_cases h4 : how = 4
      · subst h4
        have H1 := Aside0.mk GR.out.h1
        have H2 := Aside0.mk GR.out.h2
        have H3 := Aside0.mk GR.out.h3
        have H4 := Aside0.mk GR.out.h4
        have H5 := Aside0.mk GR.out.h5
        have H6 := Aside0.mk GR.out.h6
        clear GR
        clear h2
        obtain ⟨m, hm⟩ : ∃ m, m = g.c1 ++ added := ⟨_, rfl⟩
        have HM := Aside0.mk hm
        have e := Aside0.mk (show nextP 4 key view added rq rp g = (⟨key, view, m, g.k2, g.v2, g.c2, rq, rp, g.ls, g.su, g.wi⟩ : G) from by rw [hm]; rfl)
        clear hm
        go_wp2_with fail
        refine (views (VC.out.below B.out) (Nat.le_trans LV.out (by decide))).mono ?_
        rintro e wd1 ⟨t7, rfl, h7, hb⟩
        clear c0 c1 c2 c3 c4 c5 c6 c7 c8 c9 c10
        have H7 := Aside0.mk (Kd.R_lower h7 B.out.size)
        replace D := Aside0.mk (blk_kept D.out hb)
        replace P := Aside0.mk (blk_kept P.out hb)
        replace Q := Aside0.mk (blk_kept Q.out hb)
        replace H1 := Aside0.mk (Kd.R_below H1.out hb)
        replace H2 := Aside0.mk (Kd.R_below H2.out hb)
        replace H3 := Aside0.mk (Kd.R_below H3.out hb)
        replace H4 := Aside0.mk (Kd.R_below H4.out hb)
        replace H5 := Aside0.mk (Kd.R_below H5.out hb)
        replace H6 := Aside0.mk (Kd.R_below H6.out hb)
        replace B := Aside0.mk (below_then B.out B.out.size hb)
        clear hb h7
        obtain ⟨A7, n7, rfl⟩ := Kd.R_slice H7.out
        go_wp2_with fail
        refine (clients (AC.out.below B.out) (RowC.nil _ _) (Nat.le_trans LA.out (by decide)) (by decide)).mono ?_
        rintro e wd2 ⟨t8, rfl, h8, hb⟩
        rw [List.append_nil] at h8
        have H8 := Aside0.mk (Kd.R_lower h8 B.out.size)
        replace D := Aside0.mk (blk_kept D.out hb)
        replace P := Aside0.mk (blk_kept P.out hb)
        replace Q := Aside0.mk (blk_kept Q.out hb)
        replace H1 := Aside0.mk (Kd.R_below H1.out hb)
        replace H2 := Aside0.mk (Kd.R_below H2.out hb)
        replace H3 := Aside0.mk (Kd.R_below H3.out hb)
        replace H4 := Aside0.mk (Kd.R_below H4.out hb)
        replace H5 := Aside0.mk (Kd.R_below H5.out hb)
        replace H6 := Aside0.mk (Kd.R_below H6.out hb)
        replace H7 := Aside0.mk (Kd.R_below H7.out hb)
        replace B := Aside0.mk (below_then B.out B.out.size hb)
        clear hb h8
        obtain ⟨A8, n8, rfl⟩ := Kd.R_slice H8.out
        have F := Aside0.mk (heap_new wd2 (halfO key (.slice A7 view.length n7) (.slice A8 added.length n8)))
        have NB := Aside0.mk B.out.size
        have ND := Aside0.mk (Nat.ne_of_lt (blk_lt D.out))
        have NP := Aside0.mk (Nat.ne_of_lt (blk_lt P.out))
        have NQ := Aside0.mk (Nat.ne_of_lt (blk_lt Q.out))
        replace D := Aside0.mk (blk_alloc D.out (halfO key (.slice A7 view.length n7) (.slice A8 added.length n8)))
        replace P := Aside0.mk (blk_alloc P.out (halfO key (.slice A7 view.length n7) (.slice A8 added.length n8)))
        replace Q := Aside0.mk (blk_alloc Q.out (halfO key (.slice A7 view.length n7) (.slice A8 added.length n8)))
        replace B := Aside0.mk (B.out.alloc B.out.size (halfO key (.slice A7 view.length n7) (.slice A8 added.length n8)))
        replace H1 := Aside0.mk (Kd.R_alloc H1.out (halfO key (.slice A7 view.length n7) (.slice A8 added.length n8)))
        replace H2 := Aside0.mk (Kd.R_alloc H2.out (halfO key (.slice A7 view.length n7) (.slice A8 added.length n8)))
        replace H3 := Aside0.mk (Kd.R_alloc H3.out (halfO key (.slice A7 view.length n7) (.slice A8 added.length n8)))
        replace H4 := Aside0.mk (Kd.R_alloc H4.out (halfO key (.slice A7 view.length n7) (.slice A8 added.length n8)))
        replace H5 := Aside0.mk (Kd.R_alloc H5.out (halfO key (.slice A7 view.length n7) (.slice A8 added.length n8)))
        replace H6 := Aside0.mk (Kd.R_alloc H6.out (halfO key (.slice A7 view.length n7) (.slice A8 added.length n8)))
        replace H7 := Aside0.mk (Kd.R_alloc H7.out (halfO key (.slice A7 view.length n7) (.slice A8 added.length n8)))
        replace H8 := Aside0.mk (Kd.R_alloc H8.out (halfO key (.slice A7 view.length n7) (.slice A8 added.length n8)))
        obtain ⟨q, hq⟩ : ∃ q, q = wd2.heap.size := ⟨_, rfl⟩
        rw [← hq] at F NB ND NP NQ
        have EQ := Aside0.mk hq
        clear hq
        go_upto_region 5 with fail
        change Code.wp _ _ _ _ (wd2.alloc (halfO key (.slice A7 view.length n7) (.slice A8 added.length n8)))
        rw [← EQ.out]
        generalize wd2.alloc (halfO key (.slice A7 view.length n7) (.slice A8 added.length n8)) = we at P Q B D F H1 H2 H3 H4 H5 H6 H7 H8 ⊢
        clear EQ
        have d0 := blk_cell P.out 0
        have d1 := blk_cell P.out 1
        have d2 := blk_cell P.out 2
        have fd0 := blk_frozen P.out 0
        have fd1 := blk_frozen P.out 1
        have fd2 := blk_frozen P.out 2
        simp only [List.getElem?_toArray, List.getElem?_cons_zero, List.getElem?_cons_succ] at d0 d1 d2
        go_wp2_with fail
        refine (clients (GC.out.h2.below B.out) (AC.out.below B.out) (Nat.le_trans hL.out.h2 (by decide)) (Nat.le_trans LA.out (by decide))).mono ?_
        rintro e wf ⟨t9, rfl, h9, hb⟩
        rw [← HM.out] at h9
        clear H8
        clear d0 fd0 d1 fd1 d2 fd2
        have H9 := Aside0.mk (Kd.R_lower h9 B.out.size)
        replace D := Aside0.mk (blk_kept D.out hb)
        replace Q := Aside0.mk (blk_kept Q.out hb)
        replace F := Aside0.mk (blk_kept F.out hb)
        replace H3 := Aside0.mk (Kd.R_below H3.out hb)
        replace H4 := Aside0.mk (Kd.R_below H4.out hb)
        replace H7 := Aside0.mk (Kd.R_below H7.out hb)
        replace B := Aside0.mk (below_then B.out B.out.size hb)
        clear hb h9
        obtain ⟨A9, n9, rfl⟩ := Kd.R_slice H9.out
        clear H1 H2 H5 H6 P NP
        have d2 := blk_cell F.out 2
        have fd2 := blk_frozen F.out 2
        simp only [List.getElem?_toArray, List.getElem?_cons_zero, List.getElem?_cons_succ] at d2
        go_upto_region 8 with fail
        clear d2 fd2
        obtain ⟨wg, hW⟩ : ∃ W, W = (wf.setCell ⟨q, 2, none⟩ (.slice A9 m.length n9)) := ⟨_, rfl⟩
        rw [show (wf.setCell ⟨q, 2, none⟩ (.slice A9 m.length n9)) = wg from hW.symm]
        replace H3 := Aside0.mk (show RowR kS 58 wg w.heap.size _ _ from by rw [hW]; exact row_set H3.out F.out (by decide) 2 (.slice A9 m.length n9))
        replace H4 := Aside0.mk (show RowR kC 60 wg w.heap.size _ _ from by rw [hW]; exact row_set H4.out F.out (by decide) 2 (.slice A9 m.length n9))
        replace H7 := Aside0.mk (show RowR kS 58 wg w.heap.size _ _ from by rw [hW]; exact row_set H7.out F.out (by decide) 2 (.slice A9 m.length n9))
        replace H9 := Aside0.mk (show RowR kC 60 wg w.heap.size _ _ from by rw [hW]; exact row_set H9.out F.out (by decide) 2 (.slice A9 m.length n9))
        replace B := Aside0.mk (show Below w.heap.size w wg from by rw [hW]; exact set_below B.out (r := q) NB.out 2 (.slice A9 m.length n9))
        replace Q := Aside0.mk (show wg.heap[p + 1]? = some (Z) from by rw [hW]; exact set_far Q.out NQ.out 2 (.slice A9 m.length n9))
        replace D := Aside0.mk (show wg.heap[r]? = some (rawO g.k1 (.slice A1 g.v1.length n1) (.slice A2 g.c1.length n2) g.k2 (.slice A3 g.v2.length n3) (.slice A4 g.c2.length n4) (.slice A5 g.rq.length n5) (.slice A6 g.rp.length n6) g.ls g.su g.wi) from by rw [hW]; exact set_far D.out ND.out 2 (.slice A9 m.length n9))
        replace F := Aside0.mk (show wg.heap[q]? = some (halfO key (.slice A7 view.length n7) (.slice A9 m.length n9)) from by rw [hW]; exact half_2 F.out (.slice A9 m.length n9))
        clear hW
        have d0 := blk_cell D.out 0
        have d1 := blk_cell D.out 1
        have d2 := blk_cell D.out 2
        have fd0 := blk_frozen D.out 0
        have fd1 := blk_frozen D.out 1
        have fd2 := blk_frozen D.out 2
        simp only [List.getElem?_toArray, List.getElem?_cons_zero, List.getElem?_cons_succ] at d0 d1 d2
        have k0 := blk_cell F.out 0
        have k1 := blk_cell F.out 1
        have k2 := blk_cell F.out 2
        have fk0 := blk_frozen F.out 0
        have fk1 := blk_frozen F.out 1
        have fk2 := blk_frozen F.out 2
        simp only [List.getElem?_toArray, List.getElem?_cons_zero, List.getElem?_cons_succ] at k0 k1 k2
        go_upto_region 9 with fail
        clear d0 fd0 d1 fd1 d2 fd2
        clear k0 fk0 k1 fk1 k2 fk2
        obtain ⟨wh, hW⟩ : ∃ W, W = (((wg.setCell ⟨r, 0, none⟩ (.int .u32 key)).setCell ⟨r, 1, none⟩ (.slice A7 view.length n7)).setCell ⟨r, 2, none⟩ (.slice A9 m.length n9)) := ⟨_, rfl⟩
        rw [show (((wg.setCell ⟨r, 0, none⟩ (.int .u32 key)).setCell ⟨r, 1, none⟩ (.slice A7 view.length n7)).setCell ⟨r, 2, none⟩ (.slice A9 m.length n9)) = wh from hW.symm]
        replace H3 := Aside0.mk (show RowR kS 58 wh w.heap.size _ _ from by rw [hW]; exact put3_row H3.out D.out (by decide) 0 (.int .u32 key) (.slice A7 view.length n7) (.slice A9 m.length n9))
        replace H4 := Aside0.mk (show RowR kC 60 wh w.heap.size _ _ from by rw [hW]; exact put3_row H4.out D.out (by decide) 0 (.int .u32 key) (.slice A7 view.length n7) (.slice A9 m.length n9))
        replace H7 := Aside0.mk (show RowR kS 58 wh w.heap.size _ _ from by rw [hW]; exact put3_row H7.out D.out (by decide) 0 (.int .u32 key) (.slice A7 view.length n7) (.slice A9 m.length n9))
        replace H9 := Aside0.mk (show RowR kC 60 wh w.heap.size _ _ from by rw [hW]; exact put3_row H9.out D.out (by decide) 0 (.int .u32 key) (.slice A7 view.length n7) (.slice A9 m.length n9))
        replace B := Aside0.mk (show Below w.heap.size w wh from by rw [hW]; exact put3_below B.out (r := r) N.out.1 0 (.int .u32 key) (.slice A7 view.length n7) (.slice A9 m.length n9))
        replace Q := Aside0.mk (show wh.heap[p + 1]? = some (Z) from by rw [hW]; exact put3_far Q.out N.out.2.2 0 (.int .u32 key) (.slice A7 view.length n7) (.slice A9 m.length n9))
        replace D := Aside0.mk (show wh.heap[r]? = some (rawO key (.slice A7 view.length n7) (.slice A9 m.length n9) g.k2 (.slice A3 g.v2.length n3) (.slice A4 g.c2.length n4) (.slice A5 g.rq.length n5) (.slice A6 g.rp.length n6) g.ls g.su g.wi) from by rw [hW]; exact put3_0 D.out key (.slice A7 view.length n7) (.slice A9 m.length n9))
        clear hW
        clear F ND NQ NB
        go_wp2_with fail
        refine (copyB (RC.out.below B.out) (Nat.le_trans LQ.out (by decide))).mono ?_
        rintro e wi ⟨t10, rfl, h10, hb⟩
        have H10 := Aside0.mk (Kd.R_lower h10 B.out.size)
        replace D := Aside0.mk (blk_kept D.out hb)
        replace Q := Aside0.mk (blk_kept Q.out hb)
        replace H3 := Aside0.mk (Kd.R_below H3.out hb)
        replace H4 := Aside0.mk (Kd.R_below H4.out hb)
        replace H7 := Aside0.mk (Kd.R_below H7.out hb)
        replace H9 := Aside0.mk (Kd.R_below H9.out hb)
        replace B := Aside0.mk (below_then B.out B.out.size hb)
        clear hb h10
        obtain ⟨A10, n10, rfl⟩ := Kd.R_slice H10.out
        have d6 := blk_cell D.out 6
        have fd6 := blk_frozen D.out 6
        simp only [List.getElem?_toArray, List.getElem?_cons_zero, List.getElem?_cons_succ] at d6
        go_upto_region 10 with fail
        clear d6 fd6
        obtain ⟨wj, hW⟩ : ∃ W, W = (wi.setCell ⟨r, 6, none⟩ (.slice A10 rq.length n10)) := ⟨_, rfl⟩
        rw [show (wi.setCell ⟨r, 6, none⟩ (.slice A10 rq.length n10)) = wj from hW.symm]
        replace H3 := Aside0.mk (show RowR kS 58 wj w.heap.size _ _ from by rw [hW]; exact row_set H3.out D.out (by decide) 6 (.slice A10 rq.length n10))
        replace H4 := Aside0.mk (show RowR kC 60 wj w.heap.size _ _ from by rw [hW]; exact row_set H4.out D.out (by decide) 6 (.slice A10 rq.length n10))
        replace H7 := Aside0.mk (show RowR kS 58 wj w.heap.size _ _ from by rw [hW]; exact row_set H7.out D.out (by decide) 6 (.slice A10 rq.length n10))
        replace H9 := Aside0.mk (show RowR kC 60 wj w.heap.size _ _ from by rw [hW]; exact row_set H9.out D.out (by decide) 6 (.slice A10 rq.length n10))
        replace H10 := Aside0.mk (show RowR kB 5 wj w.heap.size _ _ from by rw [hW]; exact row_set H10.out D.out (by decide) 6 (.slice A10 rq.length n10))
        replace B := Aside0.mk (show Below w.heap.size w wj from by rw [hW]; exact set_below B.out (r := r) N.out.1 6 (.slice A10 rq.length n10))
        replace Q := Aside0.mk (show wj.heap[p + 1]? = some (Z) from by rw [hW]; exact set_far Q.out N.out.2.2 6 (.slice A10 rq.length n10))
        replace D := Aside0.mk (show wj.heap[r]? = some (rawO key (.slice A7 view.length n7) (.slice A9 m.length n9) g.k2 (.slice A3 g.v2.length n3) (.slice A4 g.c2.length n4) (.slice A10 rq.length n10) (.slice A6 g.rp.length n6) g.ls g.su g.wi) from by rw [hW]; exact put1_6 D.out (.slice A10 rq.length n10))
        clear hW
        go_wp2_with fail
        refine (copyB (TC.out.below B.out) (Nat.le_trans LP.out (by decide))).mono ?_
        rintro e wk ⟨t11, rfl, h11, hb⟩
        have H11 := Aside0.mk (Kd.R_lower h11 B.out.size)
        replace D := Aside0.mk (blk_kept D.out hb)
        replace Q := Aside0.mk (blk_kept Q.out hb)
        replace H3 := Aside0.mk (Kd.R_below H3.out hb)
        replace H4 := Aside0.mk (Kd.R_below H4.out hb)
        replace H7 := Aside0.mk (Kd.R_below H7.out hb)
        replace H9 := Aside0.mk (Kd.R_below H9.out hb)
        replace H10 := Aside0.mk (Kd.R_below H10.out hb)
        replace B := Aside0.mk (below_then B.out B.out.size hb)
        clear hb h11
        obtain ⟨A11, n11, rfl⟩ := Kd.R_slice H11.out
        have d7 := blk_cell D.out 7
        have fd7 := blk_frozen D.out 7
        simp only [List.getElem?_toArray, List.getElem?_cons_zero, List.getElem?_cons_succ] at d7
        go_upto_region 11 with fail
        clear d7 fd7
        obtain ⟨wl, hW⟩ : ∃ W, W = (wk.setCell ⟨r, 7, none⟩ (.slice A11 rp.length n11)) := ⟨_, rfl⟩
        rw [show (wk.setCell ⟨r, 7, none⟩ (.slice A11 rp.length n11)) = wl from hW.symm]
        replace H3 := Aside0.mk (show RowR kS 58 wl w.heap.size _ _ from by rw [hW]; exact row_set H3.out D.out (by decide) 7 (.slice A11 rp.length n11))
        replace H4 := Aside0.mk (show RowR kC 60 wl w.heap.size _ _ from by rw [hW]; exact row_set H4.out D.out (by decide) 7 (.slice A11 rp.length n11))
        replace H7 := Aside0.mk (show RowR kS 58 wl w.heap.size _ _ from by rw [hW]; exact row_set H7.out D.out (by decide) 7 (.slice A11 rp.length n11))
        replace H9 := Aside0.mk (show RowR kC 60 wl w.heap.size _ _ from by rw [hW]; exact row_set H9.out D.out (by decide) 7 (.slice A11 rp.length n11))
        replace H10 := Aside0.mk (show RowR kB 5 wl w.heap.size _ _ from by rw [hW]; exact row_set H10.out D.out (by decide) 7 (.slice A11 rp.length n11))
        replace H11 := Aside0.mk (show RowR kB 5 wl w.heap.size _ _ from by rw [hW]; exact row_set H11.out D.out (by decide) 7 (.slice A11 rp.length n11))
        replace B := Aside0.mk (show Below w.heap.size w wl from by rw [hW]; exact set_below B.out (r := r) N.out.1 7 (.slice A11 rp.length n11))
        replace Q := Aside0.mk (show wl.heap[p + 1]? = some (Z) from by rw [hW]; exact set_far Q.out N.out.2.2 7 (.slice A11 rp.length n11))
        replace D := Aside0.mk (show wl.heap[r]? = some (rawO key (.slice A7 view.length n7) (.slice A9 m.length n9) g.k2 (.slice A3 g.v2.length n3) (.slice A4 g.c2.length n4) (.slice A10 rq.length n10) (.slice A11 rp.length n11) g.ls g.su g.wi) from by rw [hW]; exact put1_7 D.out (.slice A11 rp.length n11))
        clear hW
        have GR := Aside0.mk (show GenR wl w.heap.size (⟨key, view, m, g.k2, g.v2, g.c2, rq, rp, g.ls, g.su, g.wi⟩ : G) _ _ _ _ _ _ from ⟨H7.out, H9.out, H3.out, H4.out, H10.out, H11.out⟩)
        obtain ⟨x0, x1, x2, x3, x4, x5, x6, x7, x8, x9, x10⟩ := heldR D.out
        obtain ⟨z0, z1, z2, z3, z4, z5, z6, z7, z8, z9, z10⟩ := heldZ Q.out
        have f0 := blk_frozen Q.out 0
        have f1 := blk_frozen Q.out 1
        have f2 := blk_frozen Q.out 2
        have f3 := blk_frozen Q.out 3
        have f4 := blk_frozen Q.out 4
        have f5 := blk_frozen Q.out 5
        have f6 := blk_frozen Q.out 6
        have f7 := blk_frozen Q.out 7
        have f8 := blk_frozen Q.out 8
        have f9 := blk_frozen Q.out 9
        have f10 := blk_frozen Q.out 10
        go_wp2_with fail
        have BQ := Aside0.mk (put11_below B.out (r := (p + 1)) (by have := EP.out; omega) (.int .u32 key) (.slice A7 view.length n7) (.slice A9 m.length n9) (.int .u32 g.k2) (.slice A3 g.v2.length n3) (.slice A4 g.c2.length n4) (.slice A10 rq.length n10) (.slice A11 rp.length n11) (.bool g.ls) (.int .u8 g.su) (.int .u8 g.wi))
        have GQ := Aside0.mk (put11_rows GR.out Q.out (.int .u32 key) (.slice A7 view.length n7) (.slice A9 m.length n9) (.int .u32 g.k2) (.slice A3 g.v2.length n3) (.slice A4 g.c2.length n4) (.slice A10 rq.length n10) (.slice A11 rp.length n11) (.bool g.ls) (.int .u8 g.su) (.int .u8 g.wi))
        have DQ := put11_self (g := ⟨0, [], [], 0, [], [], [], [], false, 0, 0⟩) (g' := ((⟨key, view, m, g.k2, g.v2, g.c2, rq, rp, g.ls, g.su, g.wi⟩ : G))) Q.out (.slice A7 view.length n7) (.slice A9 m.length n9) (.slice A3 g.v2.length n3) (.slice A4 g.c2.length n4) (.slice A10 rq.length n10) (.slice A11 rp.length n11)
        obtain ⟨W9, hW9⟩ : ∃ W9, W9 = put11 wl (p + 1) (.int .u32 key) (.slice A7 view.length n7) (.slice A9 m.length n9) (.int .u32 g.k2) (.slice A3 g.v2.length n3) (.slice A4 g.c2.length n4) (.slice A10 rq.length n10) (.slice A11 rp.length n11) (.bool g.ls) (.int .u8 g.su) (.int .u8 g.wi) := ⟨_, rfl⟩
        change bodyPost _ _ _ _ _ (put11 wl (p + 1) (.int .u32 key) (.slice A7 view.length n7) (.slice A9 m.length n9) (.int .u32 g.k2) (.slice A3 g.v2.length n3) (.slice A4 g.c2.length n4) (.slice A10 rq.length n10) (.slice A11 rp.length n11) (.bool g.ls) (.int .u8 g.su) (.int .u8 g.wi))
        rw [← hW9] at BQ GQ DQ ⊢
        clear hW9 f0 z0 f1 z1 f2 z2 f3 z3 f4 z4 f5 z5 f6 z6 f7 z7 f8 z8 f9 z9 f10 z10
        obtain ⟨c0, c1, c2, c3, c4, c5, c6, c7, c8, c9, c10⟩ := heldG DQ
        exact bodyPost_ret (v := genV ((⟨key, view, m, g.k2, g.v2, g.c2, rq, rp, g.ls, g.su, g.wi⟩ : G)) (.slice A7 view.length n7) (.slice A9 m.length n9) (.slice A3 g.v2.length n3) (.slice A4 g.c2.length n4) (.slice A10 rq.length n10) (.slice A11 rp.length n11)) (by simp [results, Try.results31, go_sem, c0, c1, c2, c3, c4, c5, c6, c7, c8, c9, c10]) rfl ⟨_, _, _, _, _, _, by rw [e.out], by rw [e.out]; exact GQ.out, BQ.out⟩
      · have h2' : (how != 2) = true := bne_iff_ne.mpr h2
        have h4' : (how != 4) = true := bne_iff_ne.mpr h4
        have e := Aside0.mk (show nextP how key view added rq rp g = g from by unfold nextP; rw [if_neg h2, if_neg h4])
        clear h2 h4
        obtain ⟨z0, z1, z2, z3, z4, z5, z6, z7, z8, z9, z10⟩ := heldZ Q.out
        have f0 := blk_frozen Q.out 0
        have f1 := blk_frozen Q.out 1
        have f2 := blk_frozen Q.out 2
        have f3 := blk_frozen Q.out 3
        have f4 := blk_frozen Q.out 4
        have f5 := blk_frozen Q.out 5
        have f6 := blk_frozen Q.out 6
        have f7 := blk_frozen Q.out 7
        have f8 := blk_frozen Q.out 8
        have f9 := blk_frozen Q.out 9
        have f10 := blk_frozen Q.out 10
        go_wp2_with fail
        have BQ := Aside0.mk (put11_below B.out (r := (p + 1)) (by have := EP.out; omega) (.int .u32 g.k1) (.slice A1 g.v1.length n1) (.slice A2 g.c1.length n2) (.int .u32 g.k2) (.slice A3 g.v2.length n3) (.slice A4 g.c2.length n4) (.slice A5 g.rq.length n5) (.slice A6 g.rp.length n6) (.bool g.ls) (.int .u8 g.su) (.int .u8 g.wi))
        have GQ := Aside0.mk (put11_rows GR.out Q.out (.int .u32 g.k1) (.slice A1 g.v1.length n1) (.slice A2 g.c1.length n2) (.int .u32 g.k2) (.slice A3 g.v2.length n3) (.slice A4 g.c2.length n4) (.slice A5 g.rq.length n5) (.slice A6 g.rp.length n6) (.bool g.ls) (.int .u8 g.su) (.int .u8 g.wi))
        have DQ := put11_self (g := ⟨0, [], [], 0, [], [], [], [], false, 0, 0⟩) (g' := g) Q.out (.slice A1 g.v1.length n1) (.slice A2 g.c1.length n2) (.slice A3 g.v2.length n3) (.slice A4 g.c2.length n4) (.slice A5 g.rq.length n5) (.slice A6 g.rp.length n6)
        obtain ⟨W9, hW9⟩ : ∃ W9, W9 = put11 wc (p + 1) (.int .u32 g.k1) (.slice A1 g.v1.length n1) (.slice A2 g.c1.length n2) (.int .u32 g.k2) (.slice A3 g.v2.length n3) (.slice A4 g.c2.length n4) (.slice A5 g.rq.length n5) (.slice A6 g.rp.length n6) (.bool g.ls) (.int .u8 g.su) (.int .u8 g.wi) := ⟨_, rfl⟩
        change bodyPost _ _ _ _ _ (put11 wc (p + 1) (.int .u32 g.k1) (.slice A1 g.v1.length n1) (.slice A2 g.c1.length n2) (.int .u32 g.k2) (.slice A3 g.v2.length n3) (.slice A4 g.c2.length n4) (.slice A5 g.rq.length n5) (.slice A6 g.rp.length n6) (.bool g.ls) (.int .u8 g.su) (.int .u8 g.wi))
        rw [← hW9] at BQ GQ DQ ⊢
        clear hW9 f0 z0 f1 z1 f2 z2 f3 z3 f4 z4 f5 z5 f6 z6 f7 z7 f8 z8 f9 z9 f10 z10
        obtain ⟨c0, c1, c2, c3, c4, c5, c6, c7, c8, c9, c10⟩ := heldG DQ
        exact bodyPost_ret (v := genV g (.slice A1 g.v1.length n1) (.slice A2 g.c1.length n2) (.slice A3 g.v2.length n3) (.slice A4 g.c2.length n4) (.slice A5 g.rq.length n5) (.slice A6 g.rp.length n6)) (by simp [results, Try.results31, go_sem, c0, c1, c2, c3, c4, c5, c6, c7, c8, c9, c10]) rfl ⟨_, _, _, _, _, _, by rw [e.out], by rw [e.out]; exact GQ.out, BQ.out⟩

set_option maxRecDepth 100000 in
set_option maxHeartbeats 4000000 in
/-- a Gen anew -/
theorem copied_calls (g : G) (s1 s2 s3 s4 s5 s6 : Value) (w : World) (hg : GenC w g s1 s2 s3 s4 s5 s6) (hl : GenL g 400000) :
    Calls Try.prog 28 #[genV g s1 s2 s3 s4 s5 s6] w fun e w' => ∃ t1 t2 t3 t4 t5 t6, e = .returned (genV g t1 t2 t3 t4 t5 t6) ∧ GenR w' w.heap.size g t1 t2 t3 t4 t5 t6 ∧ Below w.heap.size w w' := by
  have h := fun W (hb : Below w.heap.size w W) => refnext_calls g s1 s2 s3 s4 s5 s6 0 0 (.slice none 0 0) (.slice none 0 0) (.slice none 0 0) (.slice none 0 0) [] [] [] [] W (hg.below hb) hl (RowC.nil _ _) (RowC.nil _ _) (RowC.nil _ _) (RowC.nil _ _) (by decide) (by decide) (by decide) (by decide)
  have H := Aside0.mk h
  have e : nextP 0 0 [] [] [] [] g = g := rfl
  clear h hg hl
  have D := Aside0.mk (heap_new (w.alloc (genO g s1 s2 s3 s4 s5 s6)) Z)
  have B := Aside0.mk ((below_al w (genO g s1 s2 s3 s4 s5 s6)).alloc (by simp) Z)
  go_enter Try.func28, Try.ntmps28
  go_wp2_with fail
  change Calls _ _ _ ((w.alloc (genO g s1 s2 s3 s4 s5 s6)).alloc Z) _
  rw [show (w.alloc (genO g s1 s2 s3 s4 s5 s6)).heap.size = w.heap.size + 1 from by simp] at D
  generalize (w.alloc (genO g s1 s2 s3 s4 s5 s6)).alloc Z = W0 at D B ⊢
  refine (H.out W0 B.out).mono ?_
  rintro e1 w1 ⟨t1, t2, t3, t4, t5, t6, rfl, h1, h2⟩
  rw [e] at h1 ⊢
  have GR := Aside0.mk (lower h1 B.out.size)
  have Q := Aside0.mk (blk_kept D.out h2)
  have BW := Aside0.mk (below_then B.out B.out.size h2)
  clear h1 h2 D B H
  obtain ⟨A1, n1, rfl⟩ := Kd.R_slice GR.out.h1
  obtain ⟨A2, n2, rfl⟩ := Kd.R_slice GR.out.h2
  obtain ⟨A3, n3, rfl⟩ := Kd.R_slice GR.out.h3
  obtain ⟨A4, n4, rfl⟩ := Kd.R_slice GR.out.h4
  obtain ⟨A5, n5, rfl⟩ := Kd.R_slice GR.out.h5
  obtain ⟨A6, n6, rfl⟩ := Kd.R_slice GR.out.h6
  obtain ⟨z0, z1, z2, z3, z4, z5, z6, z7, z8, z9, z10⟩ := heldZ Q.out
  have f0 := blk_frozen Q.out 0
  have f1 := blk_frozen Q.out 1
  have f2 := blk_frozen Q.out 2
  have f3 := blk_frozen Q.out 3
  have f4 := blk_frozen Q.out 4
  have f5 := blk_frozen Q.out 5
  have f6 := blk_frozen Q.out 6
  have f7 := blk_frozen Q.out 7
  have f8 := blk_frozen Q.out 8
  have f9 := blk_frozen Q.out 9
  have f10 := blk_frozen Q.out 10
  go_wp2_with fail
  have BQ := Aside0.mk (put11_below BW.out (r := (w.heap.size + 1)) (by omega) (.int .u32 g.k1) (.slice A1 (g).v1.length n1) (.slice A2 (g).c1.length n2) (.int .u32 g.k2) (.slice A3 (g).v2.length n3) (.slice A4 (g).c2.length n4) (.slice A5 (g).rq.length n5) (.slice A6 (g).rp.length n6) (.bool g.ls) (.int .u8 g.su) (.int .u8 g.wi))
  have GQ := Aside0.mk (put11_rows GR.out Q.out (.int .u32 g.k1) (.slice A1 (g).v1.length n1) (.slice A2 (g).c1.length n2) (.int .u32 g.k2) (.slice A3 (g).v2.length n3) (.slice A4 (g).c2.length n4) (.slice A5 (g).rq.length n5) (.slice A6 (g).rp.length n6) (.bool g.ls) (.int .u8 g.su) (.int .u8 g.wi))
  have DQ := put11_self (g := ⟨0, [], [], 0, [], [], [], [], false, 0, 0⟩) (g' := g) Q.out (.slice A1 (g).v1.length n1) (.slice A2 (g).c1.length n2) (.slice A3 (g).v2.length n3) (.slice A4 (g).c2.length n4) (.slice A5 (g).rq.length n5) (.slice A6 (g).rp.length n6)
  obtain ⟨W9, hW9⟩ : ∃ W9, W9 = put11 w1 (w.heap.size + 1) (.int .u32 g.k1) (.slice A1 (g).v1.length n1) (.slice A2 (g).c1.length n2) (.int .u32 g.k2) (.slice A3 (g).v2.length n3) (.slice A4 (g).c2.length n4) (.slice A5 (g).rq.length n5) (.slice A6 (g).rp.length n6) (.bool g.ls) (.int .u8 g.su) (.int .u8 g.wi) := ⟨_, rfl⟩
  change bodyPost _ _ _ _ _ (put11 w1 (w.heap.size + 1) (.int .u32 g.k1) (.slice A1 (g).v1.length n1) (.slice A2 (g).c1.length n2) (.int .u32 g.k2) (.slice A3 (g).v2.length n3) (.slice A4 (g).c2.length n4) (.slice A5 (g).rq.length n5) (.slice A6 (g).rp.length n6) (.bool g.ls) (.int .u8 g.su) (.int .u8 g.wi))
  rw [← hW9] at BQ GQ DQ ⊢
  clear hW9 f0 z0 f1 z1 f2 z2 f3 z3 f4 z4 f5 z5 f6 z6 f7 z7 f8 z8 f9 z9 f10 z10
  obtain ⟨c0, c1, c2, c3, c4, c5, c6, c7, c8, c9, c10⟩ := heldG DQ
  exact bodyPost_ret (v := genV g (.slice A1 (g).v1.length n1) (.slice A2 (g).c1.length n2) (.slice A3 (g).v2.length n3) (.slice A4 (g).c2.length n4) (.slice A5 (g).rq.length n5) (.slice A6 (g).rp.length n6)) (by simp [results, Try.results28, go_sem, c0, c1, c2, c3, c4, c5, c6, c7, c8, c9, c10]) rfl ⟨_, _, _, _, _, _, rfl, GQ.out, BQ.out⟩
end Go.Proofs.Ytpanefmemabckab.GenRefNext
