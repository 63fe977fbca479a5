/- GenAgain returns true at every Gen, key and rows: the walk. -/
import Derived.Test.YtpanefmemabckabGenLives
import Derived.Test.YtpanefmemabckabGenRep
namespace Go.Proofs.Ytpanefmemabckab.GenAgain
open Go.RowKit Go.Proofs.Ytpanefmemabckab.NumA Go.Proofs.Ytpanefmemabckab.GenS Go.Proofs.Ytpanefmemabckab.GenRep Go.Proofs.Ytpanefmemabckab.GenBlk Go.Proofs.Ytpanefmemabckab.GenPure Go.Proofs.Ytpanefmemabckab.GenCalls Go.Proofs.Ytpanefmemabckab.GenMore Go.Proofs.Ytpanefmemabckab.GenNext Go.Proofs.Ytpanefmemabckab.GenLives Go.Proofs.YtpanefmemabckabW.PrintWords Go.Proofs.YtpanefmemabckabW.PrintLast
open Go.Proofs.Ytpanefmemabckab.GenZero (heap_new blk_kept)
set_option linter.unusedSimpArgs false

set_option maxRecDepth 100000 in
set_option maxHeartbeats 8000000 in
theorem walk (g : G) (s1 s2 s3 s4 s5 s6 : Value) (key : Int) (sv : Value) (view : List S58) (sa : Value) (added : List S60) (sq : Value) (rq : List Int) (so : Value) (ot : List Int) (sp : Value) (rp : List Int) (w : World)
    (gc : GenC w g s1 s2 s3 s4 s5 s6) (gb : GenB g) (gl : GenL g 140737488351232) (_ : (Lit.int .u32 key).wf = true) (vc : RowC kS w sv view) (_ : view.length ≤ 140737488351232) (ac : RowC kC w sa added) (_ : added.length ≤ 140737488351232)
    (qc : RowC kB w sq rq) (qb : BytesOk rq) (ql : rq.length ≤ 140737488351232) (oc : RowC kB w so ot) (ob : BytesOk ot) (ol : ot.length ≤ 140737488351232) (pc : RowC kB w sp rp) (pb : BytesOk rp) (pl : rp.length ≤ 140737488351232) :
    Calls Try.prog 7 #[genV g s1 s2 s3 s4 s5 s6, .int .u32 key, sv, sa, sq, so, sp] w fun e w' => e = .returned (.bool true) ∧ Below w.heap.size w w' := by
  obtain ⟨Av, nv, rfl, hv1, hv2⟩ := vc
  have VC := Aside0.mk (show RowC kS w (.slice Av view.length nv) view from ⟨Av, nv, rfl, hv1, hv2⟩)
  obtain ⟨Aa, na, rfl, ha1, ha2⟩ := ac
  have AC := Aside0.mk (show RowC kC w (.slice Aa added.length na) added from ⟨Aa, na, rfl, ha1, ha2⟩)
  have GC := Aside0.mk gc
  have GB := Aside0.mk gb
  have GL := Aside0.mk gl
  have QC := Aside0.mk qc
  have QB := Aside0.mk qb
  have QL := Aside0.mk ql
  have OC := Aside0.mk oc
  have OB := Aside0.mk ob
  have OL := Aside0.mk ol
  have PC := Aside0.mk pc
  have PB := Aside0.mk pb
  have PL := Aside0.mk pl
  have hp := heap_new w (genO g s1 s2 s3 s4 s5 s6)
  obtain ⟨p, hp'⟩ : ∃ p, p = w.heap.size := ⟨_, rfl⟩
  obtain ⟨W0, hW0⟩ : ∃ W0, W0 = w.alloc (genO g s1 s2 s3 s4 s5 s6) := ⟨_, rfl⟩
  have B := Aside0.mk (below_al w (genO g s1 s2 s3 s4 s5 s6))
  rw [← hW0] at hp B
  rw [← hp'] at hp
  have P := Aside0.mk hp
  have EW := Aside0.mk hW0
  have EP := Aside0.mk hp'
  clear hp hp' hW0 gc gb gl hv1 hv2 ha1 ha2 qc qb ql oc ob ol pc pb pl
  obtain ⟨c0, c1, c2, c3, c4, c5, c6, c7, c8, c9, c10⟩ := heldG P.out
  go_enter Try.func7, Try.ntmps7
  go_upto_region 1 with fail
  change Code.wp _ _ _ _ (w.alloc (genO g s1 s2 s3 s4 s5 s6))
  rw [← EW.out, ← EP.out]
  go_wp2_with fail
  refine (great_calls (GC.out.below B.out) GL.out).mono ?_
  rintro e w1 ⟨rfl, hb⟩
  replace P := Aside0.mk (blk_kept P.out hb)
  replace B := Aside0.mk (below_then B.out B.out.size hb)
  clear hb c0 c1 c2 c3 c4 c5 c6 c7 c8 c9 c10
  obtain ⟨c0, c1, c2, c3, c4, c5, c6, c7, c8, c9, c10⟩ := heldG P.out
  cases hgr : greatB g with
  | true =>
    go_wp2_with fail
    refine (lives_calls _).mono ?_
    rintro e wz ⟨rfl, hb⟩
    replace B := Aside0.mk (below_then B.out B.out.size hb)
    clear hb c0 c1 c2 c3 c4 c5 c6 c7 c8 c9 c10
    go_wp2_with fail
    go_ret
    exact ⟨rfl, B.out⟩
  | false =>
    replace GL := Aside0.mk (great_l hgr)
    clear hgr
    by_cases a0 : g.k1 = 0
    · have b0 : (g.k1 == 0) = true := beq_iff_eq.mpr a0
      clear a0
      go_wp2_with fail
      refine (lives_calls _).mono ?_
      rintro e wz ⟨rfl, hb⟩
      replace B := Aside0.mk (below_then B.out B.out.size hb)
      clear hb c0 c1 c2 c3 c4 c5 c6 c7 c8 c9 c10
      go_wp2_with fail
      go_ret
      exact ⟨rfl, B.out⟩
    have b0 : (g.k1 == 0) = false := beq_eq_false_iff_ne.mpr a0
    have N0 := Aside0.mk a0
    clear a0
    by_cases a1 : g.k1 = g.k2
    · have b1 : (g.k1 == g.k2) = true := beq_iff_eq.mpr a1
      clear a1
      go_wp2_with fail
      refine (lives_calls _).mono ?_
      rintro e wz ⟨rfl, hb⟩
      replace B := Aside0.mk (below_then B.out B.out.size hb)
      clear hb c0 c1 c2 c3 c4 c5 c6 c7 c8 c9 c10
      go_wp2_with fail
      go_ret
      exact ⟨rfl, B.out⟩
    have b1 : (g.k1 == g.k2) = false := beq_eq_false_iff_ne.mpr a1
    have N1 := Aside0.mk a1
    clear a1
    by_cases a2 : key = 0
    · have b2 : (key == 0) = true := beq_iff_eq.mpr a2
      clear a2
      go_wp2_with fail
      refine (lives_calls _).mono ?_
      rintro e wz ⟨rfl, hb⟩
      replace B := Aside0.mk (below_then B.out B.out.size hb)
      clear hb c0 c1 c2 c3 c4 c5 c6 c7 c8 c9 c10
      go_wp2_with fail
      go_ret
      exact ⟨rfl, B.out⟩
    have b2 : (key == 0) = false := beq_eq_false_iff_ne.mpr a2
    have N2 := Aside0.mk a2
    clear a2
    by_cases a3 : key = g.k1
    · have b3 : (key == g.k1) = true := beq_iff_eq.mpr a3
      clear a3
      go_wp2_with fail
      refine (lives_calls _).mono ?_
      rintro e wz ⟨rfl, hb⟩
      replace B := Aside0.mk (below_then B.out B.out.size hb)
      clear hb c0 c1 c2 c3 c4 c5 c6 c7 c8 c9 c10
      go_wp2_with fail
      go_ret
      exact ⟨rfl, B.out⟩
    have b3 : (key == g.k1) = false := beq_eq_false_iff_ne.mpr a3
    have N3 := Aside0.mk a3
    clear a3
    by_cases a4 : key = g.k2
    · have b4 : (key == g.k2) = true := beq_iff_eq.mpr a4
      clear a4
      go_wp2_with fail
      refine (lives_calls _).mono ?_
      rintro e wz ⟨rfl, hb⟩
      replace B := Aside0.mk (below_then B.out B.out.size hb)
      clear hb c0 c1 c2 c3 c4 c5 c6 c7 c8 c9 c10
      go_wp2_with fail
      go_ret
      exact ⟨rfl, B.out⟩
    have b4 : (key == g.k2) = false := beq_eq_false_iff_ne.mpr a4
    have N4 := Aside0.mk a4
    clear a4
    by_cases l0 : 400 < view.length
    · skip
      go_wp2_with fail
      refine (lives_calls _).mono ?_
      rintro e wz ⟨rfl, hb⟩
      replace B := Aside0.mk (below_then B.out B.out.size hb)
      clear hb c0 c1 c2 c3 c4 c5 c6 c7 c8 c9 c10
      go_wp2_with fail
      go_ret
      exact ⟨rfl, B.out⟩
    by_cases l1 : 300 < added.length
    · skip
      go_wp2_with fail
      refine (lives_calls _).mono ?_
      rintro e wz ⟨rfl, hb⟩
      replace B := Aside0.mk (below_then B.out B.out.size hb)
      clear hb c0 c1 c2 c3 c4 c5 c6 c7 c8 c9 c10
      go_wp2_with fail
      go_ret
      exact ⟨rfl, B.out⟩
    have LV := Aside0.mk (show view.length ≤ 400 from by omega)
    have LA := Aside0.mk (show added.length ≤ 300 from by omega)
    go_upto_region 3 with fail
    clear l0 l1 b0 b1 b2 b3 b4
    go_wp2_with fail
    refine (next_calls g s1 s2 s3 s4 s5 s6 2 key _ _ _ _ view added rq rp _ (GC.out.below B.out) GL.out (VC.out.below B.out) (AC.out.below B.out) (QC.out.below B.out) (PC.out.below B.out) (Nat.le_trans LV.out (by decide)) (Nat.le_trans LA.out (by decide)) QL.out PL.out).mono ?_
    rintro e w2 ⟨t1, t2, t3, t4, t5, t6, rfl, hx, hb⟩
    obtain ⟨X, hX⟩ : ∃ X, X = nextP 2 key view added rq rp g := ⟨_, rfl⟩
    rw [← hX] at hx ⊢
    obtain ⟨A1, n1, rfl⟩ := Kd.R_slice hx.h1
    obtain ⟨A2, n2, rfl⟩ := Kd.R_slice hx.h2
    obtain ⟨A3, n3, rfl⟩ := Kd.R_slice hx.h3
    obtain ⟨A4, n4, rfl⟩ := Kd.R_slice hx.h4
    obtain ⟨A5, n5, rfl⟩ := Kd.R_slice hx.h5
    obtain ⟨A6, n6, rfl⟩ := Kd.R_slice hx.h6
    have XO := Aside0.mk (heap_new w2 (genO X (.slice A1 X.v1.length n1) (.slice A2 X.c1.length n2) (.slice A3 X.v2.length n3) (.slice A4 X.c2.length n4) (.slice A5 X.rq.length n5) (.slice A6 X.rp.length n6)))
    have XC := Aside0.mk ((GenC.of hx).below (below_al w2 (genO X (.slice A1 X.v1.length n1) (.slice A2 X.c1.length n2) (.slice A3 X.v2.length n3) (.slice A4 X.c2.length n4) (.slice A5 X.rq.length n5) (.slice A6 X.rp.length n6))))
    replace P := Aside0.mk (blk_alloc (blk_kept P.out hb) (genO X (.slice A1 X.v1.length n1) (.slice A2 X.c1.length n2) (.slice A3 X.v2.length n3) (.slice A4 X.c2.length n4) (.slice A5 X.rq.length n5) (.slice A6 X.rp.length n6)))
    replace B := Aside0.mk ((below_then B.out B.out.size hb).trans ((below_al w2 (genO X (.slice A1 X.v1.length n1) (.slice A2 X.c1.length n2) (.slice A3 X.v2.length n3) (.slice A4 X.c2.length n4) (.slice A5 X.rq.length n5) (.slice A6 X.rp.length n6))).mono (below_then B.out B.out.size hb).size))
    have EX := Aside0.mk hX
    clear hx hb hX c0 c1 c2 c3 c4 c5 c6 c7 c8 c9 c10
    obtain ⟨x, hx⟩ : ∃ x, x = w2.heap.size := ⟨_, rfl⟩
    rw [← hx] at XO
    have EQ := Aside0.mk hx
    clear hx
    go_upto_region 4 with fail
    change Code.wp _ _ _ _ (w2.alloc (genO X (.slice A1 X.v1.length n1) (.slice A2 X.c1.length n2) (.slice A3 X.v2.length n3) (.slice A4 X.c2.length n4) (.slice A5 X.rq.length n5) (.slice A6 X.rp.length n6)))
    rw [← EQ.out]
    generalize w2.alloc (genO X (.slice A1 X.v1.length n1) (.slice A2 X.c1.length n2) (.slice A3 X.v2.length n3) (.slice A4 X.c2.length n4) (.slice A5 X.rq.length n5) (.slice A6 X.rp.length n6)) = w3 at P B XO XC ⊢
    have XB := Aside0.mk (show GenB X from by rw [EX.out]; exact ⟨QB.out, PB.out⟩)
    obtain ⟨c0, c1, c2, c3, c4, c5, c6, c7, c8, c9, c10⟩ := heldG P.out
    obtain ⟨d0, d1, d2, d3, d4, d5, d6, d7, d8, d9, d10⟩ := heldG XO.out
    have HW1 := Aside0.mk (show howP X key ot = 2 from by rw [EX.out]; simp [howP, nextP, N2.out])
    have HW2 := Aside0.mk (show howP X g.k1 rq = 3 from by rw [EX.out]; simp [howP, nextP, N2.out, Ne.symm N3.out])
    have HW3 := Aside0.mk (show g.k2 ≠ 0 → howP X g.k2 rq = 0 from fun h => by rw [EX.out]; simp [howP, nextP, h, Ne.symm N4.out, Ne.symm N1.out])
    have HW4 := Aside0.mk (show howP X g.k1 ot = if ot = rq then 3 else 4 from by rw [EX.out]; simp [howP, nextP, N2.out, N0.out, Ne.symm N3.out])
    have XL := Aside0.mk (show GenL X 400000 from by rw [EX.out]; exact ⟨Nat.le_trans LV.out (by decide), Nat.le_trans LA.out (by decide), GL.out.h1, GL.out.h2, QL.out, PL.out⟩)
    have XV2 := Aside0.mk (show X.v2 = g.v1 from by rw [EX.out]; rfl)
    have XC1 := Aside0.mk (show X.c1 = added from by rw [EX.out]; rfl)
    have XC2 := Aside0.mk (show X.c2 = g.c1 from by rw [EX.out]; rfl)
    have XK2 := Aside0.mk (show X.k2 = g.k1 from by rw [EX.out]; rfl)
    have XRP := Aside0.mk (show X.rp = rp from by rw [EX.out]; rfl)
    clear N0 N1 N2 N3 N4 EX
    go_wp2_with fail
    refine (how_calls XC.out (OC.out.below B.out) XB.out OB.out).mono ?_
    rintro e wn ⟨rfl, hb⟩
    rw [HW1.out]
    replace P := Aside0.mk (blk_kept P.out hb)
    replace XO := Aside0.mk (blk_kept XO.out hb)
    replace XC := Aside0.mk (XC.out.below hb)
    replace B := Aside0.mk (below_then B.out B.out.size hb)
    clear hb
    clear c0 c1 c2 c3 c4 c5 c6 c7 c8 c9 c10 d0 d1 d2 d3 d4 d5 d6 d7 d8 d9 d10
    obtain ⟨c0, c1, c2, c3, c4, c5, c6, c7, c8, c9, c10⟩ := heldG P.out
    obtain ⟨d0, d1, d2, d3, d4, d5, d6, d7, d8, d9, d10⟩ := heldG XO.out
    go_wp2_with fail
    refine (how_calls XC.out (QC.out.below B.out) XB.out QB.out).mono ?_
    rintro e wn ⟨rfl, hb⟩
    rw [HW2.out]
    replace P := Aside0.mk (blk_kept P.out hb)
    replace XO := Aside0.mk (blk_kept XO.out hb)
    replace XC := Aside0.mk (XC.out.below hb)
    replace B := Aside0.mk (below_then B.out B.out.size hb)
    clear hb
    clear c0 c1 c2 c3 c4 c5 c6 c7 c8 c9 c10 d0 d1 d2 d3 d4 d5 d6 d7 d8 d9 d10
    obtain ⟨c0, c1, c2, c3, c4, c5, c6, c7, c8, c9, c10⟩ := heldG P.out
    obtain ⟨d0, d1, d2, d3, d4, d5, d6, d7, d8, d9, d10⟩ := heldG XO.out
    by_cases z : g.k2 = 0
    · have z' : (g.k2 != 0) = false := by simp [z]
      by_cases eo : ot = rq
      · have DD := Aside0.mk (show decide (rq = ot) = true from decide_eq_true eo.symm)
        have DR := Aside0.mk (show decide (X.rp = rp) = true from decide_eq_true XRP.out)
        have HV := Aside0.mk (show howP X g.k1 ot = 3 from by rw [HW4.out, if_pos eo])
        clear eo
        go_wp2_with fail
        refine (how_calls XC.out (OC.out.below B.out) XB.out OB.out).mono ?_
        rintro e wn ⟨rfl, hb⟩
        rw [HV.out]
        replace P := Aside0.mk (blk_kept P.out hb)
        replace XO := Aside0.mk (blk_kept XO.out hb)
        replace XC := Aside0.mk (XC.out.below hb)
        replace B := Aside0.mk (below_then B.out B.out.size hb)
        clear hb
        clear c0 c1 c2 c3 c4 c5 c6 c7 c8 c9 c10 d0 d1 d2 d3 d4 d5 d6 d7 d8 d9 d10
        obtain ⟨c0, c1, c2, c3, c4, c5, c6, c7, c8, c9, c10⟩ := heldG P.out
        obtain ⟨d0, d1, d2, d3, d4, d5, d6, d7, d8, d9, d10⟩ := heldG XO.out
        go_wp2_with fail
        refine (bytes_same (QC.out.below B.out) (OC.out.below B.out) QB.out OB.out).mono ?_
        rintro e wn ⟨rfl, hb⟩
        rw [DD.out]
        replace P := Aside0.mk (blk_kept P.out hb)
        replace XO := Aside0.mk (blk_kept XO.out hb)
        replace XC := Aside0.mk (XC.out.below hb)
        replace B := Aside0.mk (below_then B.out B.out.size hb)
        clear hb
        clear c0 c1 c2 c3 c4 c5 c6 c7 c8 c9 c10 d0 d1 d2 d3 d4 d5 d6 d7 d8 d9 d10
        obtain ⟨c0, c1, c2, c3, c4, c5, c6, c7, c8, c9, c10⟩ := heldG P.out
        obtain ⟨d0, d1, d2, d3, d4, d5, d6, d7, d8, d9, d10⟩ := heldG XO.out
        go_wp2_with fail
        refine (bytes_same (l := X.rp) XC.out.h6 (PC.out.below B.out) XB.out.2 PB.out).mono ?_
        rintro e wn ⟨rfl, hb⟩
        rw [DR.out]
        replace P := Aside0.mk (blk_kept P.out hb)
        replace XO := Aside0.mk (blk_kept XO.out hb)
        replace XC := Aside0.mk (XC.out.below hb)
        replace B := Aside0.mk (below_then B.out B.out.size hb)
        clear hb
        clear c0 c1 c2 c3 c4 c5 c6 c7 c8 c9 c10 d0 d1 d2 d3 d4 d5 d6 d7 d8 d9 d10
        obtain ⟨c0, c1, c2, c3, c4, c5, c6, c7, c8, c9, c10⟩ := heldG P.out
        obtain ⟨d0, d1, d2, d3, d4, d5, d6, d7, d8, d9, d10⟩ := heldG XO.out
        go_wp2_with fail
        refine (base4 XC.out XL.out).mono ?_
        rintro e wn ⟨v, u, rfl, hv, hu, hb⟩
        have V := Aside0.mk hv
        clear hv hu
        replace P := Aside0.mk (blk_kept P.out hb)
        replace XO := Aside0.mk (blk_kept XO.out hb)
        replace XC := Aside0.mk (XC.out.below hb)
        replace B := Aside0.mk (below_then B.out B.out.size hb)
        clear hb
        clear c0 c1 c2 c3 c4 c5 c6 c7 c8 c9 c10 d0 d1 d2 d3 d4 d5 d6 d7 d8 d9 d10
        obtain ⟨c0, c1, c2, c3, c4, c5, c6, c7, c8, c9, c10⟩ := heldG P.out
        obtain ⟨d0, d1, d2, d3, d4, d5, d6, d7, d8, d9, d10⟩ := heldG XO.out
        go_wp2_with fail
        refine (next_calls X _ _ _ _ _ _ 4 key _ _ _ _ view added ot rp _ XC.out XL.out (VC.out.below B.out) (AC.out.below B.out) (OC.out.below B.out) (PC.out.below B.out) (Nat.le_trans LV.out (by decide)) (Nat.le_trans LA.out (by decide)) OL.out PL.out).mono ?_
        rintro e w8 ⟨t1, t2, t3, t4, t5, t6, rfl, hy, hb⟩
        obtain ⟨Y, hY⟩ : ∃ Y, Y = nextP 4 key view added ot rp X := ⟨_, rfl⟩
        rw [← hY] at hy ⊢
        obtain ⟨C1, m1, rfl⟩ := Kd.R_slice hy.h1
        obtain ⟨C2, m2, rfl⟩ := Kd.R_slice hy.h2
        obtain ⟨C3, m3, rfl⟩ := Kd.R_slice hy.h3
        obtain ⟨C4, m4, rfl⟩ := Kd.R_slice hy.h4
        obtain ⟨C5, m5, rfl⟩ := Kd.R_slice hy.h5
        obtain ⟨C6, m6, rfl⟩ := Kd.R_slice hy.h6
        have YO := Aside0.mk (heap_new w8 (genO Y (.slice C1 Y.v1.length m1) (.slice C2 Y.c1.length m2) (.slice C3 Y.v2.length m3) (.slice C4 Y.c2.length m4) (.slice C5 Y.rq.length m5) (.slice C6 Y.rp.length m6)))
        have YC := Aside0.mk ((GenC.of hy).below (below_al w8 (genO Y (.slice C1 Y.v1.length m1) (.slice C2 Y.c1.length m2) (.slice C3 Y.v2.length m3) (.slice C4 Y.c2.length m4) (.slice C5 Y.rq.length m5) (.slice C6 Y.rp.length m6))))
        replace V := Aside0.mk ((V.out.below hb).below (below_al w8 (genO Y (.slice C1 Y.v1.length m1) (.slice C2 Y.c1.length m2) (.slice C3 Y.v2.length m3) (.slice C4 Y.c2.length m4) (.slice C5 Y.rq.length m5) (.slice C6 Y.rp.length m6))))
        replace P := Aside0.mk (blk_alloc (blk_kept P.out hb) (genO Y (.slice C1 Y.v1.length m1) (.slice C2 Y.c1.length m2) (.slice C3 Y.v2.length m3) (.slice C4 Y.c2.length m4) (.slice C5 Y.rq.length m5) (.slice C6 Y.rp.length m6)))
        replace B := Aside0.mk ((below_then B.out B.out.size hb).trans ((below_al w8 (genO Y (.slice C1 Y.v1.length m1) (.slice C2 Y.c1.length m2) (.slice C3 Y.v2.length m3) (.slice C4 Y.c2.length m4) (.slice C5 Y.rq.length m5) (.slice C6 Y.rp.length m6))).mono (below_then B.out B.out.size hb).size))
        have YV2 := Aside0.mk (show Y.v2 = g.v1 from by rw [hY]; exact XV2.out)
        have YC2 := Aside0.mk (show Y.c2 = g.c1 from by rw [hY]; exact XC2.out)
        have YK2 := Aside0.mk (show Y.k2 = g.k1 from by rw [hY]; exact XK2.out)
        have YL := Aside0.mk (show Y.c1.length = 2 * added.length from by rw [hY]; show (X.c1 ++ added).length = _; rw [XC1.out, List.length_append]; omega)
        clear hy hb hY XO XC c0 c1 c2 c3 c4 c5 c6 c7 c8 c9 c10 d0 d1 d2 d3 d4 d5 d6 d7 d8 d9 d10
        obtain ⟨y, hy⟩ : ∃ y, y = w8.heap.size := ⟨_, rfl⟩
        rw [← hy] at YO
        have EQ' := Aside0.mk hy
        clear hy
        go_upto_region 10 with fail
        change Code.wp _ _ _ _ (w8.alloc (genO Y (.slice C1 Y.v1.length m1) (.slice C2 Y.c1.length m2) (.slice C3 Y.v2.length m3) (.slice C4 Y.c2.length m4) (.slice C5 Y.rq.length m5) (.slice C6 Y.rp.length m6)))
        rw [← EQ'.out]
        generalize w8.alloc (genO Y (.slice C1 Y.v1.length m1) (.slice C2 Y.c1.length m2) (.slice C3 Y.v2.length m3) (.slice C4 Y.c2.length m4) (.slice C5 Y.rq.length m5) (.slice C6 Y.rp.length m6)) = w9 at P B YO YC V ⊢
        obtain ⟨c0, c1, c2, c3, c4, c5, c6, c7, c8, c9, c10⟩ := heldG P.out
        obtain ⟨d0, d1, d2, d3, d4, d5, d6, d7, d8, d9, d10⟩ := heldG YO.out
        rw [YK2.out] at d3
        rw [XV2.out] at V
        go_wp2_with fail
        refine (seen_eq V.out (GC.out.h1.below B.out) (Nat.le_trans GL.out.h1 (by decide))).mono ?_
        rintro e wn ⟨rfl, hb⟩
        replace P := Aside0.mk (blk_kept P.out hb)
        replace YO := Aside0.mk (blk_kept YO.out hb)
        replace YC := Aside0.mk (YC.out.below hb)
        replace B := Aside0.mk (below_then B.out B.out.size hb)
        clear hb
        clear c0 c1 c2 c3 c4 c5 c6 c7 c8 c9 c10 d0 d1 d2 d3 d4 d5 d6 d7 d8 d9 d10
        obtain ⟨c0, c1, c2, c3, c4, c5, c6, c7, c8, c9, c10⟩ := heldG P.out
        obtain ⟨d0, d1, d2, d3, d4, d5, d6, d7, d8, d9, d10⟩ := heldG YO.out
        rw [YK2.out] at d3
        go_wp2_with fail
        refine (seen_eq (l := g.v1) (YV2.out ▸ YC.out.h3) (GC.out.h1.below B.out) (Nat.le_trans GL.out.h1 (by decide))).mono ?_
        rintro e wn ⟨rfl, hb⟩
        replace P := Aside0.mk (blk_kept P.out hb)
        replace YO := Aside0.mk (blk_kept YO.out hb)
        replace YC := Aside0.mk (YC.out.below hb)
        replace B := Aside0.mk (below_then B.out B.out.size hb)
        clear hb
        clear c0 c1 c2 c3 c4 c5 c6 c7 c8 c9 c10 d0 d1 d2 d3 d4 d5 d6 d7 d8 d9 d10
        obtain ⟨c0, c1, c2, c3, c4, c5, c6, c7, c8, c9, c10⟩ := heldG P.out
        obtain ⟨d0, d1, d2, d3, d4, d5, d6, d7, d8, d9, d10⟩ := heldG YO.out
        rw [YK2.out] at d3
        go_wp2_with fail
        refine (clients_eq (l := g.c1) (YC2.out ▸ YC.out.h4) (GC.out.h2.below B.out) (Nat.le_trans GL.out.h2 (by decide))).mono ?_
        rintro e wn ⟨rfl, hb⟩
        replace P := Aside0.mk (blk_kept P.out hb)
        replace YO := Aside0.mk (blk_kept YO.out hb)
        replace YC := Aside0.mk (YC.out.below hb)
        replace B := Aside0.mk (below_then B.out B.out.size hb)
        clear hb
        clear c0 c1 c2 c3 c4 c5 c6 c7 c8 c9 c10 d0 d1 d2 d3 d4 d5 d6 d7 d8 d9 d10
        obtain ⟨c0, c1, c2, c3, c4, c5, c6, c7, c8, c9, c10⟩ := heldG P.out
        obtain ⟨d0, d1, d2, d3, d4, d5, d6, d7, d8, d9, d10⟩ := heldG YO.out
        rw [YK2.out] at d3
        have ly := YL.out
        have la := LA.out
        rw [ly] at d2
        go_wp2_with fail
        refine (lives_calls _).mono ?_
        rintro e wz ⟨rfl, hb⟩
        replace B := Aside0.mk (below_then B.out B.out.size hb)
        clear hb P YO YC V c0 c1 c2 c3 c4 c5 c6 c7 c8 c9 c10 d0 d1 d2 d3 d4 d5 d6 d7 d8 d9 d10
        go_wp2_with fail
        go_ret
        exact ⟨rfl, B.out⟩
      · have DD := Aside0.mk (show decide (rq = ot) = false from decide_eq_false (fun h => eo h.symm))
        have DR := Aside0.mk (show decide (X.rp = rp) = true from decide_eq_true XRP.out)
        have HV := Aside0.mk (show howP X g.k1 ot = 4 from by rw [HW4.out, if_neg eo])
        clear eo
        go_wp2_with fail
        refine (how_calls XC.out (OC.out.below B.out) XB.out OB.out).mono ?_
        rintro e wn ⟨rfl, hb⟩
        rw [HV.out]
        replace P := Aside0.mk (blk_kept P.out hb)
        replace XO := Aside0.mk (blk_kept XO.out hb)
        replace XC := Aside0.mk (XC.out.below hb)
        replace B := Aside0.mk (below_then B.out B.out.size hb)
        clear hb
        clear c0 c1 c2 c3 c4 c5 c6 c7 c8 c9 c10 d0 d1 d2 d3 d4 d5 d6 d7 d8 d9 d10
        obtain ⟨c0, c1, c2, c3, c4, c5, c6, c7, c8, c9, c10⟩ := heldG P.out
        obtain ⟨d0, d1, d2, d3, d4, d5, d6, d7, d8, d9, d10⟩ := heldG XO.out
        go_wp2_with fail
        refine (bytes_same (QC.out.below B.out) (OC.out.below B.out) QB.out OB.out).mono ?_
        rintro e wn ⟨rfl, hb⟩
        rw [DD.out]
        replace P := Aside0.mk (blk_kept P.out hb)
        replace XO := Aside0.mk (blk_kept XO.out hb)
        replace XC := Aside0.mk (XC.out.below hb)
        replace B := Aside0.mk (below_then B.out B.out.size hb)
        clear hb
        clear c0 c1 c2 c3 c4 c5 c6 c7 c8 c9 c10 d0 d1 d2 d3 d4 d5 d6 d7 d8 d9 d10
        obtain ⟨c0, c1, c2, c3, c4, c5, c6, c7, c8, c9, c10⟩ := heldG P.out
        obtain ⟨d0, d1, d2, d3, d4, d5, d6, d7, d8, d9, d10⟩ := heldG XO.out
        go_wp2_with fail
        refine (bytes_same (l := X.rp) XC.out.h6 (PC.out.below B.out) XB.out.2 PB.out).mono ?_
        rintro e wn ⟨rfl, hb⟩
        rw [DR.out]
        replace P := Aside0.mk (blk_kept P.out hb)
        replace XO := Aside0.mk (blk_kept XO.out hb)
        replace XC := Aside0.mk (XC.out.below hb)
        replace B := Aside0.mk (below_then B.out B.out.size hb)
        clear hb
        clear c0 c1 c2 c3 c4 c5 c6 c7 c8 c9 c10 d0 d1 d2 d3 d4 d5 d6 d7 d8 d9 d10
        obtain ⟨c0, c1, c2, c3, c4, c5, c6, c7, c8, c9, c10⟩ := heldG P.out
        obtain ⟨d0, d1, d2, d3, d4, d5, d6, d7, d8, d9, d10⟩ := heldG XO.out
        go_wp2_with fail
        refine (base4 XC.out XL.out).mono ?_
        rintro e wn ⟨v, u, rfl, hv, hu, hb⟩
        have V := Aside0.mk hv
        clear hv hu
        replace P := Aside0.mk (blk_kept P.out hb)
        replace XO := Aside0.mk (blk_kept XO.out hb)
        replace XC := Aside0.mk (XC.out.below hb)
        replace B := Aside0.mk (below_then B.out B.out.size hb)
        clear hb
        clear c0 c1 c2 c3 c4 c5 c6 c7 c8 c9 c10 d0 d1 d2 d3 d4 d5 d6 d7 d8 d9 d10
        obtain ⟨c0, c1, c2, c3, c4, c5, c6, c7, c8, c9, c10⟩ := heldG P.out
        obtain ⟨d0, d1, d2, d3, d4, d5, d6, d7, d8, d9, d10⟩ := heldG XO.out
        go_wp2_with fail
        refine (next_calls X _ _ _ _ _ _ 4 key _ _ _ _ view added ot rp _ XC.out XL.out (VC.out.below B.out) (AC.out.below B.out) (OC.out.below B.out) (PC.out.below B.out) (Nat.le_trans LV.out (by decide)) (Nat.le_trans LA.out (by decide)) OL.out PL.out).mono ?_
        rintro e w8 ⟨t1, t2, t3, t4, t5, t6, rfl, hy, hb⟩
        obtain ⟨Y, hY⟩ : ∃ Y, Y = nextP 4 key view added ot rp X := ⟨_, rfl⟩
        rw [← hY] at hy ⊢
        obtain ⟨C1, m1, rfl⟩ := Kd.R_slice hy.h1
        obtain ⟨C2, m2, rfl⟩ := Kd.R_slice hy.h2
        obtain ⟨C3, m3, rfl⟩ := Kd.R_slice hy.h3
        obtain ⟨C4, m4, rfl⟩ := Kd.R_slice hy.h4
        obtain ⟨C5, m5, rfl⟩ := Kd.R_slice hy.h5
        obtain ⟨C6, m6, rfl⟩ := Kd.R_slice hy.h6
        have YO := Aside0.mk (heap_new w8 (genO Y (.slice C1 Y.v1.length m1) (.slice C2 Y.c1.length m2) (.slice C3 Y.v2.length m3) (.slice C4 Y.c2.length m4) (.slice C5 Y.rq.length m5) (.slice C6 Y.rp.length m6)))
        have YC := Aside0.mk ((GenC.of hy).below (below_al w8 (genO Y (.slice C1 Y.v1.length m1) (.slice C2 Y.c1.length m2) (.slice C3 Y.v2.length m3) (.slice C4 Y.c2.length m4) (.slice C5 Y.rq.length m5) (.slice C6 Y.rp.length m6))))
        replace V := Aside0.mk ((V.out.below hb).below (below_al w8 (genO Y (.slice C1 Y.v1.length m1) (.slice C2 Y.c1.length m2) (.slice C3 Y.v2.length m3) (.slice C4 Y.c2.length m4) (.slice C5 Y.rq.length m5) (.slice C6 Y.rp.length m6))))
        replace P := Aside0.mk (blk_alloc (blk_kept P.out hb) (genO Y (.slice C1 Y.v1.length m1) (.slice C2 Y.c1.length m2) (.slice C3 Y.v2.length m3) (.slice C4 Y.c2.length m4) (.slice C5 Y.rq.length m5) (.slice C6 Y.rp.length m6)))
        replace B := Aside0.mk ((below_then B.out B.out.size hb).trans ((below_al w8 (genO Y (.slice C1 Y.v1.length m1) (.slice C2 Y.c1.length m2) (.slice C3 Y.v2.length m3) (.slice C4 Y.c2.length m4) (.slice C5 Y.rq.length m5) (.slice C6 Y.rp.length m6))).mono (below_then B.out B.out.size hb).size))
        have YV2 := Aside0.mk (show Y.v2 = g.v1 from by rw [hY]; exact XV2.out)
        have YC2 := Aside0.mk (show Y.c2 = g.c1 from by rw [hY]; exact XC2.out)
        have YK2 := Aside0.mk (show Y.k2 = g.k1 from by rw [hY]; exact XK2.out)
        have YL := Aside0.mk (show Y.c1.length = 2 * added.length from by rw [hY]; show (X.c1 ++ added).length = _; rw [XC1.out, List.length_append]; omega)
        clear hy hb hY XO XC c0 c1 c2 c3 c4 c5 c6 c7 c8 c9 c10 d0 d1 d2 d3 d4 d5 d6 d7 d8 d9 d10
        obtain ⟨y, hy⟩ : ∃ y, y = w8.heap.size := ⟨_, rfl⟩
        rw [← hy] at YO
        have EQ' := Aside0.mk hy
        clear hy
        go_upto_region 10 with fail
        change Code.wp _ _ _ _ (w8.alloc (genO Y (.slice C1 Y.v1.length m1) (.slice C2 Y.c1.length m2) (.slice C3 Y.v2.length m3) (.slice C4 Y.c2.length m4) (.slice C5 Y.rq.length m5) (.slice C6 Y.rp.length m6)))
        rw [← EQ'.out]
        generalize w8.alloc (genO Y (.slice C1 Y.v1.length m1) (.slice C2 Y.c1.length m2) (.slice C3 Y.v2.length m3) (.slice C4 Y.c2.length m4) (.slice C5 Y.rq.length m5) (.slice C6 Y.rp.length m6)) = w9 at P B YO YC V ⊢
        obtain ⟨c0, c1, c2, c3, c4, c5, c6, c7, c8, c9, c10⟩ := heldG P.out
        obtain ⟨d0, d1, d2, d3, d4, d5, d6, d7, d8, d9, d10⟩ := heldG YO.out
        rw [YK2.out] at d3
        rw [XV2.out] at V
        go_wp2_with fail
        refine (seen_eq V.out (GC.out.h1.below B.out) (Nat.le_trans GL.out.h1 (by decide))).mono ?_
        rintro e wn ⟨rfl, hb⟩
        replace P := Aside0.mk (blk_kept P.out hb)
        replace YO := Aside0.mk (blk_kept YO.out hb)
        replace YC := Aside0.mk (YC.out.below hb)
        replace B := Aside0.mk (below_then B.out B.out.size hb)
        clear hb
        clear c0 c1 c2 c3 c4 c5 c6 c7 c8 c9 c10 d0 d1 d2 d3 d4 d5 d6 d7 d8 d9 d10
        obtain ⟨c0, c1, c2, c3, c4, c5, c6, c7, c8, c9, c10⟩ := heldG P.out
        obtain ⟨d0, d1, d2, d3, d4, d5, d6, d7, d8, d9, d10⟩ := heldG YO.out
        rw [YK2.out] at d3
        go_wp2_with fail
        refine (seen_eq (l := g.v1) (YV2.out ▸ YC.out.h3) (GC.out.h1.below B.out) (Nat.le_trans GL.out.h1 (by decide))).mono ?_
        rintro e wn ⟨rfl, hb⟩
        replace P := Aside0.mk (blk_kept P.out hb)
        replace YO := Aside0.mk (blk_kept YO.out hb)
        replace YC := Aside0.mk (YC.out.below hb)
        replace B := Aside0.mk (below_then B.out B.out.size hb)
        clear hb
        clear c0 c1 c2 c3 c4 c5 c6 c7 c8 c9 c10 d0 d1 d2 d3 d4 d5 d6 d7 d8 d9 d10
        obtain ⟨c0, c1, c2, c3, c4, c5, c6, c7, c8, c9, c10⟩ := heldG P.out
        obtain ⟨d0, d1, d2, d3, d4, d5, d6, d7, d8, d9, d10⟩ := heldG YO.out
        rw [YK2.out] at d3
        go_wp2_with fail
        refine (clients_eq (l := g.c1) (YC2.out ▸ YC.out.h4) (GC.out.h2.below B.out) (Nat.le_trans GL.out.h2 (by decide))).mono ?_
        rintro e wn ⟨rfl, hb⟩
        replace P := Aside0.mk (blk_kept P.out hb)
        replace YO := Aside0.mk (blk_kept YO.out hb)
        replace YC := Aside0.mk (YC.out.below hb)
        replace B := Aside0.mk (below_then B.out B.out.size hb)
        clear hb
        clear c0 c1 c2 c3 c4 c5 c6 c7 c8 c9 c10 d0 d1 d2 d3 d4 d5 d6 d7 d8 d9 d10
        obtain ⟨c0, c1, c2, c3, c4, c5, c6, c7, c8, c9, c10⟩ := heldG P.out
        obtain ⟨d0, d1, d2, d3, d4, d5, d6, d7, d8, d9, d10⟩ := heldG YO.out
        rw [YK2.out] at d3
        have ly := YL.out
        have la := LA.out
        rw [ly] at d2
        go_wp2_with fail
        refine (lives_calls _).mono ?_
        rintro e wz ⟨rfl, hb⟩
        replace B := Aside0.mk (below_then B.out B.out.size hb)
        clear hb P YO YC V c0 c1 c2 c3 c4 c5 c6 c7 c8 c9 c10 d0 d1 d2 d3 d4 d5 d6 d7 d8 d9 d10
        go_wp2_with fail
        go_ret
        exact ⟨rfl, B.out⟩
    · have z' : (g.k2 != 0) = true := bne_iff_ne.mpr z
      have HZ := Aside0.mk (HW3.out z)
      clear z
      go_wp2_with fail
      refine (how_calls XC.out (QC.out.below B.out) XB.out QB.out).mono ?_
      rintro e wn ⟨rfl, hb⟩
      rw [HZ.out]
      replace P := Aside0.mk (blk_kept P.out hb)
      replace XO := Aside0.mk (blk_kept XO.out hb)
      replace XC := Aside0.mk (XC.out.below hb)
      replace B := Aside0.mk (below_then B.out B.out.size hb)
      clear hb
      clear c0 c1 c2 c3 c4 c5 c6 c7 c8 c9 c10 d0 d1 d2 d3 d4 d5 d6 d7 d8 d9 d10
      obtain ⟨c0, c1, c2, c3, c4, c5, c6, c7, c8, c9, c10⟩ := heldG P.out
      obtain ⟨d0, d1, d2, d3, d4, d5, d6, d7, d8, d9, d10⟩ := heldG XO.out
      by_cases eo : ot = rq
      · have DD := Aside0.mk (show decide (rq = ot) = true from decide_eq_true eo.symm)
        have DR := Aside0.mk (show decide (X.rp = rp) = true from decide_eq_true XRP.out)
        have HV := Aside0.mk (show howP X g.k1 ot = 3 from by rw [HW4.out, if_pos eo])
        clear eo
        go_wp2_with fail
        refine (how_calls XC.out (OC.out.below B.out) XB.out OB.out).mono ?_
        rintro e wn ⟨rfl, hb⟩
        rw [HV.out]
        replace P := Aside0.mk (blk_kept P.out hb)
        replace XO := Aside0.mk (blk_kept XO.out hb)
        replace XC := Aside0.mk (XC.out.below hb)
        replace B := Aside0.mk (below_then B.out B.out.size hb)
        clear hb
        clear c0 c1 c2 c3 c4 c5 c6 c7 c8 c9 c10 d0 d1 d2 d3 d4 d5 d6 d7 d8 d9 d10
        obtain ⟨c0, c1, c2, c3, c4, c5, c6, c7, c8, c9, c10⟩ := heldG P.out
        obtain ⟨d0, d1, d2, d3, d4, d5, d6, d7, d8, d9, d10⟩ := heldG XO.out
        go_wp2_with fail
        refine (bytes_same (QC.out.below B.out) (OC.out.below B.out) QB.out OB.out).mono ?_
        rintro e wn ⟨rfl, hb⟩
        rw [DD.out]
        replace P := Aside0.mk (blk_kept P.out hb)
        replace XO := Aside0.mk (blk_kept XO.out hb)
        replace XC := Aside0.mk (XC.out.below hb)
        replace B := Aside0.mk (below_then B.out B.out.size hb)
        clear hb
        clear c0 c1 c2 c3 c4 c5 c6 c7 c8 c9 c10 d0 d1 d2 d3 d4 d5 d6 d7 d8 d9 d10
        obtain ⟨c0, c1, c2, c3, c4, c5, c6, c7, c8, c9, c10⟩ := heldG P.out
        obtain ⟨d0, d1, d2, d3, d4, d5, d6, d7, d8, d9, d10⟩ := heldG XO.out
        go_wp2_with fail
        refine (bytes_same (l := X.rp) XC.out.h6 (PC.out.below B.out) XB.out.2 PB.out).mono ?_
        rintro e wn ⟨rfl, hb⟩
        rw [DR.out]
        replace P := Aside0.mk (blk_kept P.out hb)
        replace XO := Aside0.mk (blk_kept XO.out hb)
        replace XC := Aside0.mk (XC.out.below hb)
        replace B := Aside0.mk (below_then B.out B.out.size hb)
        clear hb
        clear c0 c1 c2 c3 c4 c5 c6 c7 c8 c9 c10 d0 d1 d2 d3 d4 d5 d6 d7 d8 d9 d10
        obtain ⟨c0, c1, c2, c3, c4, c5, c6, c7, c8, c9, c10⟩ := heldG P.out
        obtain ⟨d0, d1, d2, d3, d4, d5, d6, d7, d8, d9, d10⟩ := heldG XO.out
        go_wp2_with fail
        refine (base4 XC.out XL.out).mono ?_
        rintro e wn ⟨v, u, rfl, hv, hu, hb⟩
        have V := Aside0.mk hv
        clear hv hu
        replace P := Aside0.mk (blk_kept P.out hb)
        replace XO := Aside0.mk (blk_kept XO.out hb)
        replace XC := Aside0.mk (XC.out.below hb)
        replace B := Aside0.mk (below_then B.out B.out.size hb)
        clear hb
        clear c0 c1 c2 c3 c4 c5 c6 c7 c8 c9 c10 d0 d1 d2 d3 d4 d5 d6 d7 d8 d9 d10
        obtain ⟨c0, c1, c2, c3, c4, c5, c6, c7, c8, c9, c10⟩ := heldG P.out
        obtain ⟨d0, d1, d2, d3, d4, d5, d6, d7, d8, d9, d10⟩ := heldG XO.out
        go_wp2_with fail
        refine (next_calls X _ _ _ _ _ _ 4 key _ _ _ _ view added ot rp _ XC.out XL.out (VC.out.below B.out) (AC.out.below B.out) (OC.out.below B.out) (PC.out.below B.out) (Nat.le_trans LV.out (by decide)) (Nat.le_trans LA.out (by decide)) OL.out PL.out).mono ?_
        rintro e w8 ⟨t1, t2, t3, t4, t5, t6, rfl, hy, hb⟩
        obtain ⟨Y, hY⟩ : ∃ Y, Y = nextP 4 key view added ot rp X := ⟨_, rfl⟩
        rw [← hY] at hy ⊢
        obtain ⟨C1, m1, rfl⟩ := Kd.R_slice hy.h1
        obtain ⟨C2, m2, rfl⟩ := Kd.R_slice hy.h2
        obtain ⟨C3, m3, rfl⟩ := Kd.R_slice hy.h3
        obtain ⟨C4, m4, rfl⟩ := Kd.R_slice hy.h4
        obtain ⟨C5, m5, rfl⟩ := Kd.R_slice hy.h5
        obtain ⟨C6, m6, rfl⟩ := Kd.R_slice hy.h6
        have YO := Aside0.mk (heap_new w8 (genO Y (.slice C1 Y.v1.length m1) (.slice C2 Y.c1.length m2) (.slice C3 Y.v2.length m3) (.slice C4 Y.c2.length m4) (.slice C5 Y.rq.length m5) (.slice C6 Y.rp.length m6)))
        have YC := Aside0.mk ((GenC.of hy).below (below_al w8 (genO Y (.slice C1 Y.v1.length m1) (.slice C2 Y.c1.length m2) (.slice C3 Y.v2.length m3) (.slice C4 Y.c2.length m4) (.slice C5 Y.rq.length m5) (.slice C6 Y.rp.length m6))))
        replace V := Aside0.mk ((V.out.below hb).below (below_al w8 (genO Y (.slice C1 Y.v1.length m1) (.slice C2 Y.c1.length m2) (.slice C3 Y.v2.length m3) (.slice C4 Y.c2.length m4) (.slice C5 Y.rq.length m5) (.slice C6 Y.rp.length m6))))
        replace P := Aside0.mk (blk_alloc (blk_kept P.out hb) (genO Y (.slice C1 Y.v1.length m1) (.slice C2 Y.c1.length m2) (.slice C3 Y.v2.length m3) (.slice C4 Y.c2.length m4) (.slice C5 Y.rq.length m5) (.slice C6 Y.rp.length m6)))
        replace B := Aside0.mk ((below_then B.out B.out.size hb).trans ((below_al w8 (genO Y (.slice C1 Y.v1.length m1) (.slice C2 Y.c1.length m2) (.slice C3 Y.v2.length m3) (.slice C4 Y.c2.length m4) (.slice C5 Y.rq.length m5) (.slice C6 Y.rp.length m6))).mono (below_then B.out B.out.size hb).size))
        have YV2 := Aside0.mk (show Y.v2 = g.v1 from by rw [hY]; exact XV2.out)
        have YC2 := Aside0.mk (show Y.c2 = g.c1 from by rw [hY]; exact XC2.out)
        have YK2 := Aside0.mk (show Y.k2 = g.k1 from by rw [hY]; exact XK2.out)
        have YL := Aside0.mk (show Y.c1.length = 2 * added.length from by rw [hY]; show (X.c1 ++ added).length = _; rw [XC1.out, List.length_append]; omega)
        clear hy hb hY XO XC c0 c1 c2 c3 c4 c5 c6 c7 c8 c9 c10 d0 d1 d2 d3 d4 d5 d6 d7 d8 d9 d10
        obtain ⟨y, hy⟩ : ∃ y, y = w8.heap.size := ⟨_, rfl⟩
        rw [← hy] at YO
        have EQ' := Aside0.mk hy
        clear hy
        go_upto_region 10 with fail
        change Code.wp _ _ _ _ (w8.alloc (genO Y (.slice C1 Y.v1.length m1) (.slice C2 Y.c1.length m2) (.slice C3 Y.v2.length m3) (.slice C4 Y.c2.length m4) (.slice C5 Y.rq.length m5) (.slice C6 Y.rp.length m6)))
        rw [← EQ'.out]
        generalize w8.alloc (genO Y (.slice C1 Y.v1.length m1) (.slice C2 Y.c1.length m2) (.slice C3 Y.v2.length m3) (.slice C4 Y.c2.length m4) (.slice C5 Y.rq.length m5) (.slice C6 Y.rp.length m6)) = w9 at P B YO YC V ⊢
        obtain ⟨c0, c1, c2, c3, c4, c5, c6, c7, c8, c9, c10⟩ := heldG P.out
        obtain ⟨d0, d1, d2, d3, d4, d5, d6, d7, d8, d9, d10⟩ := heldG YO.out
        rw [YK2.out] at d3
        rw [XV2.out] at V
        go_wp2_with fail
        refine (seen_eq V.out (GC.out.h1.below B.out) (Nat.le_trans GL.out.h1 (by decide))).mono ?_
        rintro e wn ⟨rfl, hb⟩
        replace P := Aside0.mk (blk_kept P.out hb)
        replace YO := Aside0.mk (blk_kept YO.out hb)
        replace YC := Aside0.mk (YC.out.below hb)
        replace B := Aside0.mk (below_then B.out B.out.size hb)
        clear hb
        clear c0 c1 c2 c3 c4 c5 c6 c7 c8 c9 c10 d0 d1 d2 d3 d4 d5 d6 d7 d8 d9 d10
        obtain ⟨c0, c1, c2, c3, c4, c5, c6, c7, c8, c9, c10⟩ := heldG P.out
        obtain ⟨d0, d1, d2, d3, d4, d5, d6, d7, d8, d9, d10⟩ := heldG YO.out
        rw [YK2.out] at d3
        go_wp2_with fail
        refine (seen_eq (l := g.v1) (YV2.out ▸ YC.out.h3) (GC.out.h1.below B.out) (Nat.le_trans GL.out.h1 (by decide))).mono ?_
        rintro e wn ⟨rfl, hb⟩
        replace P := Aside0.mk (blk_kept P.out hb)
        replace YO := Aside0.mk (blk_kept YO.out hb)
        replace YC := Aside0.mk (YC.out.below hb)
        replace B := Aside0.mk (below_then B.out B.out.size hb)
        clear hb
        clear c0 c1 c2 c3 c4 c5 c6 c7 c8 c9 c10 d0 d1 d2 d3 d4 d5 d6 d7 d8 d9 d10
        obtain ⟨c0, c1, c2, c3, c4, c5, c6, c7, c8, c9, c10⟩ := heldG P.out
        obtain ⟨d0, d1, d2, d3, d4, d5, d6, d7, d8, d9, d10⟩ := heldG YO.out
        rw [YK2.out] at d3
        go_wp2_with fail
        refine (clients_eq (l := g.c1) (YC2.out ▸ YC.out.h4) (GC.out.h2.below B.out) (Nat.le_trans GL.out.h2 (by decide))).mono ?_
        rintro e wn ⟨rfl, hb⟩
        replace P := Aside0.mk (blk_kept P.out hb)
        replace YO := Aside0.mk (blk_kept YO.out hb)
        replace YC := Aside0.mk (YC.out.below hb)
        replace B := Aside0.mk (below_then B.out B.out.size hb)
        clear hb
        clear c0 c1 c2 c3 c4 c5 c6 c7 c8 c9 c10 d0 d1 d2 d3 d4 d5 d6 d7 d8 d9 d10
        obtain ⟨c0, c1, c2, c3, c4, c5, c6, c7, c8, c9, c10⟩ := heldG P.out
        obtain ⟨d0, d1, d2, d3, d4, d5, d6, d7, d8, d9, d10⟩ := heldG YO.out
        rw [YK2.out] at d3
        have ly := YL.out
        have la := LA.out
        rw [ly] at d2
        go_wp2_with fail
        refine (lives_calls _).mono ?_
        rintro e wz ⟨rfl, hb⟩
        replace B := Aside0.mk (below_then B.out B.out.size hb)
        clear hb P YO YC V c0 c1 c2 c3 c4 c5 c6 c7 c8 c9 c10 d0 d1 d2 d3 d4 d5 d6 d7 d8 d9 d10
        go_wp2_with fail
        go_ret
        exact ⟨rfl, B.out⟩
      · have DD := Aside0.mk (show decide (rq = ot) = false from decide_eq_false (fun h => eo h.symm))
        have DR := Aside0.mk (show decide (X.rp = rp) = true from decide_eq_true XRP.out)
        have HV := Aside0.mk (show howP X g.k1 ot = 4 from by rw [HW4.out, if_neg eo])
        clear eo
        go_wp2_with fail
        refine (how_calls XC.out (OC.out.below B.out) XB.out OB.out).mono ?_
        rintro e wn ⟨rfl, hb⟩
        rw [HV.out]
        replace P := Aside0.mk (blk_kept P.out hb)
        replace XO := Aside0.mk (blk_kept XO.out hb)
        replace XC := Aside0.mk (XC.out.below hb)
        replace B := Aside0.mk (below_then B.out B.out.size hb)
        clear hb
        clear c0 c1 c2 c3 c4 c5 c6 c7 c8 c9 c10 d0 d1 d2 d3 d4 d5 d6 d7 d8 d9 d10
        obtain ⟨c0, c1, c2, c3, c4, c5, c6, c7, c8, c9, c10⟩ := heldG P.out
        obtain ⟨d0, d1, d2, d3, d4, d5, d6, d7, d8, d9, d10⟩ := heldG XO.out
        go_wp2_with fail
        refine (bytes_same (QC.out.below B.out) (OC.out.below B.out) QB.out OB.out).mono ?_
        rintro e wn ⟨rfl, hb⟩
        rw [DD.out]
        replace P := Aside0.mk (blk_kept P.out hb)
        replace XO := Aside0.mk (blk_kept XO.out hb)
        replace XC := Aside0.mk (XC.out.below hb)
        replace B := Aside0.mk (below_then B.out B.out.size hb)
        clear hb
        clear c0 c1 c2 c3 c4 c5 c6 c7 c8 c9 c10 d0 d1 d2 d3 d4 d5 d6 d7 d8 d9 d10
        obtain ⟨c0, c1, c2, c3, c4, c5, c6, c7, c8, c9, c10⟩ := heldG P.out
        obtain ⟨d0, d1, d2, d3, d4, d5, d6, d7, d8, d9, d10⟩ := heldG XO.out
        go_wp2_with fail
        refine (bytes_same (l := X.rp) XC.out.h6 (PC.out.below B.out) XB.out.2 PB.out).mono ?_
        rintro e wn ⟨rfl, hb⟩
        rw [DR.out]
        replace P := Aside0.mk (blk_kept P.out hb)
        replace XO := Aside0.mk (blk_kept XO.out hb)
        replace XC := Aside0.mk (XC.out.below hb)
        replace B := Aside0.mk (below_then B.out B.out.size hb)
        clear hb
        clear c0 c1 c2 c3 c4 c5 c6 c7 c8 c9 c10 d0 d1 d2 d3 d4 d5 d6 d7 d8 d9 d10
        obtain ⟨c0, c1, c2, c3, c4, c5, c6, c7, c8, c9, c10⟩ := heldG P.out
        obtain ⟨d0, d1, d2, d3, d4, d5, d6, d7, d8, d9, d10⟩ := heldG XO.out
        go_wp2_with fail
        refine (base4 XC.out XL.out).mono ?_
        rintro e wn ⟨v, u, rfl, hv, hu, hb⟩
        have V := Aside0.mk hv
        clear hv hu
        replace P := Aside0.mk (blk_kept P.out hb)
        replace XO := Aside0.mk (blk_kept XO.out hb)
        replace XC := Aside0.mk (XC.out.below hb)
        replace B := Aside0.mk (below_then B.out B.out.size hb)
        clear hb
        clear c0 c1 c2 c3 c4 c5 c6 c7 c8 c9 c10 d0 d1 d2 d3 d4 d5 d6 d7 d8 d9 d10
        obtain ⟨c0, c1, c2, c3, c4, c5, c6, c7, c8, c9, c10⟩ := heldG P.out
        obtain ⟨d0, d1, d2, d3, d4, d5, d6, d7, d8, d9, d10⟩ := heldG XO.out
        go_wp2_with fail
        refine (next_calls X _ _ _ _ _ _ 4 key _ _ _ _ view added ot rp _ XC.out XL.out (VC.out.below B.out) (AC.out.below B.out) (OC.out.below B.out) (PC.out.below B.out) (Nat.le_trans LV.out (by decide)) (Nat.le_trans LA.out (by decide)) OL.out PL.out).mono ?_
        rintro e w8 ⟨t1, t2, t3, t4, t5, t6, rfl, hy, hb⟩
        obtain ⟨Y, hY⟩ : ∃ Y, Y = nextP 4 key view added ot rp X := ⟨_, rfl⟩
        rw [← hY] at hy ⊢
        obtain ⟨C1, m1, rfl⟩ := Kd.R_slice hy.h1
        obtain ⟨C2, m2, rfl⟩ := Kd.R_slice hy.h2
        obtain ⟨C3, m3, rfl⟩ := Kd.R_slice hy.h3
        obtain ⟨C4, m4, rfl⟩ := Kd.R_slice hy.h4
        obtain ⟨C5, m5, rfl⟩ := Kd.R_slice hy.h5
        obtain ⟨C6, m6, rfl⟩ := Kd.R_slice hy.h6
        have YO := Aside0.mk (heap_new w8 (genO Y (.slice C1 Y.v1.length m1) (.slice C2 Y.c1.length m2) (.slice C3 Y.v2.length m3) (.slice C4 Y.c2.length m4) (.slice C5 Y.rq.length m5) (.slice C6 Y.rp.length m6)))
        have YC := Aside0.mk ((GenC.of hy).below (below_al w8 (genO Y (.slice C1 Y.v1.length m1) (.slice C2 Y.c1.length m2) (.slice C3 Y.v2.length m3) (.slice C4 Y.c2.length m4) (.slice C5 Y.rq.length m5) (.slice C6 Y.rp.length m6))))
        replace V := Aside0.mk ((V.out.below hb).below (below_al w8 (genO Y (.slice C1 Y.v1.length m1) (.slice C2 Y.c1.length m2) (.slice C3 Y.v2.length m3) (.slice C4 Y.c2.length m4) (.slice C5 Y.rq.length m5) (.slice C6 Y.rp.length m6))))
        replace P := Aside0.mk (blk_alloc (blk_kept P.out hb) (genO Y (.slice C1 Y.v1.length m1) (.slice C2 Y.c1.length m2) (.slice C3 Y.v2.length m3) (.slice C4 Y.c2.length m4) (.slice C5 Y.rq.length m5) (.slice C6 Y.rp.length m6)))
        replace B := Aside0.mk ((below_then B.out B.out.size hb).trans ((below_al w8 (genO Y (.slice C1 Y.v1.length m1) (.slice C2 Y.c1.length m2) (.slice C3 Y.v2.length m3) (.slice C4 Y.c2.length m4) (.slice C5 Y.rq.length m5) (.slice C6 Y.rp.length m6))).mono (below_then B.out B.out.size hb).size))
        have YV2 := Aside0.mk (show Y.v2 = g.v1 from by rw [hY]; exact XV2.out)
        have YC2 := Aside0.mk (show Y.c2 = g.c1 from by rw [hY]; exact XC2.out)
        have YK2 := Aside0.mk (show Y.k2 = g.k1 from by rw [hY]; exact XK2.out)
        have YL := Aside0.mk (show Y.c1.length = 2 * added.length from by rw [hY]; show (X.c1 ++ added).length = _; rw [XC1.out, List.length_append]; omega)
        clear hy hb hY XO XC c0 c1 c2 c3 c4 c5 c6 c7 c8 c9 c10 d0 d1 d2 d3 d4 d5 d6 d7 d8 d9 d10
        obtain ⟨y, hy⟩ : ∃ y, y = w8.heap.size := ⟨_, rfl⟩
        rw [← hy] at YO
        have EQ' := Aside0.mk hy
        clear hy
        go_upto_region 10 with fail
        change Code.wp _ _ _ _ (w8.alloc (genO Y (.slice C1 Y.v1.length m1) (.slice C2 Y.c1.length m2) (.slice C3 Y.v2.length m3) (.slice C4 Y.c2.length m4) (.slice C5 Y.rq.length m5) (.slice C6 Y.rp.length m6)))
        rw [← EQ'.out]
        generalize w8.alloc (genO Y (.slice C1 Y.v1.length m1) (.slice C2 Y.c1.length m2) (.slice C3 Y.v2.length m3) (.slice C4 Y.c2.length m4) (.slice C5 Y.rq.length m5) (.slice C6 Y.rp.length m6)) = w9 at P B YO YC V ⊢
        obtain ⟨c0, c1, c2, c3, c4, c5, c6, c7, c8, c9, c10⟩ := heldG P.out
        obtain ⟨d0, d1, d2, d3, d4, d5, d6, d7, d8, d9, d10⟩ := heldG YO.out
        rw [YK2.out] at d3
        rw [XV2.out] at V
        go_wp2_with fail
        refine (seen_eq V.out (GC.out.h1.below B.out) (Nat.le_trans GL.out.h1 (by decide))).mono ?_
        rintro e wn ⟨rfl, hb⟩
        replace P := Aside0.mk (blk_kept P.out hb)
        replace YO := Aside0.mk (blk_kept YO.out hb)
        replace YC := Aside0.mk (YC.out.below hb)
        replace B := Aside0.mk (below_then B.out B.out.size hb)
        clear hb
        clear c0 c1 c2 c3 c4 c5 c6 c7 c8 c9 c10 d0 d1 d2 d3 d4 d5 d6 d7 d8 d9 d10
        obtain ⟨c0, c1, c2, c3, c4, c5, c6, c7, c8, c9, c10⟩ := heldG P.out
        obtain ⟨d0, d1, d2, d3, d4, d5, d6, d7, d8, d9, d10⟩ := heldG YO.out
        rw [YK2.out] at d3
        go_wp2_with fail
        refine (seen_eq (l := g.v1) (YV2.out ▸ YC.out.h3) (GC.out.h1.below B.out) (Nat.le_trans GL.out.h1 (by decide))).mono ?_
        rintro e wn ⟨rfl, hb⟩
        replace P := Aside0.mk (blk_kept P.out hb)
        replace YO := Aside0.mk (blk_kept YO.out hb)
        replace YC := Aside0.mk (YC.out.below hb)
        replace B := Aside0.mk (below_then B.out B.out.size hb)
        clear hb
        clear c0 c1 c2 c3 c4 c5 c6 c7 c8 c9 c10 d0 d1 d2 d3 d4 d5 d6 d7 d8 d9 d10
        obtain ⟨c0, c1, c2, c3, c4, c5, c6, c7, c8, c9, c10⟩ := heldG P.out
        obtain ⟨d0, d1, d2, d3, d4, d5, d6, d7, d8, d9, d10⟩ := heldG YO.out
        rw [YK2.out] at d3
        go_wp2_with fail
        refine (clients_eq (l := g.c1) (YC2.out ▸ YC.out.h4) (GC.out.h2.below B.out) (Nat.le_trans GL.out.h2 (by decide))).mono ?_
        rintro e wn ⟨rfl, hb⟩
        replace P := Aside0.mk (blk_kept P.out hb)
        replace YO := Aside0.mk (blk_kept YO.out hb)
        replace YC := Aside0.mk (YC.out.below hb)
        replace B := Aside0.mk (below_then B.out B.out.size hb)
        clear hb
        clear c0 c1 c2 c3 c4 c5 c6 c7 c8 c9 c10 d0 d1 d2 d3 d4 d5 d6 d7 d8 d9 d10
        obtain ⟨c0, c1, c2, c3, c4, c5, c6, c7, c8, c9, c10⟩ := heldG P.out
        obtain ⟨d0, d1, d2, d3, d4, d5, d6, d7, d8, d9, d10⟩ := heldG YO.out
        rw [YK2.out] at d3
        have ly := YL.out
        have la := LA.out
        rw [ly] at d2
        go_wp2_with fail
        refine (lives_calls _).mono ?_
        rintro e wz ⟨rfl, hb⟩
        replace B := Aside0.mk (below_then B.out B.out.size hb)
        clear hb P YO YC V c0 c1 c2 c3 c4 c5 c6 c7 c8 c9 c10 d0 d1 d2 d3 d4 d5 d6 d7 d8 d9 d10
        go_wp2_with fail
        go_ret
        exact ⟨rfl, B.out⟩
end Go.Proofs.Ytpanefmemabckab.GenAgain
