/- GenSames returns true at every two Gens and number: the walk. -/
import Derived.Test.YtpanefmemabckabGenLives
import Derived.Test.YtpanefmemabckabGenSame
import Derived.Test.YtpanefmemabckabGenChanged
namespace Go.Proofs.Ytpanefmemabckab.GenSames
open Go.RowKit Go.Proofs.Ytpanefmemabckab.NumA Go.Proofs.Ytpanefmemabckab.GenS Go.Proofs.Ytpanefmemabckab.GenRep Go.Proofs.Ytpanefmemabckab.GenBlk Go.Proofs.Ytpanefmemabckab.GenPure Go.Proofs.Ytpanefmemabckab.GenRefNext Go.Proofs.Ytpanefmemabckab.GenLives Go.Proofs.Ytpanefmemabckab.GenChanged Go.Proofs.YtpanefmemabckabW.PrintWords Go.Proofs.YtpanefmemabckabW.PrintLast
open Go.Proofs.Ytpanefmemabckab.GenCalls (great_calls greatB great_l)
open Go.Proofs.Ytpanefmemabckab.GenZero (heap_new blk_kept blk_drew1)
set_option linter.unusedSimpArgs false
set_option linter.unusedVariables false

theorem rs {w : World} {g h : G} {b : Bool} {s1 s2 s3 s4 s5 s6 t1 t2 t3 t4 t5 t6 : Value} (e : sameB g h = b) (hg : GenC w g s1 s2 s3 s4 s5 s6) (hh : GenC w h t1 t2 t3 t4 t5 t6) (lg : GenL g 400000) (bg : GenB g) (bh : GenB h) :
    Calls Try.prog 30 #[genV g s1 s2 s3 s4 s5 s6, genV h t1 t2 t3 t4 t5 t6] w fun e w' => e = .returned (.bool b) ∧ Below w.heap.size w w' := by
  subst e; exact GenCalls.same_calls hg hh lg bg bh
theorem gs {w : World} {g h : G} {b : Bool} {s1 s2 s3 s4 s5 s6 t1 t2 t3 t4 t5 t6 : Value} (e : sameB g h = b) (hg : GenC w g s1 s2 s3 s4 s5 s6) (hh : GenC w h t1 t2 t3 t4 t5 t6) (lg : GenL g 400000) (bg : GenB g) (bh : GenB h) :
    Calls Try.prog 38 #[genV g s1 s2 s3 s4 s5 s6, genV h t1 t2 t3 t4 t5 t6] w fun e w' => e = .returned (.bool b) ∧ Below w.heap.size w w' := by
  subst e; exact GenSame.same_calls hg hh lg bg bh
theorem great_m {g : G} (h : greatB g = false) : GenL g 1000 ∧ g.rq.length ≤ 100000 ∧ g.rp.length ≤ 100000 := by
  unfold greatB at h
  simp only [Bool.or_eq_false_iff, decide_eq_false_iff_not] at h
  exact ⟨⟨by omega, by omega, by omega, by omega, by omega, by omega⟩, by omega, by omega⟩
theorem not_same {g h : G} (e : g ≠ h) : sameB g h = false := by
  cases hb : sameB g h with
  | false => rfl
  | true => exact absurd ((sameB_iff g h).1 hb) e
/-- what stands, all along -/
structure Held (w w3 W : World) (p x : Nat) (g h X : G) (s1 s2 s3 s4 s5 s6 u1 u2 u3 u4 u5 u6 d1 d2 d3 d4 d5 d6 : Value) : Prop where
  p0 : W.heap[p]? = some (genO g s1 s2 s3 s4 s5 s6)
  p1 : W.heap[p + 1]? = some (genO h u1 u2 u3 u4 u5 u6)
  px : W.heap[x]? = some (genO X d1 d2 d3 d4 d5 d6)
  b : Below w.heap.size w W
  b3 : Below w3.heap.size w3 W
section
variable {w w3 W W' : World} {p x : Nat} {g h X : G} {s1 s2 s3 s4 s5 s6 u1 u2 u3 u4 u5 u6 d1 d2 d3 d4 d5 d6 : Value}
theorem Held.kept (k : Held w w3 W p x g h X s1 s2 s3 s4 s5 s6 u1 u2 u3 u4 u5 u6 d1 d2 d3 d4 d5 d6) (hb : Below W.heap.size W W') : Held w w3 W' p x g h X s1 s2 s3 s4 s5 s6 u1 u2 u3 u4 u5 u6 d1 d2 d3 d4 d5 d6 :=
  ⟨blk_kept k.p0 hb, blk_kept k.p1 hb, blk_kept k.px hb, below_then k.b k.b.size hb, below_then k.b3 k.b3.size hb⟩
theorem held33 {w' : World} (k : Held w w3 w' p x g h X s1 s2 s3 s4 s5 s6 u1 u2 u3 u4 u5 u6 d1 d2 d3 d4 d5 d6) : w'.cell? ⟨p, 0, none⟩ = some (.int .u32 g.k1) ∧ w'.cell? ⟨p, 1, none⟩ = some s1 ∧ w'.cell? ⟨p, 2, none⟩ = some s2 ∧ w'.cell? ⟨p, 3, none⟩ = some (.int .u32 g.k2) ∧ w'.cell? ⟨p, 4, none⟩ = some s3 ∧ w'.cell? ⟨p, 5, none⟩ = some s4 ∧ w'.cell? ⟨p, 6, none⟩ = some s5 ∧ w'.cell? ⟨p, 7, none⟩ = some s6 ∧ w'.cell? ⟨p, 8, none⟩ = some (.bool g.ls) ∧ w'.cell? ⟨p, 9, none⟩ = some (.int .u8 g.su) ∧ w'.cell? ⟨p, 10, none⟩ = some (.int .u8 g.wi) ∧ w'.cell? ⟨p + 1, 0, none⟩ = some (.int .u32 h.k1) ∧ w'.cell? ⟨p + 1, 1, none⟩ = some u1 ∧ w'.cell? ⟨p + 1, 2, none⟩ = some u2 ∧ w'.cell? ⟨p + 1, 3, none⟩ = some (.int .u32 h.k2) ∧ w'.cell? ⟨p + 1, 4, none⟩ = some u3 ∧ w'.cell? ⟨p + 1, 5, none⟩ = some u4 ∧ w'.cell? ⟨p + 1, 6, none⟩ = some u5 ∧ w'.cell? ⟨p + 1, 7, none⟩ = some u6 ∧ w'.cell? ⟨p + 1, 8, none⟩ = some (.bool h.ls) ∧ w'.cell? ⟨p + 1, 9, none⟩ = some (.int .u8 h.su) ∧ w'.cell? ⟨p + 1, 10, none⟩ = some (.int .u8 h.wi) ∧ w'.cell? ⟨x, 0, none⟩ = some (.int .u32 X.k1) ∧ w'.cell? ⟨x, 1, none⟩ = some d1 ∧ w'.cell? ⟨x, 2, none⟩ = some d2 ∧ w'.cell? ⟨x, 3, none⟩ = some (.int .u32 X.k2) ∧ w'.cell? ⟨x, 4, none⟩ = some d3 ∧ w'.cell? ⟨x, 5, none⟩ = some d4 ∧ w'.cell? ⟨x, 6, none⟩ = some d5 ∧ w'.cell? ⟨x, 7, none⟩ = some d6 ∧ w'.cell? ⟨x, 8, none⟩ = some (.bool X.ls) ∧ w'.cell? ⟨x, 9, none⟩ = some (.int .u8 X.su) ∧ w'.cell? ⟨x, 10, none⟩ = some (.int .u8 X.wi) :=
  ⟨blk_cell k.p0 0, blk_cell k.p0 1, blk_cell k.p0 2, blk_cell k.p0 3, blk_cell k.p0 4, blk_cell k.p0 5, blk_cell k.p0 6, blk_cell k.p0 7, blk_cell k.p0 8, blk_cell k.p0 9, blk_cell k.p0 10, blk_cell k.p1 0, blk_cell k.p1 1, blk_cell k.p1 2, blk_cell k.p1 3, blk_cell k.p1 4, blk_cell k.p1 5, blk_cell k.p1 6, blk_cell k.p1 7, blk_cell k.p1 8, blk_cell k.p1 9, blk_cell k.p1 10, blk_cell k.px 0, blk_cell k.px 1, blk_cell k.px 2, blk_cell k.px 3, blk_cell k.px 4, blk_cell k.px 5, blk_cell k.px 6, blk_cell k.px 7, blk_cell k.px 8, blk_cell k.px 9, blk_cell k.px 10⟩
end

set_option maxRecDepth 100000 in
set_option maxHeartbeats 8000000 in
theorem walk (g : G) (s1 s2 s3 s4 s5 s6 : Value) (h : G) (u1 u2 u3 u4 u5 u6 : Value) (which : Int) (w : World)
    (gc : GenC w g s1 s2 s3 s4 s5 s6) (gb : GenB g) (gl : GenL g 140737488351232) (hc : GenC w h u1 u2 u3 u4 u5 u6) (hb : GenB h) (hl : GenL h 140737488351232) (wh : (Lit.int .u8 which).wf = true) :
    Calls Try.prog 8 #[genV g s1 s2 s3 s4 s5 s6, genV h u1 u2 u3 u4 u5 u6, .int .u8 which] w fun e w' => e = .returned (.bool true) ∧ Below w.heap.size w w' := by
  have GC := Aside0.mk gc
  have GB := Aside0.mk gb
  have GL := Aside0.mk gl
  have HC := Aside0.mk hc
  have HB := Aside0.mk hb
  have HL := Aside0.mk hl
  have WH : Aside0 (0 ≤ which ∧ which < 256) := by
    obtain ⟨n, rfl, hn⟩ := Bytes.nat_u8 wh
    exact ⟨by omega, by omega⟩
  have hp := blk_alloc (heap_new w (genO g s1 s2 s3 s4 s5 s6)) (genO h u1 u2 u3 u4 u5 u6)
  have hq := heap_new (w.alloc (genO g s1 s2 s3 s4 s5 s6)) (genO h u1 u2 u3 u4 u5 u6)
  have hB : Below w.heap.size w ((w.alloc (genO g s1 s2 s3 s4 s5 s6)).alloc (genO h u1 u2 u3 u4 u5 u6)) := ((Below.refl _ _).alloc (Nat.le_refl _) _).alloc (by simp) _
  rw [show (w.alloc (genO g s1 s2 s3 s4 s5 s6)).heap.size = w.heap.size + 1 from by simp] at hq
  obtain ⟨p, hp'⟩ : ∃ p, p = w.heap.size := ⟨_, rfl⟩
  obtain ⟨W0, hW0⟩ : ∃ W0, W0 = (w.alloc (genO g s1 s2 s3 s4 s5 s6)).alloc (genO h u1 u2 u3 u4 u5 u6) := ⟨_, rfl⟩
  rw [← hW0] at hp hq hB
  rw [← hp'] at hp hq
  have P := Aside0.mk hp
  have Q := Aside0.mk hq
  have B := Aside0.mk hB
  have EW := Aside0.mk hW0
  have EP := Aside0.mk hp'
  obtain ⟨c0, c1, c2, c3, c4, c5, c6, c7, c8, c9, c10⟩ := heldG P.out
  clear hp hq hB hp' hW0 gc gb gl hc hb hl wh
  go_enter Try.func8, Try.ntmps8
  go_upto_region 1 with fail
  change Code.wp _ _ _ _ ((w.alloc (genO g s1 s2 s3 s4 s5 s6)).alloc (genO h u1 u2 u3 u4 u5 u6))
  rw [← EW.out, ← EP.out]
  go_wp2_with fail
  refine (great_calls (GC.out.below B.out) GL.out).mono ?_
  rintro e w1 ⟨rfl, hb⟩
  replace P := Aside0.mk (blk_kept P.out hb)
  replace Q := Aside0.mk (blk_kept Q.out hb)
  replace B := Aside0.mk (below_then B.out B.out.size hb)
  clear hb c0 c1 c2 c3 c4 c5 c6 c7 c8 c9 c10
  cases hgr : greatB g with
  | true =>
    go_wp2_with fail
    refine (lives_calls _).mono ?_
    rintro e wz ⟨rfl, hb⟩
    have BZ := Aside0.mk (below_then B.out B.out.size hb)
    clear hb
    go_wp2_with fail
    go_ret
    exact ⟨rfl, BZ.out⟩
  | false =>
    have GR := Aside0.mk hgr
    clear hgr
    obtain ⟨d0, d1, d2, d3, d4, d5, d6, d7, d8, d9, d10⟩ := heldG Q.out
    go_wp2_with fail
    refine (great_calls (HC.out.below B.out) HL.out).mono ?_
    rintro e w2 ⟨rfl, hb⟩
    replace P := Aside0.mk (blk_kept P.out hb)
    replace Q := Aside0.mk (blk_kept Q.out hb)
    replace B := Aside0.mk (below_then B.out B.out.size hb)
    clear hb d0 d1 d2 d3 d4 d5 d6 d7 d8 d9 d10
    cases hhr : greatB h with
    | true =>
      go_wp2_with fail
      refine (lives_calls _).mono ?_
      rintro e wz ⟨rfl, hb⟩
      have BZ := Aside0.mk (below_then B.out B.out.size hb)
      clear hb
      go_wp2_with fail
      go_ret
      exact ⟨rfl, BZ.out⟩
    | false =>
      have GM := Aside0.mk (great_m GR.out)
      replace GL := Aside0.mk (great_l GR.out)
      replace HL := Aside0.mk (great_l hhr)
      clear hhr GR
      obtain ⟨c0, c1, c2, c3, c4, c5, c6, c7, c8, c9, c10⟩ := heldG P.out
      go_wp2_with fail
      refine (changed_calls g s1 s2 s3 s4 s5 s6 which _ (GC.out.below B.out) GB.out GM.out.1 GM.out.2.1 GM.out.2.2 WH.out.1 WH.out.2).mono ?_
      rintro e w3' ⟨X, d1, d2, d3, d4, d5, d6, rfl, hx, xb, xl, xn, hb⟩
      have q1 := hx.h1
      have q2 := hx.h2
      have q3 := hx.h3
      have q4 := hx.h4
      have q5 := hx.h5
      have q6 := hx.h6
      obtain ⟨D1, m1, rfl, -, -⟩ := q1
      obtain ⟨D2, m2, rfl, -, -⟩ := q2
      obtain ⟨D3, m3, rfl, -, -⟩ := q3
      obtain ⟨D4, m4, rfl, -, -⟩ := q4
      obtain ⟨D5, m5, rfl, -, -⟩ := q5
      obtain ⟨D6, m6, rfl, -, -⟩ := q6
      have XN := Aside0.mk (not_same (Ne.symm xn))
      have XN' := Aside0.mk (not_same xn)
      have XB := Aside0.mk xb
      have XL := Aside0.mk xl
      have XC := Aside0.mk (hx.below (below_al w3' (genO X (.slice D1 X.v1.length m1) (.slice D2 X.c1.length m2) (.slice D3 X.v2.length m3) (.slice D4 X.c2.length m4) (.slice D5 X.rq.length m5) (.slice D6 X.rp.length m6))))
      have SB := Aside0.mk ((sameB_iff g g).2 rfl)
      have H := Aside0.mk (show Held w (w3'.alloc (genO X (.slice D1 X.v1.length m1) (.slice D2 X.c1.length m2) (.slice D3 X.v2.length m3) (.slice D4 X.c2.length m4) (.slice D5 X.rq.length m5) (.slice D6 X.rp.length m6))) (w3'.alloc (genO X (.slice D1 X.v1.length m1) (.slice D2 X.c1.length m2) (.slice D3 X.v2.length m3) (.slice D4 X.c2.length m4) (.slice D5 X.rq.length m5) (.slice D6 X.rp.length m6))) p w3'.heap.size g h X s1 s2 s3 s4 s5 s6 u1 u2 u3 u4 u5 u6 (.slice D1 X.v1.length m1) (.slice D2 X.c1.length m2) (.slice D3 X.v2.length m3) (.slice D4 X.c2.length m4) (.slice D5 X.rq.length m5) (.slice D6 X.rp.length m6) from
        ⟨blk_alloc (blk_kept P.out hb) _, blk_alloc (blk_kept Q.out hb) _, heap_new w3' _, (below_then B.out B.out.size hb).trans ((below_al w3' (genO X (.slice D1 X.v1.length m1) (.slice D2 X.c1.length m2) (.slice D3 X.v2.length m3) (.slice D4 X.c2.length m4) (.slice D5 X.rq.length m5) (.slice D6 X.rp.length m6))).mono (below_then B.out B.out.size hb).size), Below.refl _ _⟩)
      clear hx xb xl xn hb c0 c1 c2 c3 c4 c5 c6 c7 c8 c9 c10 P Q B GM
      obtain ⟨x, hx⟩ : ∃ x, x = w3'.heap.size := ⟨_, rfl⟩
      rw [← hx] at H
      have EQ := Aside0.mk hx
      clear hx
      go_upto_region 4 with fail
      change Code.wp _ _ _ _ (w3'.alloc (genO X (.slice D1 X.v1.length m1) (.slice D2 X.c1.length m2) (.slice D3 X.v2.length m3) (.slice D4 X.c2.length m4) (.slice D5 X.rq.length m5) (.slice D6 X.rp.length m6)))
      rw [← EQ.out]
      generalize w3'.alloc (genO X (.slice D1 X.v1.length m1) (.slice D2 X.c1.length m2) (.slice D3 X.v2.length m3) (.slice D4 X.c2.length m4) (.slice D5 X.rq.length m5) (.slice D6 X.rp.length m6)) = w3 at XC H ⊢
      clear EQ EW EP
      obtain ⟨b, hb⟩ : ∃ b, b = sameB g h := ⟨_, rfl⟩
      have EB := Aside0.mk hb.symm
      clear hb
      have H0 := Aside0.mk (H.out.kept (below_of_drew w3))
      have HS0 := held33 H0.out
      go_region_held3 (fun w' => w'.cell? ⟨p, 0, none⟩ = some (.int .u32 g.k1) ∧ w'.cell? ⟨p, 1, none⟩ = some s1 ∧ w'.cell? ⟨p, 2, none⟩ = some s2 ∧ w'.cell? ⟨p, 3, none⟩ = some (.int .u32 g.k2) ∧ w'.cell? ⟨p, 4, none⟩ = some s3 ∧ w'.cell? ⟨p, 5, none⟩ = some s4 ∧ w'.cell? ⟨p, 6, none⟩ = some s5 ∧ w'.cell? ⟨p, 7, none⟩ = some s6 ∧ w'.cell? ⟨p, 8, none⟩ = some (.bool g.ls) ∧ w'.cell? ⟨p, 9, none⟩ = some (.int .u8 g.su) ∧ w'.cell? ⟨p, 10, none⟩ = some (.int .u8 g.wi) ∧ w'.cell? ⟨p + 1, 0, none⟩ = some (.int .u32 h.k1) ∧ w'.cell? ⟨p + 1, 1, none⟩ = some u1 ∧ w'.cell? ⟨p + 1, 2, none⟩ = some u2 ∧ w'.cell? ⟨p + 1, 3, none⟩ = some (.int .u32 h.k2) ∧ w'.cell? ⟨p + 1, 4, none⟩ = some u3 ∧ w'.cell? ⟨p + 1, 5, none⟩ = some u4 ∧ w'.cell? ⟨p + 1, 6, none⟩ = some u5 ∧ w'.cell? ⟨p + 1, 7, none⟩ = some u6 ∧ w'.cell? ⟨p + 1, 8, none⟩ = some (.bool h.ls) ∧ w'.cell? ⟨p + 1, 9, none⟩ = some (.int .u8 h.su) ∧ w'.cell? ⟨p + 1, 10, none⟩ = some (.int .u8 h.wi) ∧ w'.cell? ⟨x, 0, none⟩ = some (.int .u32 X.k1) ∧ w'.cell? ⟨x, 1, none⟩ = some (.slice D1 X.v1.length m1) ∧ w'.cell? ⟨x, 2, none⟩ = some (.slice D2 X.c1.length m2) ∧ w'.cell? ⟨x, 3, none⟩ = some (.int .u32 X.k2) ∧ w'.cell? ⟨x, 4, none⟩ = some (.slice D3 X.v2.length m3) ∧ w'.cell? ⟨x, 5, none⟩ = some (.slice D4 X.c2.length m4) ∧ w'.cell? ⟨x, 6, none⟩ = some (.slice D5 X.rq.length m5) ∧ w'.cell? ⟨x, 7, none⟩ = some (.slice D6 X.rp.length m6) ∧ w'.cell? ⟨x, 8, none⟩ = some (.bool X.ls) ∧ w'.cell? ⟨x, 9, none⟩ = some (.int .u8 X.su) ∧ w'.cell? ⟨x, 10, none⟩ = some (.int .u8 X.wi))
        (first | exact HS0 | with_reducible exact held33 H1.out | with_reducible exact held33 H2.out)
        (first
          | (go_at_call 30; (with_reducible refine (rs XN.out (GC.out.below H1.out.b) (XC.out.below H1.out.b3) GL.out GB.out XB.out).mono ?_); rintro e wk2 ⟨rfl, hb⟩; have H2 := Aside0.mk (H1.out.kept hb); clear hb)
          | (go_at_call 30; (with_reducible refine (rs EB.out (GC.out.below H0.out.b) (HC.out.below H0.out.b) GL.out GB.out HB.out).mono ?_); rintro e wk1 ⟨rfl, hb⟩; have H1 := Aside0.mk (H0.out.kept hb); clear hb))
      go_upto_region 5 with fail
      clear HS0 H H0 H1
      have K0 := Aside0.mk (H2.out.kept (below_of_drew wk2))
      clear H2
      have HS0 := held33 K0.out
      go_region_held3 (fun w' => w'.cell? ⟨p, 0, none⟩ = some (.int .u32 g.k1) ∧ w'.cell? ⟨p, 1, none⟩ = some s1 ∧ w'.cell? ⟨p, 2, none⟩ = some s2 ∧ w'.cell? ⟨p, 3, none⟩ = some (.int .u32 g.k2) ∧ w'.cell? ⟨p, 4, none⟩ = some s3 ∧ w'.cell? ⟨p, 5, none⟩ = some s4 ∧ w'.cell? ⟨p, 6, none⟩ = some s5 ∧ w'.cell? ⟨p, 7, none⟩ = some s6 ∧ w'.cell? ⟨p, 8, none⟩ = some (.bool g.ls) ∧ w'.cell? ⟨p, 9, none⟩ = some (.int .u8 g.su) ∧ w'.cell? ⟨p, 10, none⟩ = some (.int .u8 g.wi) ∧ w'.cell? ⟨p + 1, 0, none⟩ = some (.int .u32 h.k1) ∧ w'.cell? ⟨p + 1, 1, none⟩ = some u1 ∧ w'.cell? ⟨p + 1, 2, none⟩ = some u2 ∧ w'.cell? ⟨p + 1, 3, none⟩ = some (.int .u32 h.k2) ∧ w'.cell? ⟨p + 1, 4, none⟩ = some u3 ∧ w'.cell? ⟨p + 1, 5, none⟩ = some u4 ∧ w'.cell? ⟨p + 1, 6, none⟩ = some u5 ∧ w'.cell? ⟨p + 1, 7, none⟩ = some u6 ∧ w'.cell? ⟨p + 1, 8, none⟩ = some (.bool h.ls) ∧ w'.cell? ⟨p + 1, 9, none⟩ = some (.int .u8 h.su) ∧ w'.cell? ⟨p + 1, 10, none⟩ = some (.int .u8 h.wi) ∧ w'.cell? ⟨x, 0, none⟩ = some (.int .u32 X.k1) ∧ w'.cell? ⟨x, 1, none⟩ = some (.slice D1 X.v1.length m1) ∧ w'.cell? ⟨x, 2, none⟩ = some (.slice D2 X.c1.length m2) ∧ w'.cell? ⟨x, 3, none⟩ = some (.int .u32 X.k2) ∧ w'.cell? ⟨x, 4, none⟩ = some (.slice D3 X.v2.length m3) ∧ w'.cell? ⟨x, 5, none⟩ = some (.slice D4 X.c2.length m4) ∧ w'.cell? ⟨x, 6, none⟩ = some (.slice D5 X.rq.length m5) ∧ w'.cell? ⟨x, 7, none⟩ = some (.slice D6 X.rp.length m6) ∧ w'.cell? ⟨x, 8, none⟩ = some (.bool X.ls) ∧ w'.cell? ⟨x, 9, none⟩ = some (.int .u8 X.su) ∧ w'.cell? ⟨x, 10, none⟩ = some (.int .u8 X.wi))
        (first | exact HS0 | with_reducible exact held33 K1.out | with_reducible exact held33 K2.out | with_reducible exact held33 K3.out | with_reducible exact held33 K4.out | with_reducible exact held33 K5.out | with_reducible exact held33 K6.out | with_reducible exact held33 K7.out)
        (first
          | (go_at_call 38; (with_reducible refine (gs EB.out C5.out C6.out GL.out GB.out HB.out).mono ?_); rintro e wr7 ⟨rfl, hb⟩; have K7 := Aside0.mk (K6.out.kept hb); clear hb C5 C6)
          | (go_at_call 28; (with_reducible refine (copied_calls h u1 u2 u3 u4 u5 u6 _ (HC.out.below K5.out.b) HL.out).mono ?_); rintro e wr6 ⟨f1, f2, f3, f4, f5, f6, rfl, hx, hb⟩; have C6 := Aside0.mk (GenC.of hx); have K6 := Aside0.mk (K5.out.kept hb); replace C5 := Aside0.mk (C5.out.below hb); clear hb hx)
          | (go_at_call 28; (with_reducible refine (copied_calls g s1 s2 s3 s4 s5 s6 _ (GC.out.below K4.out.b) GL.out).mono ?_); rintro e wr5 ⟨e1, e2, e3, e4, e5, e6, rfl, hx, hb⟩; have C5 := Aside0.mk (GenC.of hx); have K5 := Aside0.mk (K4.out.kept hb); clear hb hx)
          | (go_at_call 38; (with_reducible refine (gs XN'.out (XC.out.below K3.out.b3) C3.out XL.out XB.out GB.out).mono ?_); rintro e wr4 ⟨rfl, hb⟩; have K4 := Aside0.mk (K3.out.kept hb); clear hb C3)
          | (go_at_call 28; (with_reducible refine (copied_calls g s1 s2 s3 s4 s5 s6 _ (GC.out.below K2.out.b) GL.out).mono ?_); rintro e wr3 ⟨k1, k2, k3, k4, k5, k6, rfl, hx, hb⟩; have C3 := Aside0.mk (GenC.of hx); have K3 := Aside0.mk (K2.out.kept hb); clear hb hx)
          | (go_at_call 38; (with_reducible refine (gs XN.out C1.out (XC.out.below K1.out.b3) GL.out GB.out XB.out).mono ?_); rintro e wr2 ⟨rfl, hb⟩; have K2 := Aside0.mk (K1.out.kept hb); clear hb C1)
          | (go_at_call 28; (with_reducible refine (copied_calls g s1 s2 s3 s4 s5 s6 _ (GC.out.below K0.out.b) GL.out).mono ?_); rintro e wr1 ⟨t1, t2, t3, t4, t5, t6, rfl, hx, hb⟩; have C1 := Aside0.mk (GenC.of hx); have K1 := Aside0.mk (K0.out.kept hb); clear hb hx))
      go_upto_region 7 with fail
      clear HS0 K0 K1 K2 K3 K4 K5 K6
      have H0 := Aside0.mk (K7.out.kept (below_of_drew wr7))
      clear K7
      have HS0 := held33 H0.out
      go_region_held3 (fun w' => w'.cell? ⟨p, 0, none⟩ = some (.int .u32 g.k1) ∧ w'.cell? ⟨p, 1, none⟩ = some s1 ∧ w'.cell? ⟨p, 2, none⟩ = some s2 ∧ w'.cell? ⟨p, 3, none⟩ = some (.int .u32 g.k2) ∧ w'.cell? ⟨p, 4, none⟩ = some s3 ∧ w'.cell? ⟨p, 5, none⟩ = some s4 ∧ w'.cell? ⟨p, 6, none⟩ = some s5 ∧ w'.cell? ⟨p, 7, none⟩ = some s6 ∧ w'.cell? ⟨p, 8, none⟩ = some (.bool g.ls) ∧ w'.cell? ⟨p, 9, none⟩ = some (.int .u8 g.su) ∧ w'.cell? ⟨p, 10, none⟩ = some (.int .u8 g.wi) ∧ w'.cell? ⟨p + 1, 0, none⟩ = some (.int .u32 h.k1) ∧ w'.cell? ⟨p + 1, 1, none⟩ = some u1 ∧ w'.cell? ⟨p + 1, 2, none⟩ = some u2 ∧ w'.cell? ⟨p + 1, 3, none⟩ = some (.int .u32 h.k2) ∧ w'.cell? ⟨p + 1, 4, none⟩ = some u3 ∧ w'.cell? ⟨p + 1, 5, none⟩ = some u4 ∧ w'.cell? ⟨p + 1, 6, none⟩ = some u5 ∧ w'.cell? ⟨p + 1, 7, none⟩ = some u6 ∧ w'.cell? ⟨p + 1, 8, none⟩ = some (.bool h.ls) ∧ w'.cell? ⟨p + 1, 9, none⟩ = some (.int .u8 h.su) ∧ w'.cell? ⟨p + 1, 10, none⟩ = some (.int .u8 h.wi) ∧ w'.cell? ⟨x, 0, none⟩ = some (.int .u32 X.k1) ∧ w'.cell? ⟨x, 1, none⟩ = some (.slice D1 X.v1.length m1) ∧ w'.cell? ⟨x, 2, none⟩ = some (.slice D2 X.c1.length m2) ∧ w'.cell? ⟨x, 3, none⟩ = some (.int .u32 X.k2) ∧ w'.cell? ⟨x, 4, none⟩ = some (.slice D3 X.v2.length m3) ∧ w'.cell? ⟨x, 5, none⟩ = some (.slice D4 X.c2.length m4) ∧ w'.cell? ⟨x, 6, none⟩ = some (.slice D5 X.rq.length m5) ∧ w'.cell? ⟨x, 7, none⟩ = some (.slice D6 X.rp.length m6) ∧ w'.cell? ⟨x, 8, none⟩ = some (.bool X.ls) ∧ w'.cell? ⟨x, 9, none⟩ = some (.int .u8 X.su) ∧ w'.cell? ⟨x, 10, none⟩ = some (.int .u8 X.wi))
        (first | exact HS0 | with_reducible exact held33 H1.out | with_reducible exact held33 H2.out | with_reducible exact held33 H3.out | with_reducible exact held33 H4.out)
        (first
          | (go_at_call 27; (with_reducible refine (lives_calls _).mono ?_); rintro e wy4 ⟨rfl, hb⟩; have H4 := Aside0.mk (H3.out.kept hb); clear hb)
          | (go_at_call 38; (with_reducible refine (gs SB.out C1.out C2.out GL.out GB.out GB.out).mono ?_); rintro e wy3 ⟨rfl, hb⟩; have H3 := Aside0.mk (H2.out.kept hb); clear hb C1 C2)
          | (go_at_call 28; (with_reducible refine (copied_calls g s1 s2 s3 s4 s5 s6 _ (GC.out.below H1.out.b) GL.out).mono ?_); rintro e wy2 ⟨f1, f2, f3, f4, f5, f6, rfl, hx, hb⟩; have C2 := Aside0.mk (GenC.of hx); have H2 := Aside0.mk (H1.out.kept hb); replace C1 := Aside0.mk (C1.out.below hb); clear hb hx)
          | (go_at_call 28; (with_reducible refine (copied_calls g s1 s2 s3 s4 s5 s6 _ (GC.out.below H0.out.b) GL.out).mono ?_); rintro e wy1 ⟨t1, t2, t3, t4, t5, t6, rfl, hx, hb⟩; have C1 := Aside0.mk (GenC.of hx); have H1 := Aside0.mk (H0.out.kept hb); clear hb hx))
      go_wp2_with fail
      go_ret
      exact ⟨rfl, H4.out.b⟩
end Go.Proofs.Ytpanefmemabckab.GenSames
