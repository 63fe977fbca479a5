/- GenNext returns true at every Gen, way, key, view, Clients and rows of bytes: the walk. -/
import Derived.Test.YtpanefmemabckabGenLives
import Derived.Test.YtpanefmemabckabGenRefNext
namespace Go.Proofs.Ytpanefmemabckab.NextLaw
open Go.RowKit Go.Proofs.Ytpanefmemabckab.NumA Go.Proofs.Ytpanefmemabckab.GenS Go.Proofs.Ytpanefmemabckab.GenRep Go.Proofs.Ytpanefmemabckab.GenBlk Go.Proofs.Ytpanefmemabckab.GenPure Go.Proofs.Ytpanefmemabckab.GenRefNext Go.Proofs.Ytpanefmemabckab.GenLives Go.Proofs.Ytpanefmemabckab.GenNext Go.Proofs.Ytpanefmemabckab.Ints Go.Proofs.Ytpanefmemabckab.Bytes Go.Proofs.Ytpanefmemabckab.Wide Go.Proofs.YtpanefmemabckabW.PrintWords Go.Proofs.YtpanefmemabckabW.PrintLast
open Go.Proofs.Ytpanefmemabckab.GenCalls (great_calls greatB great_l same_calls)
open Go.Proofs.Ytpanefmemabckab.GenZero (heap_new blk_drew1)
set_option linter.unusedSimpArgs false
set_option linter.unusedVariables false

theorem rs {w : World} {g h : G} {b : Bool} {s1 s2 s3 s4 s5 s6 t1 t2 t3 t4 t5 t6 : Value} (e : sameB g h = b) (hg : GenC w g s1 s2 s3 s4 s5 s6) (hh : GenC w h t1 t2 t3 t4 t5 t6) (lg : GenL g 400000) (bg : GenB g) (bh : GenB h) :
    Calls Try.prog 30 #[genV g s1 s2 s3 s4 s5 s6, genV h t1 t2 t3 t4 t5 t6] w fun e w' => e = .returned (.bool b) ∧ Below w.heap.size w w' := by
  subst e; exact same_calls hg hh lg bg bh
theorem next_l {how key : Int} {view : List S58} {added : List S60} {rq rp : List Int} {g : G} (hg : greatB g = false) (hv : view.length ≤ 400) (ha : added.length ≤ 300) (hq : rq.length ≤ 140737488351232) (hp : rp.length ≤ 140737488351232) : GenL (nextP how key view added rq rp g) 400000 := by
  have hl := great_l hg
  unfold greatB at hg
  simp only [Bool.or_eq_false_iff, decide_eq_false_iff_not] at hg
  unfold nextP
  split
  · exact ⟨by simp only; omega, by simp only; omega, hl.h1, hl.h2, hq, hp⟩
  · split
    · exact ⟨by simp only; omega, by simp only [List.length_append]; omega, hl.h3, hl.h4, hq, hp⟩
    · exact hl
theorem next_b {how key : Int} {view : List S58} {added : List S60} {rq rp : List Int} {g : G} (hg : GenB g) (hq : BytesOk rq) (hp : BytesOk rp) : GenB (nextP how key view added rq rp g) := by
  unfold nextP
  split
  · exact ⟨hq, hp⟩
  · split
    · exact ⟨hq, hp⟩
    · exact hg
theorem ints_ne {W : World} {v : Value} (h : IntsV W v) {y t : Nat} {cs : Array Value} (hb : W.heap[y]? = some (.cells cs t)) (ht : t ≠ 5) : some y ≠ v.ownBlock := by
  rcases h with rfl | ⟨g, n, cap, ds, rfl, hg, _⟩
  · simp [Value.ownBlock]
  · intro e
    have e2 : y = g := by simpa [Value.ownBlock] using e
    exact blk_ne hb hg ht e2
/-- a row of another kind stays where a row of bytes is turned -/
theorem row_over {α : Type} {d : Kd α} {e base : Nat} {W w1 : World} {u v : Value} {xs : List α} (h : RowR d e W base u xs) (hv : IntsV W v) (ht : ∀ q, q ∈ e :: d.E → q ≠ 5) (hg : W.grownBy w1 v.ownBlock) : RowR d e w1 base u xs := by
  rcases hv with rfl | ⟨g, n, cap, ds, rfl, hgc, _⟩
  · exact Kd.R_grown h hg (fun k _ => by simp [Value.ownBlock])
  · exact Kd.R_mono (Kd.R_grown (Kd.R_types h hgc ht) hg (fun k hk => by simpa [Value.ownBlock] using hk.2)) (fun _ _ => trivial)
/-- the block of a row of the call's own -/
theorem row_blk {α : Type} {d : Kd α} {e base : Nat} {W : World} {A : Option Addr} {c : Nat} {l : List α} (h : RowR d e W base (.slice A l.length c) l) (z : α) (hsz : 0 < d.sz) (hl : 0 < l.length) :
    ∃ g cs, A = some ⟨g, 0, none⟩ ∧ base ≤ g ∧ W.heap[g]? = some (.cells cs e (0, 0)) ∧ l.length * d.sz ≤ cs.size := by
  obtain ⟨g, cap, he, hb, _, cs, hc⟩ := Kd.R_form h hl
  injection he with h1 h2 h3
  subst h1 h3
  obtain ⟨c0, hcl, _, hcell, _⟩ := Kd.R_elem h z ((l.length - 1 : Nat) : Int) (by omega) (by omega)
  refine ⟨g, cs, rfl, hb, hc, ?_⟩
  have h2 := hcell (d.sz - 1) _ (List.getElem?_eq_getElem (by omega))
  rw [blk_cell hc] at h2
  have h3 := (Array.getElem?_eq_some_iff.1 h2).1
  rw [show (((l.length - 1 : Nat) : Int)).toNat = l.length - 1 from by omega] at h3
  have h4 : (l.length - 1) * d.sz + d.sz = l.length * d.sz := by
    rw [← Nat.succ_mul]; congr 1; omega
  omega
/-- the cells of a row stand -/
def Inv (W : World) (base : Nat) (A : Option Addr) (n sz e : Nat) : Prop := n = 0 ∨ ∃ g cs, A = some ⟨g, 0, none⟩ ∧ base ≤ g ∧ W.heap[g]? = some (.cells cs e (0, 0)) ∧ n * sz ≤ cs.size
theorem held22 {w' : World} {x p : Nat} {g h : G} {a1 a2 a3 a4 a5 a6 s1 s2 s3 s4 s5 s6 : Value} (hx : w'.heap[x]? = some (genO h a1 a2 a3 a4 a5 a6)) (hp : w'.heap[p]? = some (genO g s1 s2 s3 s4 s5 s6)) :
    w'.cell? ⟨x, 0, none⟩ = some (.int .u32 h.k1) ∧ w'.cell? ⟨x, 1, none⟩ = some a1 ∧ w'.cell? ⟨x, 2, none⟩ = some a2 ∧ w'.cell? ⟨x, 3, none⟩ = some (.int .u32 h.k2) ∧ w'.cell? ⟨x, 4, none⟩ = some a3 ∧ w'.cell? ⟨x, 5, none⟩ = some a4 ∧ w'.cell? ⟨x, 6, none⟩ = some a5 ∧ w'.cell? ⟨x, 7, none⟩ = some a6 ∧ w'.cell? ⟨x, 8, none⟩ = some (.bool h.ls) ∧ w'.cell? ⟨x, 9, none⟩ = some (.int .u8 h.su) ∧ w'.cell? ⟨x, 10, none⟩ = some (.int .u8 h.wi) ∧ w'.cell? ⟨p, 0, none⟩ = some (.int .u32 g.k1) ∧ w'.cell? ⟨p, 1, none⟩ = some s1 ∧ w'.cell? ⟨p, 2, none⟩ = some s2 ∧ w'.cell? ⟨p, 3, none⟩ = some (.int .u32 g.k2) ∧ w'.cell? ⟨p, 4, none⟩ = some s3 ∧ w'.cell? ⟨p, 5, none⟩ = some s4 ∧ w'.cell? ⟨p, 6, none⟩ = some s5 ∧ w'.cell? ⟨p, 7, none⟩ = some s6 ∧ w'.cell? ⟨p, 8, none⟩ = some (.bool g.ls) ∧ w'.cell? ⟨p, 9, none⟩ = some (.int .u8 g.su) ∧ w'.cell? ⟨p, 10, none⟩ = some (.int .u8 g.wi) :=
  ⟨blk_cell hx 0, blk_cell hx 1, blk_cell hx 2, blk_cell hx 3, blk_cell hx 4, blk_cell hx 5, blk_cell hx 6, blk_cell hx 7, blk_cell hx 8, blk_cell hx 9, blk_cell hx 10, blk_cell hp 0, blk_cell hp 1, blk_cell hp 2, blk_cell hp 3, blk_cell hp 4, blk_cell hp 5, blk_cell hp 6, blk_cell hp 7, blk_cell hp 8, blk_cell hp 9, blk_cell hp 10⟩
theorem wide_row {W : World} {b : Nat} {l : List Nat} (h : W.heap[b]? = some (.cells (cellsN (l ++ [7, 7, 7])) 5 (0, 0))) (hl : l.length ≤ 140737488351232) : RowC kB W (.slice (some ⟨b, 0, none⟩) (ofN l).length (l.length + 3)) (ofN l) :=
  ⟨_, _, rfl, by rw [ofN_length]; omega, C_block h l (by omega) List.take_left⟩

set_option maxRecDepth 100000 in
set_option maxHeartbeats 8000000 in
theorem walk (g : G) (s1 s2 s3 s4 s5 s6 : Value) (how key : Int) (sv : Value) (view : List S58) (sa : Value) (added : List S60) (sq : Value) (rq : List Int) (sp : Value) (rp : List Int) (w : World)
    (gc : GenC w g s1 s2 s3 s4 s5 s6) (gb : GenB g) (gl : GenL g 140737488351232) (_ : (Lit.int .u8 how).wf = true) (_ : (Lit.int .u32 key).wf = true) (vc : RowC kS w sv view) (_ : view.length ≤ 140737488351232) (ac : RowC kC w sa added) (_ : added.length ≤ 140737488351232)
    (qc : RowC kB w sq rq) (qb : BytesOk rq) (ql : rq.length ≤ 140737488351232) (pc : RowC kB w sp rp) (pb : BytesOk rp) (pl : rp.length ≤ 140737488351232) :
    Calls Try.prog 6 #[genV g s1 s2 s3 s4 s5 s6, .int .u8 how, .int .u32 key, sv, sa, sq, sp] w fun e w' => e = .returned (.bool true) ∧ Below w.heap.size w w' := by
  obtain ⟨Av, nv, rfl, hv1, hv2⟩ := vc
  have VC := Aside0.mk (show RowC kS w (.slice Av view.length nv) view from ⟨Av, nv, rfl, hv1, hv2⟩)
  obtain ⟨Aa, na, rfl, ha1, ha2⟩ := ac
  have AC := Aside0.mk (show RowC kC w (.slice Aa added.length na) added from ⟨Aa, na, rfl, ha1, ha2⟩)
  obtain ⟨lq, rfl, hlq⟩ := bytes_of qb
  obtain ⟨lp, rfl, hlp⟩ := bytes_of pb
  obtain ⟨Aq, cq, rfl, hq1, hq2⟩ := qc
  obtain ⟨Ap, cp, rfl, hp1, hp2⟩ := pc
  have QC := Aside0.mk (show RowC kB w (.slice Aq (ofN lq).length cq) (ofN lq) from ⟨Aq, cq, rfl, hq1, hq2⟩)
  have PC := Aside0.mk (show RowC kB w (.slice Ap (ofN lp).length cp) (ofN lp) from ⟨Ap, cp, rfl, hp1, hp2⟩)
  have CQ := Aside0.mk hq2
  have CP := Aside0.mk hp2
  have CQ1 := Aside0.mk hq1
  have CP1 := Aside0.mk hp1
  have QB := Aside0.mk qb
  have PB := Aside0.mk pb
  have BQ := Aside0.mk hlq
  have BP := Aside0.mk hlp
  have QL := Aside0.mk ql
  have PL := Aside0.mk pl
  have QN := Aside0.mk (show lq.length ≤ 140737488351232 from by rw [ofN_length] at ql; exact ql)
  have PN := Aside0.mk (show lp.length ≤ 140737488351232 from by rw [ofN_length] at pl; exact pl)
  have GC := Aside0.mk gc
  have GB := Aside0.mk gb
  have GL := Aside0.mk gl
  have hp := heap_new w (genO g s1 s2 s3 s4 s5 s6)
  obtain ⟨p, hp'⟩ : ∃ p, p = w.heap.size := ⟨_, rfl⟩
  obtain ⟨W0, hW0⟩ : ∃ W0, W0 = w.alloc (genO g s1 s2 s3 s4 s5 s6) := ⟨_, rfl⟩
  have B := Aside0.mk (below_al w (genO g s1 s2 s3 s4 s5 s6))
  rw [← hW0] at hp B
  rw [← hp'] at hp
  have P := Aside0.mk hp
  have EW := Aside0.mk hW0
  have EP := Aside0.mk hp'
  clear hp hp' hW0 gc gb gl hv1 hv2 ha1 ha2 hq1 hq2 hp1 hp2 qb pb hlq hlp ql pl
  obtain ⟨c0, c1, c2, c3, c4, c5, c6, c7, c8, c9, c10⟩ := heldG P.out
  go_enter Try.func6, Try.ntmps6
  go_upto_region 1 with fail
  change Code.wp _ _ _ _ (w.alloc (genO g s1 s2 s3 s4 s5 s6))
  rw [← EW.out, ← EP.out]
  go_wp2_with fail
  refine (great_calls (GC.out.below B.out) GL.out).mono ?_
  rintro e w1 ⟨rfl, hb⟩
  replace P := Aside0.mk (blk_kept P.out hb)
  replace B := Aside0.mk (below_then B.out B.out.size hb)
  clear hb c0 c1 c2 c3 c4 c5 c6 c7 c8 c9 c10
  obtain ⟨c0, c1, c2, c3, c4, c5, c6, c7, c8, c9, c10⟩ := heldG P.out
  cases hgr : greatB g with
  | true =>
    go_wp2_with fail
    refine (lives_calls _).mono ?_
    rintro e wz ⟨rfl, hb⟩
    replace B := Aside0.mk (below_then B.out B.out.size hb)
    clear hb c0 c1 c2 c3 c4 c5 c6 c7 c8 c9 c10
    go_wp2_with fail
    go_ret
    exact ⟨rfl, B.out⟩
  | false =>
    have GF := Aside0.mk hgr
    replace GL := Aside0.mk (great_l hgr)
    clear hgr
    by_cases l0 : 400 < view.length
    · skip
      go_wp2_with fail
      refine (lives_calls _).mono ?_
      rintro e wz ⟨rfl, hb⟩
      replace B := Aside0.mk (below_then B.out B.out.size hb)
      clear hb c0 c1 c2 c3 c4 c5 c6 c7 c8 c9 c10
      go_wp2_with fail
      go_ret
      exact ⟨rfl, B.out⟩
    by_cases l1 : 300 < added.length
    · skip
      go_wp2_with fail
      refine (lives_calls _).mono ?_
      rintro e wz ⟨rfl, hb⟩
      replace B := Aside0.mk (below_then B.out B.out.size hb)
      clear hb c0 c1 c2 c3 c4 c5 c6 c7 c8 c9 c10
      go_wp2_with fail
      go_ret
      exact ⟨rfl, B.out⟩
    have LV := Aside0.mk (show view.length ≤ 400 from by omega)
    have LA := Aside0.mk (show added.length ≤ 300 from by omega)
    go_upto_region 3 with fail
    clear l0 l1
    go_wp2_with fail
    refine (copied_calls g s1 s2 s3 s4 s5 s6 _ (GC.out.below B.out) GL.out).mono ?_
    rintro e w2 ⟨t1, t2, t3, t4, t5, t6, rfl, hx, hb⟩
    obtain ⟨A1, n1, rfl⟩ := Kd.R_slice hx.h1
    obtain ⟨A2, n2, rfl⟩ := Kd.R_slice hx.h2
    obtain ⟨A3, n3, rfl⟩ := Kd.R_slice hx.h3
    obtain ⟨A4, n4, rfl⟩ := Kd.R_slice hx.h4
    obtain ⟨A5, n5, rfl⟩ := Kd.R_slice hx.h5
    obtain ⟨A6, n6, rfl⟩ := Kd.R_slice hx.h6
    have X := Aside0.mk (heap_new w2 (genO g (.slice A1 g.v1.length n1) (.slice A2 g.c1.length n2) (.slice A3 g.v2.length n3) (.slice A4 g.c2.length n4) (.slice A5 g.rq.length n5) (.slice A6 g.rp.length n6)))
    have XC := Aside0.mk ((GenC.of hx).below (below_al w2 (genO g (.slice A1 g.v1.length n1) (.slice A2 g.c1.length n2) (.slice A3 g.v2.length n3) (.slice A4 g.c2.length n4) (.slice A5 g.rq.length n5) (.slice A6 g.rp.length n6))))
    replace P := Aside0.mk (blk_alloc (blk_kept P.out hb) (genO g (.slice A1 g.v1.length n1) (.slice A2 g.c1.length n2) (.slice A3 g.v2.length n3) (.slice A4 g.c2.length n4) (.slice A5 g.rq.length n5) (.slice A6 g.rp.length n6)))
    replace B := Aside0.mk ((below_then B.out B.out.size hb).trans ((below_al w2 (genO g (.slice A1 g.v1.length n1) (.slice A2 g.c1.length n2) (.slice A3 g.v2.length n3) (.slice A4 g.c2.length n4) (.slice A5 g.rq.length n5) (.slice A6 g.rp.length n6))).mono (below_then B.out B.out.size hb).size))
    clear hx hb c0 c1 c2 c3 c4 c5 c6 c7 c8 c9 c10
    obtain ⟨x, hx⟩ : ∃ x, x = w2.heap.size := ⟨_, rfl⟩
    rw [← hx] at X
    have EQ := Aside0.mk hx
    clear hx
    go_upto_region 4 with fail
    change Code.wp _ _ _ _ (w2.alloc (genO g (.slice A1 g.v1.length n1) (.slice A2 g.c1.length n2) (.slice A3 g.v2.length n3) (.slice A4 g.c2.length n4) (.slice A5 g.rq.length n5) (.slice A6 g.rp.length n6)))
    rw [← EQ.out]
    generalize w2.alloc (genO g (.slice A1 g.v1.length n1) (.slice A2 g.c1.length n2) (.slice A3 g.v2.length n3) (.slice A4 g.c2.length n4) (.slice A5 g.rq.length n5) (.slice A6 g.rp.length n6)) = w3 at P B X XC ⊢
    clear EQ
    go_wp2_with fail
    refine (wide_calls Aq cq lq _ (Kd.C_below CQ.out B.out) QN.out).mono ?_
    rintro e w4 ⟨br, rfl, hr, hb⟩
    have RQ := Aside0.mk hr
    replace P := Aside0.mk (blk_kept P.out hb)
    replace X := Aside0.mk (blk_kept X.out hb)
    replace XC := Aside0.mk (XC.out.below hb)
    replace B := Aside0.mk (below_then B.out B.out.size hb)
    clear hr hb
    go_wp2_with fail
    refine (wide_calls Ap cp lp _ (Kd.C_below CP.out B.out) PN.out).mono ?_
    rintro e w5 ⟨bp, rfl, hr, hb⟩
    have RP := Aside0.mk hr
    replace RQ := Aside0.mk (blk_kept RQ.out hb)
    replace P := Aside0.mk (blk_kept P.out hb)
    replace X := Aside0.mk (blk_kept X.out hb)
    replace XC := Aside0.mk (XC.out.below hb)
    replace B := Aside0.mk (below_then B.out B.out.size hb)
    clear hr hb
    obtain ⟨c0, c1, c2, c3, c4, c5, c6, c7, c8, c9, c10⟩ := heldG X.out
    go_wp2_with fail
    refine (next_ints g (.slice A1 g.v1.length n1) (.slice A2 g.c1.length n2) (.slice A3 g.v2.length n3) (.slice A4 g.c2.length n4) (.slice A5 g.rq.length n5) (.slice A6 g.rp.length n6) how key _ _ _ _ view added (ofN lq) (ofN lp) _ XC.out GL.out (VC.out.below B.out) (AC.out.below B.out) (wide_row RQ.out QN.out) (wide_row RP.out PN.out) (Nat.le_trans LV.out (by decide)) (Nat.le_trans LA.out (by decide)) QL.out PL.out).mono ?_
    rintro e w6 ⟨t1, t2, t3, t4, t5, t6, rfl, hx, hi5, hi6, hb⟩
    clear c0 c1 c2 c3 c4 c5 c6 c7 c8 c9 c10
    have NL0 := Aside0.mk (next_l (how := how) (key := key) GF.out LV.out LA.out QL.out PL.out)
    have NB0 := Aside0.mk (next_b (how := how) (key := key) (view := view) (added := added) GB.out QB.out PB.out)
    obtain ⟨N, hN⟩ : ∃ N, N = nextP how key view added (ofN lq) (ofN lp) g := ⟨_, rfl⟩
    rw [← hN] at hx ⊢
    have SB := Aside0.mk ((sameB_iff N (nextP how key view added (ofN lq) (ofN lp) g)).2 hN)
    have NL := Aside0.mk (show GenL N 400000 from by rw [hN]; exact NL0.out)
    have NB := Aside0.mk (show GenB N from by rw [hN]; exact NB0.out)
    clear hN
    obtain ⟨D1, m1, rfl⟩ := Kd.R_slice hx.h1
    obtain ⟨D2, m2, rfl⟩ := Kd.R_slice hx.h2
    obtain ⟨D3, m3, rfl⟩ := Kd.R_slice hx.h3
    obtain ⟨D4, m4, rfl⟩ := Kd.R_slice hx.h4
    obtain ⟨D5, m5, rfl⟩ := Kd.R_slice hx.h5
    obtain ⟨D6, m6, rfl⟩ := Kd.R_slice hx.h6
    have YC := Aside0.mk ((GenC.of hx).below (below_al w6 (genO N (.slice D1 N.v1.length m1) (.slice D2 N.c1.length m2) (.slice D3 N.v2.length m3) (.slice D4 N.c2.length m4) (.slice D5 N.rq.length m5) (.slice D6 N.rp.length m6))))
    have H2 := Aside0.mk (Kd.R_alloc hx.h2 (genO N (.slice D1 N.v1.length m1) (.slice D2 N.c1.length m2) (.slice D3 N.v2.length m3) (.slice D4 N.c2.length m4) (.slice D5 N.rq.length m5) (.slice D6 N.rp.length m6)))
    have H3 := Aside0.mk (Kd.R_alloc hx.h3 (genO N (.slice D1 N.v1.length m1) (.slice D2 N.c1.length m2) (.slice D3 N.v2.length m3) (.slice D4 N.c2.length m4) (.slice D5 N.rq.length m5) (.slice D6 N.rp.length m6)))
    have O5 := Aside0.mk (Kd.R_base hx.h5)
    have O6 := Aside0.mk (Kd.R_base hx.h6)
    have I5 := Aside0.mk (hi5.below (below_al w6 (genO N (.slice D1 N.v1.length m1) (.slice D2 N.c1.length m2) (.slice D3 N.v2.length m3) (.slice D4 N.c2.length m4) (.slice D5 N.rq.length m5) (.slice D6 N.rp.length m6))))
    have I6 := Aside0.mk (hi6.below (below_al w6 (genO N (.slice D1 N.v1.length m1) (.slice D2 N.c1.length m2) (.slice D3 N.v2.length m3) (.slice D4 N.c2.length m4) (.slice D5 N.rq.length m5) (.slice D6 N.rp.length m6))))
    have Y := Aside0.mk (heap_new w6 (genO N (.slice D1 N.v1.length m1) (.slice D2 N.c1.length m2) (.slice D3 N.v2.length m3) (.slice D4 N.c2.length m4) (.slice D5 N.rq.length m5) (.slice D6 N.rp.length m6)))
    have B5 := Aside0.mk (hb.alloc hb.size (genO N (.slice D1 N.v1.length m1) (.slice D2 N.c1.length m2) (.slice D3 N.v2.length m3) (.slice D4 N.c2.length m4) (.slice D5 N.rq.length m5) (.slice D6 N.rp.length m6)))
    have NY := Aside0.mk hb.size
    clear hx hi5 hi6 hb
    obtain ⟨y, hy⟩ : ∃ y, y = w6.heap.size := ⟨_, rfl⟩
    rw [← hy] at Y NY
    have EQ := Aside0.mk hy
    clear hy
    go_upto_region 7 with fail
    change Code.wp _ _ _ _ (w6.alloc (genO N (.slice D1 N.v1.length m1) (.slice D2 N.c1.length m2) (.slice D3 N.v2.length m3) (.slice D4 N.c2.length m4) (.slice D5 N.rq.length m5) (.slice D6 N.rp.length m6)))
    rw [← EQ.out]
    generalize w6.alloc (genO N (.slice D1 N.v1.length m1) (.slice D2 N.c1.length m2) (.slice D3 N.v2.length m3) (.slice D4 N.c2.length m4) (.slice D5 N.rq.length m5) (.slice D6 N.rp.length m6)) = w7 at Y YC H2 H3 I5 I6 B5 ⊢
    clear EQ
    have Y0 := Aside0.mk (blk_drew1 Y.out)
    have P0 := Aside0.mk (blk_drew1 (blk_kept P.out B5.out))
    have Z0 := Aside0.mk (below_drew1 B5.out)
    have E0 := Aside0.mk (below_of_drew w7)
    have HS0 := held22 Y0.out P0.out
    go_region_held3 (fun w' => w'.cell? ⟨y, 0, none⟩ = some (.int .u32 N.k1) ∧ w'.cell? ⟨y, 1, none⟩ = some (.slice D1 N.v1.length m1) ∧ w'.cell? ⟨y, 2, none⟩ = some (.slice D2 N.c1.length m2) ∧ w'.cell? ⟨y, 3, none⟩ = some (.int .u32 N.k2) ∧ w'.cell? ⟨y, 4, none⟩ = some (.slice D3 N.v2.length m3) ∧ w'.cell? ⟨y, 5, none⟩ = some (.slice D4 N.c2.length m4) ∧ w'.cell? ⟨y, 6, none⟩ = some (.slice D5 N.rq.length m5) ∧ w'.cell? ⟨y, 7, none⟩ = some (.slice D6 N.rp.length m6) ∧ w'.cell? ⟨y, 8, none⟩ = some (.bool N.ls) ∧ w'.cell? ⟨y, 9, none⟩ = some (.int .u8 N.su) ∧ w'.cell? ⟨y, 10, none⟩ = some (.int .u8 N.wi) ∧ w'.cell? ⟨p, 0, none⟩ = some (.int .u32 g.k1) ∧ w'.cell? ⟨p, 1, none⟩ = some s1 ∧ w'.cell? ⟨p, 2, none⟩ = some s2 ∧ w'.cell? ⟨p, 3, none⟩ = some (.int .u32 g.k2) ∧ w'.cell? ⟨p, 4, none⟩ = some s3 ∧ w'.cell? ⟨p, 5, none⟩ = some s4 ∧ w'.cell? ⟨p, 6, none⟩ = some s5 ∧ w'.cell? ⟨p, 7, none⟩ = some s6 ∧ w'.cell? ⟨p, 8, none⟩ = some (.bool g.ls) ∧ w'.cell? ⟨p, 9, none⟩ = some (.int .u8 g.su) ∧ w'.cell? ⟨p, 10, none⟩ = some (.int .u8 g.wi))
      (first
        | exact HS0
        | with_reducible exact held22 Y1.out P1.out
        | with_reducible exact held22 Y2.out P2.out)
      (first
        | (go_at_call 30; (with_reducible refine (rs SB.out ((YC.out.below E0.out).below E1.out) U1.out NL.out NB.out NB0.out).mono ?_); rintro e wk2 ⟨rfl, hb⟩; have Y2 := Aside0.mk (blk_kept Y1.out hb); have P2 := Aside0.mk (blk_kept P1.out hb); have E2 := Aside0.mk hb; clear hb)
        | (go_at_call 31; (with_reducible refine (refnext_calls g s1 s2 s3 s4 s5 s6 how key _ _ _ _ view added (ofN lq) (ofN lp) _ (GC.out.below (below_then B.out B.out.size Z0.out)) GL.out (VC.out.below (below_then B.out B.out.size Z0.out)) (AC.out.below (below_then B.out B.out.size Z0.out)) (QC.out.below (below_then B.out B.out.size Z0.out)) (PC.out.below (below_then B.out B.out.size Z0.out)) (Nat.le_trans LV.out (by decide)) (Nat.le_trans LA.out (by decide)) QL.out PL.out).mono ?_); rintro e wk1 ⟨u1, u2, u3, u4, u5, u6, rfl, hu, hb⟩; have U1 := Aside0.mk (GenC.of hu); have Y1 := Aside0.mk (blk_kept Y0.out hb); have P1 := Aside0.mk (blk_kept P0.out hb); have E1 := Aside0.mk hb; clear hb hu))
    have EE := Aside0.mk (below_then (below_then E0.out E0.out.size E1.out) (below_then E0.out E0.out.size E1.out).size E2.out)
    replace H2 := Aside0.mk (Kd.R_below H2.out EE.out)
    replace H3 := Aside0.mk (Kd.R_below H3.out EE.out)
    replace I5 := Aside0.mk (I5.out.below EE.out)
    replace I6 := Aside0.mk (I6.out.below EE.out)
    replace B5 := Aside0.mk (below_then B5.out B5.out.size EE.out)
    have Y := Y2
    clear HS0 Y0 Y1 Y2 P0 P1 P2 Z0 E0 E1 E2 EE U1 YC NB0 NL0 SB
    go_upto_region 9 with fail
    obtain ⟨c0, c1, c2, c3, c4, c5, c6, c7, c8, c9, c10⟩ := heldG Y.out
    go_wp2_with fail
    refine (spoil_calls _ _ 1 I5.out).mono ?_
    rintro e w9 ⟨rfl, hg, hi⟩
    replace Y := Aside0.mk (blk_grown Y.out hg (ints_ne I5.out Y.out (by decide)))
    replace H2 := Aside0.mk (row_over H2.out I5.out (by decide) hg)
    replace H3 := Aside0.mk (row_over H3.out I5.out (by decide) hg)
    replace I6 := Aside0.mk (hi _ I6.out)
    replace B5 := Aside0.mk (B5.out.grown hg B5.out.size O5.out)
    clear hg hi c0 c1 c2 c3 c4 c5 c6 c7 c8 c9 c10 I5 O5
    obtain ⟨c0, c1, c2, c3, c4, c5, c6, c7, c8, c9, c10⟩ := heldG Y.out
    go_wp2_with fail
    refine (spoil_calls _ _ 1 I6.out).mono ?_
    rintro e w10 ⟨rfl, hg, hi⟩
    replace Y := Aside0.mk (blk_grown Y.out hg (ints_ne I6.out Y.out (by decide)))
    replace H2 := Aside0.mk (row_over H2.out I6.out (by decide) hg)
    replace H3 := Aside0.mk (row_over H3.out I6.out (by decide) hg)
    replace B5 := Aside0.mk (B5.out.grown hg B5.out.size O6.out)
    clear hg hi c0 c1 c2 c3 c4 c5 c6 c7 c8 c9 c10 I6 O6
    have IV := Aside0.mk (show Inv w10 w5.heap.size D3 N.v2.length 2 58 from by
      rcases Nat.eq_zero_or_pos N.v2.length with h | h
      · exact .inl h
      · exact .inr (row_blk H3.out ⟨0, 0⟩ (by decide) h))
    clear H3
    go_wp2_with fail
    go_loopw [19] (fun v19 wr => ∃ i : Nat, i ≤ N.v2.length ∧ v19 = .int .i64 i ∧ Aside0 (Below w5.heap.size w5 wr) ∧ Aside0 (wr.heap[y]? = some (genO N (.slice D1 N.v1.length m1) (.slice D2 N.c1.length m2) (.slice D3 N.v2.length m3) (.slice D4 N.c2.length m4) (.slice D5 N.rq.length m5) (.slice D6 N.rp.length m6))) ∧ Aside0 (Inv wr w5.heap.size D3 N.v2.length 2 58) ∧ Aside0 (RowR kC 60 wr w5.heap.size (.slice D2 N.c1.length m2) N.c1)) (fun v19 _ => N.v2.length - (intOf v19).toNat)
    case atStart => exact ⟨0, by omega, rfl, B5, Y, IV, H2⟩
    case round =>
      obtain ⟨i, hi, rfl, HB, HY, HI, HR⟩ := hrel
      have lv := NL.out.h3
      obtain ⟨c0, c1, c2, c3, c4, c5, c6, c7, c8, c9, c10⟩ := heldG HY.out
      by_cases hlt : i < N.v2.length
      · rcases HI.out with h | ⟨gv, cs, rfl, hgb, hcs, hsz⟩
        · omega
        · have q0 := blk_cell hcs (i * 2)
          have q1 := blk_cell hcs (i * 2 + 1)
          rw [Array.getElem?_eq_getElem (by omega)] at q0 q1
          have r0 := blk_frozen hcs (i * 2)
          have r1 := blk_frozen hcs (i * 2 + 1)
          have NE := Aside0.mk (blk_ne HY.out hcs (by decide))
          go_wp2_with fail
          go_roundw
          case rel => exact ⟨i + 1, by omega, by go_num, ⟨set_below (set_below HB.out hgb _ _) hgb _ _⟩, ⟨set_far (set_far HY.out NE.out _ _) NE.out _ _⟩, ⟨.inr ⟨gv, _, rfl, hgb, blk_set (blk_set hcs _ _) _ _, by simpa using hsz⟩⟩, ⟨row_set (row_set HR.out hcs (by decide) _ _) (blk_set hcs _ _) (by decide) _ _⟩⟩
          case measure => simp [intOf]; omega
      · obtain rfl : i = N.v2.length := by omega
        have IU := Aside0.mk (show Inv wr w5.heap.size D2 N.c1.length 3 60 from by
          rcases Nat.eq_zero_or_pos N.c1.length with h | h
          · exact .inl h
          · exact .inr (row_blk HR.out ⟨0, 0, 0⟩ (by decide) h))
        clear HI HR IV H2 Y B5
        go_wp2_with fail
        clear c0 c1 c2 c3 c4 c5 c6 c7 c8 c9 c10 lv
        go_loopw [20] (fun v20 wq => ∃ i : Nat, i ≤ N.c1.length ∧ v20 = .int .i64 i ∧ Aside0 (Below w5.heap.size w5 wq) ∧ Aside0 (wq.heap[y]? = some (genO N (.slice D1 N.v1.length m1) (.slice D2 N.c1.length m2) (.slice D3 N.v2.length m3) (.slice D4 N.c2.length m4) (.slice D5 N.rq.length m5) (.slice D6 N.rp.length m6))) ∧ Aside0 (Inv wq w5.heap.size D2 N.c1.length 3 60)) (fun v20 _ => N.c1.length - (intOf v20).toNat)
        case atStart => exact ⟨0, by omega, rfl, HB, HY, IU⟩
        case round =>
          obtain ⟨i, hi, rfl, HB', HY', HI⟩ := hrel
          have lu := NL.out.h2
          clear HB HY IU
          obtain ⟨c0, c1, c2, c3, c4, c5, c6, c7, c8, c9, c10⟩ := heldG HY'.out
          by_cases hlt : i < N.c1.length
          · rcases HI.out with h | ⟨gu, cs, rfl, hgb, hcs, hsz⟩
            · omega
            · have q0 := blk_cell hcs (i * 3)
              have q1 := blk_cell hcs (i * 3 + 1)
              have q2 := blk_cell hcs (i * 3 + 2)
              rw [Array.getElem?_eq_getElem (by omega)] at q0 q1 q2
              have r0 := blk_frozen hcs (i * 3)
              have r1 := blk_frozen hcs (i * 3 + 1)
              have r2 := blk_frozen hcs (i * 3 + 2)
              have NE := Aside0.mk (blk_ne HY'.out hcs (by decide))
              go_wp2_with fail
              go_roundw
              case rel => exact ⟨i + 1, by omega, by go_num, ⟨set_below (set_below (set_below HB'.out hgb _ _) hgb _ _) hgb _ _⟩, ⟨set_far (set_far (set_far HY'.out NE.out _ _) NE.out _ _) NE.out _ _⟩, ⟨.inr ⟨gu, _, rfl, hgb, blk_set (blk_set (blk_set hcs _ _) _ _) _ _, by simpa using hsz⟩⟩⟩
              case measure => simp [intOf]; omega
          · obtain rfl : i = N.c1.length := by omega
            clear HI
            go_upto_region 19 with fail
            clear c0 c1 c2 c3 c4 c5 c6 c7 c8 c9 c10 lu HY'
            have SG := Aside0.mk ((sameB_iff g g).2 rfl)
            obtain ⟨c0, c1, c2, c3, c4, c5, c6, c7, c8, c9, c10⟩ := heldG (blk_kept X.out HB'.out)
            obtain ⟨d0, d1, d2, d3, d4, d5, d6, d7, d8, d9, d10⟩ := heldG (blk_kept P.out HB'.out)
            go_wp2_with fail
            refine (rs SG.out (XC.out.below HB'.out) (GC.out.below (below_then B.out B.out.size HB'.out)) GL.out GB.out GB.out).mono ?_
            rintro e wm1 ⟨rfl, hb⟩
            have Z1 := Aside0.mk (below_then HB'.out HB'.out.size hb)
            clear hb c0 c1 c2 c3 c4 c5 c6 c7 c8 c9 c10 d0 d1 d2 d3 d4 d5 d6 d7 d8 d9 d10
            go_wp2_with fail
            refine (left_calls Aq cq lq br _ BQ.out QN.out (blk_kept RQ.out Z1.out) (Kd.C_below CQ.out (below_then B.out B.out.size Z1.out)) CQ1.out).mono ?_
            rintro e wm2 ⟨rfl, hd⟩
            have Z2 := Aside0.mk (below_then Z1.out Z1.out.size hd.below)
            clear hd
            go_wp2_with fail
            refine (left_calls Ap cp lp bp _ BP.out PN.out (blk_kept RP.out Z2.out) (Kd.C_below CP.out (below_then B.out B.out.size Z2.out)) CP1.out).mono ?_
            rintro e wm3 ⟨rfl, hd⟩
            have Z3 := Aside0.mk (below_then Z2.out Z2.out.size hd.below)
            clear hd
            go_wp2_with fail
            refine (lives_calls _).mono ?_
            rintro e wm4 ⟨rfl, hb⟩
            have Z4 := Aside0.mk (below_then Z3.out Z3.out.size hb)
            clear hb
            have BF := Aside0.mk (below_then B.out B.out.size Z4.out)
            go_wp2_with fail
            go_ret
            exact ⟨rfl, BF.out⟩
end Go.Proofs.Ytpanefmemabckab.NextLaw
