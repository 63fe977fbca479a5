/- GenBack returns true at every Gen and row of bytes: the walk. -/
import Derived.Test.YtpanefmemabckaaGenReadsLaw
namespace Go.Proofs.Ytpanefmemabckaa.GenBackLaw
open Go.RowKit Go.Proofs.Ytpanefmemabckaa.NumA Go.Proofs.Ytpanefmemabckaa.NumMath Go.Proofs.Ytpanefmemabckaa.Bytes Go.Proofs.Ytpanefmemabckaa.GenS Go.Proofs.Ytpanefmemabckaa.GenRep Go.Proofs.Ytpanefmemabckaa.GenBlk Go.Proofs.Ytpanefmemabckaa.GenPure Go.Proofs.Ytpanefmemabckaa.GenMath Go.Proofs.Ytpanefmemabckaa.GenRaw Go.Proofs.Ytpanefmemabckaa.GenLives Go.Proofs.YtpanefmemabckaaW.PrintWords Go.Proofs.YtpanefmemabckaaW.PrintLast
open Go.Proofs.Ytpanefmemabckaa.GenCalls (great_calls greatB great_l)
open Go.Proofs.Ytpanefmemabckaa.GenBytes (Small)
open Go.Proofs.Ytpanefmemabckaa.GenGet (Src)
open Go.Proofs.Ytpanefmemabckaa.GenMay (may_calls)
open Go.Proofs.Ytpanefmemabckaa.GenReadsLaw (small_of same_rows below_unalloc')
open Go.Proofs.Ytpanefmemabckaa.GenZero (heap_new blk_kept blk_drew1)
set_option linter.unusedSimpArgs false
set_option linter.unusedVariables false

theorem seenB_lt (v : List Seen) : ∀ x ∈ seenB v, x < 256 := by
  induction v with
  | nil => intro x hx; cases hx
  | cons y v ih =>
    intro x hx
    rcases List.mem_append.1 hx with h | h
    · exact le_lt _ _ x h
    · rcases List.mem_append.1 h with h | h
      · exact le_lt _ _ x h
      · exact ih x h
theorem cliB_lt (v : List Cli) : ∀ x ∈ cliB v, x < 256 := by
  induction v with
  | nil => intro x hx; cases hx
  | cons y v ih =>
    intro x hx
    rcases List.mem_append.1 hx with h | h
    · exact le_lt _ _ x h
    · rcases List.mem_append.1 h with h | h
      · exact le_lt _ _ x h
      · rcases List.mem_append.1 h with h | h
        · exact le_lt _ _ x h
        · exact ih x h
theorem halfB_lt (k : Int) (v : List Seen) (c : List Cli) : ∀ x ∈ halfB k v c, x < 256 := by
  intro x hx
  rcases List.mem_append.1 hx with h | h
  · exact le_lt _ _ x h
  · rcases List.mem_append.1 h with h | h
    · exact le_lt _ _ x h
    · rcases List.mem_append.1 h with h | h
      · exact seenB_lt v x h
      · rcases List.mem_append.1 h with h | h
        · exact le_lt _ _ x h
        · exact cliB_lt c x h
theorem rowP_lt {l : List Nat} (h : ∀ c ∈ l, c < 256) : ∀ c ∈ rowP l, c < 256 := by
  intro c hc
  unfold rowP at hc
  rcases List.mem_append.1 hc with hc | hc
  · unfold putP at hc
    split at hc
    · exact le_lt _ _ c hc
    · cases hc
  · exact h c hc
theorem genB_lt {g : G} (gw : GenW g) (gb : GenB g) : ∀ x ∈ genB g, x < 256 := by
  intro x hx
  rcases List.mem_append.1 hx with h | h
  · exact halfB_lt _ _ _ x h
  · rcases List.mem_append.1 h with h | h
    · exact halfB_lt _ _ _ x h
    · rcases List.mem_append.1 h with h | h
      · exact rowP_lt (natL_lt gb.1) x h
      · rcases List.mem_append.1 h with h | h
        · exact rowP_lt (natL_lt gb.2) x h
        · have h1 := GenInv.bool01_lt g.ls
          have h2 := gw.su
          have h3 := gw.wi
          simp only [List.mem_cons, List.not_mem_nil, or_false] at h
          rcases h with rfl | rfl | rfl <;> omega
theorem genB_len {g : G} (gs : Small g) (hm : mayB g = true) : (genB g).length ≤ 1000000 := by
  obtain ⟨q1, q2⟩ := GenInv.may_l hm
  have r1 := GenBytes.rowP_len (l := natL g.rq) (by rw [GenInv.natL_len]; exact q1)
  have r2 := GenBytes.rowP_len (l := natL g.rp) (by rw [GenInv.natL_len]; exact q2)
  have s1 := gs.v1
  have s2 := gs.c1
  have s3 := gs.v2
  have s4 := gs.c2
  simp only [genB, List.length_append, GenInv.halfB_len, List.length_cons, List.length_nil]
  omega
theorem wide_l {g : G} (lg : GenL g 400000) : GenL g 1000000 := ⟨Nat.le_trans lg.h1 (by decide), Nat.le_trans lg.h2 (by decide), Nat.le_trans lg.h3 (by decide), Nat.le_trans lg.h4 (by decide), lg.h5, lg.h6⟩
theorem nil_c (w : World) : GenC w G0 (.slice none 0 0) (.slice none 0 0) (.slice none 0 0) (.slice none 0 0) (.slice none 0 0) (.slice none 0 0) := ⟨RowC.nil _ _, RowC.nil _ _, RowC.nil _ _, RowC.nil _ _, RowC.nil _ _, RowC.nil _ _⟩
set_option maxRecDepth 100000 in
set_option maxHeartbeats 16000000 in
theorem walk (g : G) (s1 s2 s3 s4 s5 s6 sv : Value) (bl : List Int) (w : World) (gc : GenC w g s1 s2 s3 s4 s5 s6) (gb : GenB g) (gl : GenL g 140737488351232) (gw : GenW g) (bc : RowC kB w sv bl) (bb : BytesOk bl) (bd : bl.length ≤ 140737488351232) :
    Calls Try.prog 9 #[genV g s1 s2 s3 s4 s5 s6, sv] w fun e w' => e = .returned (.bool true) ∧ Below w.heap.size w w' := by
  obtain ⟨l, rfl, hb⟩ := bytes_of bb
  obtain ⟨A, c, rfl, hc, hr⟩ := bc
  have GC := Aside0.mk gc
  have GB := Aside0.mk gb
  have GL0 := Aside0.mk gl
  have GW := Aside0.mk gw
  have BY := Aside0.mk hb
  have HC := Aside0.mk hc
  have HR := Aside0.mk hr
  have hp := heap_new w (genO g s1 s2 s3 s4 s5 s6)
  obtain ⟨p, hp'⟩ : ∃ p, p = w.heap.size := ⟨_, rfl⟩
  obtain ⟨W0, hW0⟩ : ∃ W0, W0 = w.alloc (genO g s1 s2 s3 s4 s5 s6) := ⟨_, rfl⟩
  have B := Aside0.mk (below_al w (genO g s1 s2 s3 s4 s5 s6))
  rw [← hW0] at hp B
  rw [← hp'] at hp
  have P := Aside0.mk hp
  have EW := Aside0.mk hW0
  have EP := Aside0.mk hp'
  clear hp hp' hW0 gc gb gl gw hb hc hr bb bd
  obtain ⟨c0, c1, c2, c3, c4, c5, c6, c7, c8, c9, c10⟩ := heldG P.out
  go_enter Try.func9, Try.ntmps9
  go_upto_region 1 with fail
  change Code.wp _ _ _ _ (w.alloc (genO g s1 s2 s3 s4 s5 s6))
  rw [← EW.out, ← EP.out]
  go_wp2_with fail
  refine (great_calls (GC.out.below B.out) GL0.out).mono ?_
  rintro e w1 ⟨rfl, hb⟩
  replace P := Aside0.mk (blk_kept P.out hb)
  replace B := Aside0.mk (below_then B.out B.out.size hb)
  clear hb c0 c1 c2 c3 c4 c5 c6 c7 c8 c9 c10 EW EP
  obtain ⟨c0, c1, c2, c3, c4, c5, c6, c7, c8, c9, c10⟩ := heldG P.out
  cases hgr : greatB g with
  | true =>
    go_wp2_with fail
    refine (lives_calls _).mono ?_
    rintro e wz ⟨rfl, hb⟩
    have BZ := Aside0.mk (below_then B.out B.out.size hb)
    clear hb
    go_wp2_with fail
    go_ret
    exact ⟨rfl, BZ.out⟩
  | false =>
    have GR := Aside0.mk hgr
    clear hgr
    by_cases h6 : 60000 < l.length
    · have h6' : (60000 : Int) < ((ofN l).length : Int) := by rw [ofN_length]; omega
      go_wp2_with fail
      refine (lives_calls _).mono ?_
      rintro e wz ⟨rfl, hb⟩
      have BZ := Aside0.mk (below_then B.out B.out.size hb)
      clear hb
      go_wp2_with fail
      go_ret
      exact ⟨rfl, BZ.out⟩
    · have h6' : ¬ (60000 : Int) < ((ofN l).length : Int) := by rw [ofN_length]; omega
      have L6 := Aside0.mk (show l.length ≤ 60000 from by omega)
      have GS := Aside0.mk (small_of GR.out)
      have GL := Aside0.mk (great_l GR.out)
      obtain ⟨K, hK⟩ : ∃ K, K = genR l := ⟨_, rfl⟩
      obtain ⟨C, F⟩ := K
      have IK := Aside0.mk hK
      have CW := Aside0.mk (show GenW C from by have h := gen_w (l := l) BY.out; rw [← hK] at h; exact h)
      have CB := Aside0.mk (show GenB C from by have h := gen_b (l := l) BY.out; rw [← hK] at h; exact h)
      have CL := Aside0.mk (show GenL C 400000 from by have h := gen_l (l := l) BY.out (by have := L6.out; omega); rw [← hK] at h; exact h)
      have CS := Aside0.mk (show Small C from by
        have h : 12 * C.v1.length ≤ l.length ∧ 16 * C.c1.length ≤ l.length ∧ 12 * C.v2.length ≤ l.length ∧ 16 * C.c2.length ≤ l.length := by have h := gen_len (l := l); rw [← hK] at h; exact h
        have := L6.out
        exact ⟨by omega, by omega, by omega, by omega⟩)
      have CE := Aside0.mk (show F ≠ 0 → C = G0 from by have h := GenInv.genR_err (l := l); rw [← hK] at h; exact h)
      have CF := Aside0.mk (show F = 0 → mayB C = true ∧ genB C = l from by have h := GenInv.fore (l := l) BY.out; rw [← hK] at h; exact h)
      clear h6 GR hK
      cases hmb : mayB g with
      | true =>
        have MB := Aside0.mk hmb
        have RB := Aside0.mk (GenInv.back GW.out GB.out GL.out hmb)
        have LT := Aside0.mk (genB_lt GW.out GB.out)
        have LN := Aside0.mk (genB_len GS.out hmb)
        clear hmb
        obtain ⟨X, hX⟩ : ∃ X, X = genB g := ⟨_, rfl⟩
        rw [← hX] at RB LT LN
        have IX := Aside0.mk hX
        clear hX
        go_wp2_with fail
        clear h6'
        refine (GenBytes.bytes_yes (GC.out.below B.out) GL.out GW.out GB.out GS.out MB.out).mono ?_
        rintro e2 w2 ⟨v2, rfl, ho, hb⟩
        rw [← IX.out] at ho
        obtain ⟨A2, k2, rfl⟩ := Kd.R_slice ho
        have X2 := Aside0.mk (Kd.R_reads' ho).2
        replace P := Aside0.mk (blk_kept P.out hb)
        replace B := Aside0.mk (below_then B.out B.out.size hb)
        clear hb ho c0 c1 c2 c3 c4 c5 c6 c7 c8 c9 c10
        go_wp2_with fail
        refine (GenReads.read_calls (l := X) ⟨X2.out.2, X2.out.1, LT.out, LN.out⟩).mono ?_
        rintro e3 w3 ⟨t1, t2, t3, t4, t5, t6, rfl, ho, hb⟩
        rw [RB.out] at ho ⊢
        have Y3 := GenC.of ho
        obtain ⟨D1, m1, rfl, -, -⟩ := Y3.h1
        obtain ⟨D2, m2, rfl, -, -⟩ := Y3.h2
        obtain ⟨D3, m3, rfl, -, -⟩ := Y3.h3
        obtain ⟨D4, m4, rfl, -, -⟩ := Y3.h4
        obtain ⟨D5, m5, rfl, -, -⟩ := Y3.h5
        obtain ⟨D6, m6, rfl, -, -⟩ := Y3.h6
        have YC := Aside0.mk (show GenC (w3.alloc (genO g (.slice D1 g.v1.length m1) (.slice D2 g.c1.length m2) (.slice D3 g.v2.length m3) (.slice D4 g.c2.length m4) (.slice D5 g.rq.length m5) (.slice D6 g.rp.length m6))) g (.slice D1 g.v1.length m1) (.slice D2 g.c1.length m2) (.slice D3 g.v2.length m3) (.slice D4 g.c2.length m4) (.slice D5 g.rq.length m5) (.slice D6 g.rp.length m6) from GenC.below Y3 (below_al w3 (genO g (.slice D1 g.v1.length m1) (.slice D2 g.c1.length m2) (.slice D3 g.v2.length m3) (.slice D4 g.c2.length m4) (.slice D5 g.rq.length m5) (.slice D6 g.rp.length m6))))
        have YX := Aside0.mk (heap_new w3 (genO g (.slice D1 g.v1.length m1) (.slice D2 g.c1.length m2) (.slice D3 g.v2.length m3) (.slice D4 g.c2.length m4) (.slice D5 g.rq.length m5) (.slice D6 g.rp.length m6)))
        have hb3 := below_unalloc' hb (genO g (.slice D1 g.v1.length m1) (.slice D2 g.c1.length m2) (.slice D3 g.v2.length m3) (.slice D4 g.c2.length m4) (.slice D5 g.rq.length m5) (.slice D6 g.rp.length m6))
        replace P := Aside0.mk (blk_kept P.out hb3)
        replace B := Aside0.mk (below_then B.out B.out.size hb3)
        clear hb hb3 ho Y3 X2
        obtain ⟨x, hx⟩ : ∃ x, x = w3.heap.size := ⟨_, rfl⟩
        rw [← hx] at YX
        have EX := Aside0.mk hx
        clear hx
        go_upto_region 6 with fail
        change Code.wp _ _ _ _ (w3.alloc (genO g (.slice D1 g.v1.length m1) (.slice D2 g.c1.length m2) (.slice D3 g.v2.length m3) (.slice D4 g.c2.length m4) (.slice D5 g.rq.length m5) (.slice D6 g.rp.length m6)))
        rw [← EX.out]
        generalize w3.alloc (genO g (.slice D1 g.v1.length m1) (.slice D2 g.c1.length m2) (.slice D3 g.v2.length m3) (.slice D4 g.c2.length m4) (.slice D5 g.rq.length m5) (.slice D6 g.rp.length m6)) = w4 at YC YX P B ⊢
        clear EX
        obtain ⟨c0, c1, c2, c3, c4, c5, c6, c7, c8, c9, c10⟩ := heldG P.out
        obtain ⟨x0, x1, x2, x3, x4, x5, x6, x7, x8, x9, x10⟩ := heldG YX.out
        go_wp2_with fail
        refine (GenTrue.gensame YC.out (GC.out.below B.out) (wide_l GL.out)).mono ?_
        rintro e4 w5 ⟨rfl, hb⟩
        replace YC := Aside0.mk (YC.out.below hb)
        replace YX := Aside0.mk (blk_kept YX.out hb)
        replace P := Aside0.mk (blk_kept P.out hb)
        replace B := Aside0.mk (below_then B.out B.out.size hb)
        clear hb c0 c1 c2 c3 c4 c5 c6 c7 c8 c9 c10 x0 x1 x2 x3 x4 x5 x6 x7 x8 x9 x10
        obtain ⟨c0, c1, c2, c3, c4, c5, c6, c7, c8, c9, c10⟩ := heldG P.out
        obtain ⟨x0, x1, x2, x3, x4, x5, x6, x7, x8, x9, x10⟩ := heldG YX.out
        go_wp2_with fail
        refine (GenTrue.refsame YC.out (GC.out.below B.out) (wide_l GL.out)).mono ?_
        rintro e5 w6 ⟨rfl, hb⟩
        replace YC := Aside0.mk (YC.out.below hb)
        replace YX := Aside0.mk (blk_kept YX.out hb)
        replace P := Aside0.mk (blk_kept P.out hb)
        replace B := Aside0.mk (below_then B.out B.out.size hb)
        clear hb c0 c1 c2 c3 c4 c5 c6 c7 c8 c9 c10 x0 x1 x2 x3 x4 x5 x6 x7 x8 x9 x10
        obtain ⟨c0, c1, c2, c3, c4, c5, c6, c7, c8, c9, c10⟩ := heldG P.out
        obtain ⟨x0, x1, x2, x3, x4, x5, x6, x7, x8, x9, x10⟩ := heldG YX.out
        go_wp2_with fail
        refine (may_calls (GC.out.below B.out) GL.out GW.out).mono ?_
        rintro e6 w7 ⟨rfl, hb⟩
        rw [MB.out]
        replace B := Aside0.mk (below_then B.out B.out.size hb)
        clear hb c0 c1 c2 c3 c4 c5 c6 c7 c8 c9 c10 x0 x1 x2 x3 x4 x5 x6 x7 x8 x9 x10 P YX YC
        go_wp2_with fail
        refine (GenReads.read_calls (l := l) ⟨Kd.C_below HR.out B.out, HC.out, BY.out, by have := L6.out; omega⟩).mono ?_
        rintro e7 w8 ⟨t1, t2, t3, t4, t5, t6, rfl, ho, hb⟩
        rw [← IK.out] at ho ⊢
        have Y7 := GenC.of ho
        obtain ⟨E1, n1, rfl, -, -⟩ := Y7.h1
        obtain ⟨E2, n2, rfl, -, -⟩ := Y7.h2
        obtain ⟨E3, n3, rfl, -, -⟩ := Y7.h3
        obtain ⟨E4, n4, rfl, -, -⟩ := Y7.h4
        obtain ⟨E5, n5, rfl, -, -⟩ := Y7.h5
        obtain ⟨E6, n6, rfl, -, -⟩ := Y7.h6
        have ZC := Aside0.mk (show GenC (w8.alloc (genO C (.slice E1 C.v1.length n1) (.slice E2 C.c1.length n2) (.slice E3 C.v2.length n3) (.slice E4 C.c2.length n4) (.slice E5 C.rq.length n5) (.slice E6 C.rp.length n6))) C (.slice E1 C.v1.length n1) (.slice E2 C.c1.length n2) (.slice E3 C.v2.length n3) (.slice E4 C.c2.length n4) (.slice E5 C.rq.length n5) (.slice E6 C.rp.length n6) from GenC.below Y7 (below_al w8 (genO C (.slice E1 C.v1.length n1) (.slice E2 C.c1.length n2) (.slice E3 C.v2.length n3) (.slice E4 C.c2.length n4) (.slice E5 C.rq.length n5) (.slice E6 C.rp.length n6))))
        have ZX := Aside0.mk (heap_new w8 (genO C (.slice E1 C.v1.length n1) (.slice E2 C.c1.length n2) (.slice E3 C.v2.length n3) (.slice E4 C.c2.length n4) (.slice E5 C.rq.length n5) (.slice E6 C.rp.length n6)))
        have hb7 := below_unalloc' hb (genO C (.slice E1 C.v1.length n1) (.slice E2 C.c1.length n2) (.slice E3 C.v2.length n3) (.slice E4 C.c2.length n4) (.slice E5 C.rq.length n5) (.slice E6 C.rp.length n6))
        replace B := Aside0.mk (below_then B.out B.out.size hb7)
        clear hb hb7 ho Y7
        obtain ⟨y, hy⟩ : ∃ y, y = w8.heap.size := ⟨_, rfl⟩
        rw [← hy] at ZX
        have EY := Aside0.mk hy
        clear hy
        go_upto_region 11 with fail
        change Code.wp _ _ _ _ (w8.alloc (genO C (.slice E1 C.v1.length n1) (.slice E2 C.c1.length n2) (.slice E3 C.v2.length n3) (.slice E4 C.c2.length n4) (.slice E5 C.rq.length n5) (.slice E6 C.rp.length n6)))
        rw [← EY.out]
        generalize w8.alloc (genO C (.slice E1 C.v1.length n1) (.slice E2 C.c1.length n2) (.slice E3 C.v2.length n3) (.slice E4 C.c2.length n4) (.slice E5 C.rq.length n5) (.slice E6 C.rp.length n6)) = w9 at ZC ZX B ⊢
        clear EY
        obtain ⟨d0, d1, d2, d3, d4, d5, d6, d7, d8, d9, d10⟩ := heldG ZX.out
        by_cases hF : F = 0
        · have MC := Aside0.mk (CF.out hF).1
          have IL := Aside0.mk (CF.out hF).2
          subst hF
          go_wp2_with fail
          refine (GenBytes.bytes_yes ZC.out CL.out CW.out CB.out CS.out MC.out).mono ?_
          rintro e8 wa ⟨va, rfl, ho, hb⟩
          rw [IL.out] at ho
          obtain ⟨Aa, ka, rfl⟩ := Kd.R_slice ho
          have XA := Aside0.mk (RowC.of ho)
          replace ZC := Aside0.mk (ZC.out.below hb)
          replace ZX := Aside0.mk (blk_kept ZX.out hb)
          replace B := Aside0.mk (below_then B.out B.out.size hb)
          clear hb ho d0 d1 d2 d3 d4 d5 d6 d7 d8 d9 d10
          obtain ⟨d0, d1, d2, d3, d4, d5, d6, d7, d8, d9, d10⟩ := heldG ZX.out
          go_wp2_with fail
          refine (may_calls ZC.out CL.out CW.out).mono ?_
          rintro e9 wb ⟨rfl, hb⟩
          rw [MC.out]
          replace XA := Aside0.mk (XA.out.below hb)
          replace B := Aside0.mk (below_then B.out B.out.size hb)
          clear hb d0 d1 d2 d3 d4 d5 d6 d7 d8 d9 d10 ZC ZX
          go_wp2_with fail
          refine (same_rows XA.out ⟨A, c, rfl, HC.out, Kd.C_below HR.out B.out⟩).mono ?_
          rintro e10 wc ⟨rfl, hb⟩
          replace B := Aside0.mk (below_then B.out B.out.size hb)
          clear hb XA
          go_wp2_with fail
          refine (lives_calls _).mono ?_
          rintro e wz ⟨rfl, hb⟩
          have BZ := Aside0.mk (below_then B.out B.out.size hb)
          clear hb
          go_wp2_with fail
          go_ret
          exact ⟨rfl, BZ.out⟩
        · have hF' : (F != 0) = true := bne_iff_ne.mpr hF
          have IC := CE.out hF
          subst IC
          go_wp2_with fail
          refine (GenTrue.refsame ZC.out (nil_c _) (wide_l CL.out)).mono ?_
          rintro e10 wc ⟨rfl, hb⟩
          replace B := Aside0.mk (below_then B.out B.out.size hb)
          clear hb d0 d1 d2 d3 d4 d5 d6 d7 d8 d9 d10 ZC ZX
          go_wp2_with fail
          refine (lives_calls _).mono ?_
          rintro e wz ⟨rfl, hb⟩
          have BZ := Aside0.mk (below_then B.out B.out.size hb)
          clear hb
          go_wp2_with fail
          go_ret
          exact ⟨rfl, BZ.out⟩
      | false =>
        have MB := Aside0.mk hmb
        clear hmb
        go_wp2_with fail
        clear h6'
        refine (GenBytes.bytes_no (GC.out.below B.out) GL.out GW.out GB.out GS.out MB.out).mono ?_
        rintro e2 w2 ⟨rfl, hb⟩
        replace P := Aside0.mk (blk_kept P.out hb)
        replace B := Aside0.mk (below_then B.out B.out.size hb)
        clear hb c0 c1 c2 c3 c4 c5 c6 c7 c8 c9 c10
        obtain ⟨c0, c1, c2, c3, c4, c5, c6, c7, c8, c9, c10⟩ := heldG P.out
        go_wp2_with fail
        refine (may_calls (GC.out.below B.out) GL.out GW.out).mono ?_
        rintro e6 w7 ⟨rfl, hb⟩
        rw [MB.out]
        replace B := Aside0.mk (below_then B.out B.out.size hb)
        clear hb c0 c1 c2 c3 c4 c5 c6 c7 c8 c9 c10 P
        go_wp2_with fail
        refine (GenReads.read_calls (l := l) ⟨Kd.C_below HR.out B.out, HC.out, BY.out, by have := L6.out; omega⟩).mono ?_
        rintro e7 w8 ⟨t1, t2, t3, t4, t5, t6, rfl, ho, hb⟩
        rw [← IK.out] at ho ⊢
        have Y7 := GenC.of ho
        obtain ⟨E1, n1, rfl, -, -⟩ := Y7.h1
        obtain ⟨E2, n2, rfl, -, -⟩ := Y7.h2
        obtain ⟨E3, n3, rfl, -, -⟩ := Y7.h3
        obtain ⟨E4, n4, rfl, -, -⟩ := Y7.h4
        obtain ⟨E5, n5, rfl, -, -⟩ := Y7.h5
        obtain ⟨E6, n6, rfl, -, -⟩ := Y7.h6
        have ZC := Aside0.mk (show GenC (w8.alloc (genO C (.slice E1 C.v1.length n1) (.slice E2 C.c1.length n2) (.slice E3 C.v2.length n3) (.slice E4 C.c2.length n4) (.slice E5 C.rq.length n5) (.slice E6 C.rp.length n6))) C (.slice E1 C.v1.length n1) (.slice E2 C.c1.length n2) (.slice E3 C.v2.length n3) (.slice E4 C.c2.length n4) (.slice E5 C.rq.length n5) (.slice E6 C.rp.length n6) from GenC.below Y7 (below_al w8 (genO C (.slice E1 C.v1.length n1) (.slice E2 C.c1.length n2) (.slice E3 C.v2.length n3) (.slice E4 C.c2.length n4) (.slice E5 C.rq.length n5) (.slice E6 C.rp.length n6))))
        have ZX := Aside0.mk (heap_new w8 (genO C (.slice E1 C.v1.length n1) (.slice E2 C.c1.length n2) (.slice E3 C.v2.length n3) (.slice E4 C.c2.length n4) (.slice E5 C.rq.length n5) (.slice E6 C.rp.length n6)))
        have hb7 := below_unalloc' hb (genO C (.slice E1 C.v1.length n1) (.slice E2 C.c1.length n2) (.slice E3 C.v2.length n3) (.slice E4 C.c2.length n4) (.slice E5 C.rq.length n5) (.slice E6 C.rp.length n6))
        replace B := Aside0.mk (below_then B.out B.out.size hb7)
        clear hb hb7 ho Y7
        obtain ⟨y, hy⟩ : ∃ y, y = w8.heap.size := ⟨_, rfl⟩
        rw [← hy] at ZX
        have EY := Aside0.mk hy
        clear hy
        go_upto_region 11 with fail
        change Code.wp _ _ _ _ (w8.alloc (genO C (.slice E1 C.v1.length n1) (.slice E2 C.c1.length n2) (.slice E3 C.v2.length n3) (.slice E4 C.c2.length n4) (.slice E5 C.rq.length n5) (.slice E6 C.rp.length n6)))
        rw [← EY.out]
        generalize w8.alloc (genO C (.slice E1 C.v1.length n1) (.slice E2 C.c1.length n2) (.slice E3 C.v2.length n3) (.slice E4 C.c2.length n4) (.slice E5 C.rq.length n5) (.slice E6 C.rp.length n6)) = w9 at ZC ZX B ⊢
        clear EY
        obtain ⟨d0, d1, d2, d3, d4, d5, d6, d7, d8, d9, d10⟩ := heldG ZX.out
        by_cases hF : F = 0
        · have MC := Aside0.mk (CF.out hF).1
          have IL := Aside0.mk (CF.out hF).2
          subst hF
          go_wp2_with fail
          refine (GenBytes.bytes_yes ZC.out CL.out CW.out CB.out CS.out MC.out).mono ?_
          rintro e8 wa ⟨va, rfl, ho, hb⟩
          rw [IL.out] at ho
          obtain ⟨Aa, ka, rfl⟩ := Kd.R_slice ho
          have XA := Aside0.mk (RowC.of ho)
          replace ZC := Aside0.mk (ZC.out.below hb)
          replace ZX := Aside0.mk (blk_kept ZX.out hb)
          replace B := Aside0.mk (below_then B.out B.out.size hb)
          clear hb ho d0 d1 d2 d3 d4 d5 d6 d7 d8 d9 d10
          obtain ⟨d0, d1, d2, d3, d4, d5, d6, d7, d8, d9, d10⟩ := heldG ZX.out
          go_wp2_with fail
          refine (may_calls ZC.out CL.out CW.out).mono ?_
          rintro e9 wb ⟨rfl, hb⟩
          rw [MC.out]
          replace XA := Aside0.mk (XA.out.below hb)
          replace B := Aside0.mk (below_then B.out B.out.size hb)
          clear hb d0 d1 d2 d3 d4 d5 d6 d7 d8 d9 d10 ZC ZX
          go_wp2_with fail
          refine (same_rows XA.out ⟨A, c, rfl, HC.out, Kd.C_below HR.out B.out⟩).mono ?_
          rintro e10 wc ⟨rfl, hb⟩
          replace B := Aside0.mk (below_then B.out B.out.size hb)
          clear hb XA
          go_wp2_with fail
          refine (lives_calls _).mono ?_
          rintro e wz ⟨rfl, hb⟩
          have BZ := Aside0.mk (below_then B.out B.out.size hb)
          clear hb
          go_wp2_with fail
          go_ret
          exact ⟨rfl, BZ.out⟩
        · have hF' : (F != 0) = true := bne_iff_ne.mpr hF
          have IC := CE.out hF
          subst IC
          go_wp2_with fail
          refine (GenTrue.refsame ZC.out (nil_c _) (wide_l CL.out)).mono ?_
          rintro e10 wc ⟨rfl, hb⟩
          replace B := Aside0.mk (below_then B.out B.out.size hb)
          clear hb d0 d1 d2 d3 d4 d5 d6 d7 d8 d9 d10 ZC ZX
          go_wp2_with fail
          refine (lives_calls _).mono ?_
          rintro e wz ⟨rfl, hb⟩
          have BZ := Aside0.mk (below_then B.out B.out.size hb)
          clear hb
          go_wp2_with fail
          go_ret
          exact ⟨rfl, BZ.out⟩
end Go.Proofs.Ytpanefmemabckaa.GenBackLaw
