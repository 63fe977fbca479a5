/- GenReads returns true at every Gen and row of bytes: the walk. -/
import Derived.Test.YtpanefmemabckaaGenReads
import Derived.Test.YtpanefmemabckaaGenHalf
import Derived.Test.YtpanefmemabckaaGenNext
namespace Go.Proofs.Ytpanefmemabckaa.GenReadsLaw
open Go.RowKit Go.Proofs.Ytpanefmemabckaa.NumA Go.Proofs.Ytpanefmemabckaa.NumMath Go.Proofs.Ytpanefmemabckaa.Bytes Go.Proofs.Ytpanefmemabckaa.GenS Go.Proofs.Ytpanefmemabckaa.GenRep Go.Proofs.Ytpanefmemabckaa.GenBlk Go.Proofs.Ytpanefmemabckaa.GenPure Go.Proofs.Ytpanefmemabckaa.GenMath Go.Proofs.Ytpanefmemabckaa.GenRaw Go.Proofs.Ytpanefmemabckaa.GenLives Go.Proofs.YtpanefmemabckaaW.PrintWords Go.Proofs.YtpanefmemabckaaW.PrintLast
open Go.Proofs.Ytpanefmemabckaa.GenCalls (great_calls greatB great_l)
open Go.Proofs.Ytpanefmemabckaa.GenBytes (Small)
open Go.Proofs.Ytpanefmemabckaa.GenGet (Src)
open Go.Proofs.Ytpanefmemabckaa.Wide (C_block wide_calls left_calls cellsN)
open Go.Proofs.Ytpanefmemabckaa.GenMay (may_calls)
open Go.Proofs.Ytpanefmemabckaa.GenMayR (refmay_calls)
open Go.Proofs.Ytpanefmemabckaa.GenZero (heap_new blk_kept blk_drew1)
set_option linter.unusedSimpArgs false
set_option linter.unusedVariables false

/-- the bytes and the error of a Gen -/
def bytesL (g : G) : List Nat := if mayB g = true then genB g else []
def bytesE (g : G) : Int := if mayB g = true then 0 else 2
theorem small_of {g : G} (h : greatB g = false) : Small g := by
  unfold greatB at h
  simp only [Bool.or_eq_false_iff, decide_eq_false_iff_not] at h
  exact ⟨by omega, by omega, by omega, by omega⟩
theorem gen_bytes {W : World} {g : G} {s1 s2 s3 s4 s5 s6 : Value} (gc : GenC W g s1 s2 s3 s4 s5 s6) (gl : GenL g 400000) (gw : GenW g) (gb : GenB g) (gs : Small g) :
    Calls Try.prog 35 #[genV g s1 s2 s3 s4 s5 s6] W fun e w' => ∃ v, e = .returned (.tuple #[v, .int .i64 (bytesE g)]) ∧ RowR kB 5 w' W.heap.size v (ofN (bytesL g)) ∧ Below W.heap.size W w' := by
  cases hm : mayB g with
  | true => exact (GenBytes.bytes_yes gc gl gw gb gs hm).mono fun e w' ⟨v, h1, h2, h3⟩ => ⟨v, by rw [h1]; simp [bytesE, hm], by simpa [bytesL, hm] using h2, h3⟩
  | false => exact (GenBytes.bytes_no gc gl gw gb gs hm).mono fun e w' ⟨h1, h3⟩ => ⟨.slice none 0 0, by rw [h1]; simp [bytesE, hm], by simp only [bytesL, hm]; exact Kd.R_nil _ _ _ _ _, h3⟩
theorem ref_bytes {W : World} {g : G} {s1 s2 s3 s4 s5 s6 : Value} (gc : GenC W g s1 s2 s3 s4 s5 s6) (gl : GenL g 400000) (gw : GenW g) (gb : GenB g) (gs : Small g) :
    Calls Try.prog 36 #[genV g s1 s2 s3 s4 s5 s6] W fun e w' => ∃ v, e = .returned (.tuple #[v, .int .i64 (bytesE g)]) ∧ RowR kB 5 w' W.heap.size v (ofN (bytesL g)) ∧ Below W.heap.size W w' := by
  cases hm : mayB g with
  | true => exact (GenBytesR.bytes_yes gc gl gw gb gs hm).mono fun e w' ⟨v, h1, h2, h3⟩ => ⟨v, by rw [h1]; simp [bytesE, hm], by simpa [bytesL, hm] using h2, h3⟩
  | false => exact (GenBytesR.bytes_no gc gl gw gb gs hm).mono fun e w' ⟨h1, h3⟩ => ⟨.slice none 0 0, by rw [h1]; simp [bytesE, hm], by simp only [bytesL, hm]; exact Kd.R_nil _ _ _ _ _, h3⟩
theorem same_rows {w : World} {v v' : Value} {l : List Int} (h : RowC kB w v l) (h' : RowC kB w v' l) : Calls Try.prog 41 #[v, v'] w fun e w' => e = .returned (.bool true) ∧ Below w.heap.size w w' := by
  obtain ⟨A1, c1, rfl, l1, r1⟩ := h
  obtain ⟨A2, c2, rfl, l2, r2⟩ := h'
  have hf : cardexref00_Same.f l l = some true := congrArg some (by simp)
  exact (cardexref00_Same.calls A1 c1 l A2 c2 l _ w r1 l1 r2 l2 hf).mono fun _ _ ⟨e, h⟩ => ⟨e, by first | exact h | exact h.below⟩
theorem left_at {w : World} {A : Option Addr} {c b : Nat} {l : List Nat} (hb : ∀ c ∈ l, c < 256) (hs : l.length ≤ 140737488351232)
    (hblk : w.heap[b]? = some (.cells (cellsN (l ++ [7, 7, 7])) 5 (0, 0))) (hr1 : Kd.C (Kd.int .u8) w A (ofN l).length (ofN l)) (hc1 : (ofN l).length ≤ c) :
    Calls Try.prog 31 #[.slice (some ⟨b, 0, none⟩) (ofN l).length (l.length + 3), .slice A (ofN l).length c] w fun e w' => e = .returned (.bool true) ∧ Below w.heap.size w w' :=
  (left_calls A c l b w hb hs hblk hr1 hc1).mono fun _ _ ⟨e, h⟩ => ⟨e, h.below⟩
theorem rsame {w : World} {g : G} {s1 s2 s3 s4 s5 s6 u1 u2 u3 u4 u5 u6 : Value} (hg : GenC w g s1 s2 s3 s4 s5 s6) (hh : GenC w g u1 u2 u3 u4 u5 u6) (lg : GenL g 400000) (bg : GenB g) :
    Calls Try.prog 42 #[genV g s1 s2 s3 s4 s5 s6, genV g u1 u2 u3 u4 u5 u6] w fun e w' => e = .returned (.bool true) ∧ Below w.heap.size w w' := by
  exact GenTrue.refsame hg hh ⟨Nat.le_trans lg.h1 (by decide), Nat.le_trans lg.h2 (by decide), Nat.le_trans lg.h3 (by decide), Nat.le_trans lg.h4 (by decide), lg.h5, lg.h6⟩
theorem below_unalloc' {w w1 : World} (h : Below w.heap.size w w1) (o : Obj) : Below w.heap.size w (w1.alloc o) := h.alloc h.size o
/-- what stands, all along -/
structure Held (w w3 W : World) (p x y : Nat) (g C : G) (s1 s2 s3 s4 s5 s6 d1 d2 d3 d4 d5 d6 e1 e2 e3 e4 e5 e6 : Value) : Prop where
  p0 : W.heap[p]? = some (genO g s1 s2 s3 s4 s5 s6)
  px : W.heap[x]? = some (genO C d1 d2 d3 d4 d5 d6)
  py : W.heap[y]? = some (genO C e1 e2 e3 e4 e5 e6)
  b : Below w.heap.size w W
  b3 : Below w3.heap.size w3 W
section
variable {w w3 W W' : World} {p x y : Nat} {g C : G} {s1 s2 s3 s4 s5 s6 d1 d2 d3 d4 d5 d6 e1 e2 e3 e4 e5 e6 : Value}
theorem Held.kept (k : Held w w3 W p x y g C s1 s2 s3 s4 s5 s6 d1 d2 d3 d4 d5 d6 e1 e2 e3 e4 e5 e6) (hb : Below W.heap.size W W') : Held w w3 W' p x y g C s1 s2 s3 s4 s5 s6 d1 d2 d3 d4 d5 d6 e1 e2 e3 e4 e5 e6 :=
  ⟨blk_kept k.p0 hb, blk_kept k.px hb, blk_kept k.py hb, below_then k.b k.b.size hb, below_then k.b3 k.b3.size hb⟩
theorem held33 {w' : World} (k : Held w w3 w' p x y g C s1 s2 s3 s4 s5 s6 d1 d2 d3 d4 d5 d6 e1 e2 e3 e4 e5 e6) : w'.cell? ⟨p, 0, none⟩ = some (.int .u32 g.k1) ∧ w'.cell? ⟨p, 1, none⟩ = some s1 ∧ w'.cell? ⟨p, 2, none⟩ = some s2 ∧ w'.cell? ⟨p, 3, none⟩ = some (.int .u32 g.k2) ∧ w'.cell? ⟨p, 4, none⟩ = some s3 ∧ w'.cell? ⟨p, 5, none⟩ = some s4 ∧ w'.cell? ⟨p, 6, none⟩ = some s5 ∧ w'.cell? ⟨p, 7, none⟩ = some s6 ∧ w'.cell? ⟨p, 8, none⟩ = some (.bool g.ls) ∧ w'.cell? ⟨p, 9, none⟩ = some (.int .u8 g.su) ∧ w'.cell? ⟨p, 10, none⟩ = some (.int .u8 g.wi) ∧ w'.cell? ⟨x, 0, none⟩ = some (.int .u32 C.k1) ∧ w'.cell? ⟨x, 1, none⟩ = some d1 ∧ w'.cell? ⟨x, 2, none⟩ = some d2 ∧ w'.cell? ⟨x, 3, none⟩ = some (.int .u32 C.k2) ∧ w'.cell? ⟨x, 4, none⟩ = some d3 ∧ w'.cell? ⟨x, 5, none⟩ = some d4 ∧ w'.cell? ⟨x, 6, none⟩ = some d5 ∧ w'.cell? ⟨x, 7, none⟩ = some d6 ∧ w'.cell? ⟨x, 8, none⟩ = some (.bool C.ls) ∧ w'.cell? ⟨x, 9, none⟩ = some (.int .u8 C.su) ∧ w'.cell? ⟨x, 10, none⟩ = some (.int .u8 C.wi) ∧ w'.cell? ⟨y, 0, none⟩ = some (.int .u32 C.k1) ∧ w'.cell? ⟨y, 1, none⟩ = some e1 ∧ w'.cell? ⟨y, 2, none⟩ = some e2 ∧ w'.cell? ⟨y, 3, none⟩ = some (.int .u32 C.k2) ∧ w'.cell? ⟨y, 4, none⟩ = some e3 ∧ w'.cell? ⟨y, 5, none⟩ = some e4 ∧ w'.cell? ⟨y, 6, none⟩ = some e5 ∧ w'.cell? ⟨y, 7, none⟩ = some e6 ∧ w'.cell? ⟨y, 8, none⟩ = some (.bool C.ls) ∧ w'.cell? ⟨y, 9, none⟩ = some (.int .u8 C.su) ∧ w'.cell? ⟨y, 10, none⟩ = some (.int .u8 C.wi) :=
  ⟨blk_cell k.p0 0, blk_cell k.p0 1, blk_cell k.p0 2, blk_cell k.p0 3, blk_cell k.p0 4, blk_cell k.p0 5, blk_cell k.p0 6, blk_cell k.p0 7, blk_cell k.p0 8, blk_cell k.p0 9, blk_cell k.p0 10, blk_cell k.px 0, blk_cell k.px 1, blk_cell k.px 2, blk_cell k.px 3, blk_cell k.px 4, blk_cell k.px 5, blk_cell k.px 6, blk_cell k.px 7, blk_cell k.px 8, blk_cell k.px 9, blk_cell k.px 10, blk_cell k.py 0, blk_cell k.py 1, blk_cell k.py 2, blk_cell k.py 3, blk_cell k.py 4, blk_cell k.py 5, blk_cell k.py 6, blk_cell k.py 7, blk_cell k.py 8, blk_cell k.py 9, blk_cell k.py 10⟩
end
set_option maxRecDepth 100000 in
set_option maxHeartbeats 8000000 in
theorem walk (g : G) (s1 s2 s3 s4 s5 s6 sv : Value) (bl : List Int) (w : World) (gc : GenC w g s1 s2 s3 s4 s5 s6) (gb : GenB g) (gl : GenL g 140737488351232) (gw : GenW g) (bc : RowC kB w sv bl) (bb : BytesOk bl) (bd : bl.length ≤ 140737488351232) :
    Calls Try.prog 7 #[genV g s1 s2 s3 s4 s5 s6, sv] w fun e w' => e = .returned (.bool true) ∧ Below w.heap.size w w' := by
  obtain ⟨l, rfl, hb⟩ := bytes_of bb
  obtain ⟨A, c, rfl, hc, hr⟩ := bc
  have GC := Aside0.mk gc
  have GB := Aside0.mk gb
  have GL0 := Aside0.mk gl
  have GW := Aside0.mk gw
  have BY := Aside0.mk hb
  have HC := Aside0.mk hc
  have HR := Aside0.mk hr
  have HL := Aside0.mk (show l.length ≤ 140737488351232 from by rw [ofN_length] at bd; exact bd)
  have hp := heap_new w (genO g s1 s2 s3 s4 s5 s6)
  obtain ⟨p, hp'⟩ : ∃ p, p = w.heap.size := ⟨_, rfl⟩
  obtain ⟨W0, hW0⟩ : ∃ W0, W0 = w.alloc (genO g s1 s2 s3 s4 s5 s6) := ⟨_, rfl⟩
  have B := Aside0.mk (below_al w (genO g s1 s2 s3 s4 s5 s6))
  rw [← hW0] at hp B
  rw [← hp'] at hp
  have P := Aside0.mk hp
  have EW := Aside0.mk hW0
  have EP := Aside0.mk hp'
  clear hp hp' hW0 gc gb gl gw hb hc hr bb bd
  obtain ⟨c0, c1, c2, c3, c4, c5, c6, c7, c8, c9, c10⟩ := heldG P.out
  go_enter Try.func7, Try.ntmps7
  go_upto_region 1 with fail
  change Code.wp _ _ _ _ (w.alloc (genO g s1 s2 s3 s4 s5 s6))
  rw [← EW.out, ← EP.out]
  go_wp2_with fail
  refine (great_calls (GC.out.below B.out) GL0.out).mono ?_
  rintro e w1 ⟨rfl, hb⟩
  replace P := Aside0.mk (blk_kept P.out hb)
  replace B := Aside0.mk (below_then B.out B.out.size hb)
  clear hb c0 c1 c2 c3 c4 c5 c6 c7 c8 c9 c10 EW EP
  obtain ⟨c0, c1, c2, c3, c4, c5, c6, c7, c8, c9, c10⟩ := heldG P.out
  cases hgr : greatB g with
  | true =>
    go_wp2_with fail
    refine (lives_calls _).mono ?_
    rintro e wz ⟨rfl, hb⟩
    have BZ := Aside0.mk (below_then B.out B.out.size hb)
    clear hb
    go_wp2_with fail
    go_ret
    exact ⟨rfl, BZ.out⟩
  | false =>
    have GR := Aside0.mk hgr
    clear hgr
    by_cases h6 : 60000 < l.length
    · have h6' : (60000 : Int) < ((ofN l).length : Int) := by rw [ofN_length]; omega
      go_wp2_with fail
      refine (lives_calls _).mono ?_
      rintro e wz ⟨rfl, hb⟩
      have BZ := Aside0.mk (below_then B.out B.out.size hb)
      clear hb
      go_wp2_with fail
      go_ret
      exact ⟨rfl, BZ.out⟩
    · have h6' : ¬ (60000 : Int) < ((ofN l).length : Int) := by rw [ofN_length]; omega
      have L6 := Aside0.mk (show l.length ≤ 60000 from by omega)
      have GS := Aside0.mk (small_of GR.out)
      have GL := Aside0.mk (great_l GR.out)
      obtain ⟨X, hX⟩ : ∃ K, K = bytesL g := ⟨_, rfl⟩
      obtain ⟨E, hE⟩ : ∃ K, K = bytesE g := ⟨_, rfl⟩
      obtain ⟨K, hK⟩ : ∃ K, K = genR l := ⟨_, rfl⟩
      obtain ⟨C, F⟩ := K
      obtain ⟨b, hbm⟩ : ∃ b, b = mayB g := ⟨_, rfl⟩
      have IX := Aside0.mk hX
      have IE := Aside0.mk hE
      have IK := Aside0.mk hK
      have IB := Aside0.mk hbm
      have CB := Aside0.mk (show GenB C from by have h := gen_b (l := l) BY.out; rw [← hK] at h; exact h)
      have CL := Aside0.mk (show GenL C 400000 from by have h := gen_l (l := l) BY.out (by have := L6.out; omega); rw [← hK] at h; exact h)
      clear h6 GR hX hE hK hbm
      go_wp2_with fail
      clear h6'
      refine (wide_calls A c l _ (Kd.C_below HR.out B.out) HL.out).mono ?_
      rintro e1 w2 ⟨q, rfl, hblk, hb⟩
      have K1 := Aside0.mk hblk
      replace P := Aside0.mk (blk_kept P.out hb)
      replace B := Aside0.mk (below_then B.out B.out.size hb)
      clear hb hblk c0 c1 c2 c3 c4 c5 c6 c7 c8 c9 c10
      obtain ⟨c0, c1, c2, c3, c4, c5, c6, c7, c8, c9, c10⟩ := heldG P.out
      go_wp2_with fail
      refine (gen_bytes (GC.out.below B.out) GL.out GW.out GB.out GS.out).mono ?_
      rintro e2 w3 ⟨v3, rfl, ho, hb⟩
      rw [← IX.out] at ho
      rw [← IE.out]
      obtain ⟨A3, k3, rfl⟩ := Kd.R_slice ho
      have X3 := Aside0.mk (RowC.of ho)
      replace P := Aside0.mk (blk_kept P.out hb)
      replace K1 := Aside0.mk (blk_kept K1.out hb)
      replace B := Aside0.mk (below_then B.out B.out.size hb)
      clear hb ho c0 c1 c2 c3 c4 c5 c6 c7 c8 c9 c10
      obtain ⟨c0, c1, c2, c3, c4, c5, c6, c7, c8, c9, c10⟩ := heldG P.out
      go_wp2_with fail
      refine (ref_bytes (GC.out.below B.out) GL.out GW.out GB.out GS.out).mono ?_
      rintro e3 w4 ⟨v4, rfl, ho, hb⟩
      rw [← IX.out] at ho
      rw [← IE.out]
      obtain ⟨A4, k4, rfl⟩ := Kd.R_slice ho
      have X4 := Aside0.mk (RowC.of ho)
      replace X3 := Aside0.mk (X3.out.below hb)
      replace P := Aside0.mk (blk_kept P.out hb)
      replace K1 := Aside0.mk (blk_kept K1.out hb)
      replace B := Aside0.mk (below_then B.out B.out.size hb)
      clear hb ho c0 c1 c2 c3 c4 c5 c6 c7 c8 c9 c10
      go_wp2_with fail
      refine (GenReads.read_calls (l := l) ⟨C_block K1.out l (by have := L6.out; omega) List.take_left, by rw [ofN_length]; omega, BY.out, by have := L6.out; omega⟩).mono ?_
      rintro e4 w5 ⟨t1, t2, t3, t4, t5, t6, rfl, ho, hb⟩
      rw [← IK.out] at ho ⊢
      have Y5 := GenC.of ho
      obtain ⟨D1, m1, rfl, -, -⟩ := Y5.h1
      obtain ⟨D2, m2, rfl, -, -⟩ := Y5.h2
      obtain ⟨D3, m3, rfl, -, -⟩ := Y5.h3
      obtain ⟨D4, m4, rfl, -, -⟩ := Y5.h4
      obtain ⟨D5, m5, rfl, -, -⟩ := Y5.h5
      obtain ⟨D6, m6, rfl, -, -⟩ := Y5.h6
      have YC := Aside0.mk (show GenC (w5.alloc (genO C (.slice D1 C.v1.length m1) (.slice D2 C.c1.length m2) (.slice D3 C.v2.length m3) (.slice D4 C.c2.length m4) (.slice D5 C.rq.length m5) (.slice D6 C.rp.length m6))) C (.slice D1 C.v1.length m1) (.slice D2 C.c1.length m2) (.slice D3 C.v2.length m3) (.slice D4 C.c2.length m4) (.slice D5 C.rq.length m5) (.slice D6 C.rp.length m6) from GenC.below Y5 (below_al w5 (genO C (.slice D1 C.v1.length m1) (.slice D2 C.c1.length m2) (.slice D3 C.v2.length m3) (.slice D4 C.c2.length m4) (.slice D5 C.rq.length m5) (.slice D6 C.rp.length m6))))
      have YX := Aside0.mk (heap_new w5 (genO C (.slice D1 C.v1.length m1) (.slice D2 C.c1.length m2) (.slice D3 C.v2.length m3) (.slice D4 C.c2.length m4) (.slice D5 C.rq.length m5) (.slice D6 C.rp.length m6)))
      have hb5 := below_unalloc' hb (genO C (.slice D1 C.v1.length m1) (.slice D2 C.c1.length m2) (.slice D3 C.v2.length m3) (.slice D4 C.c2.length m4) (.slice D5 C.rq.length m5) (.slice D6 C.rp.length m6))
      replace X3 := Aside0.mk (X3.out.below hb5)
      replace X4 := Aside0.mk (X4.out.below hb5)
      replace P := Aside0.mk (blk_kept P.out hb5)
      replace K1 := Aside0.mk (blk_kept K1.out hb5)
      replace B := Aside0.mk (below_then B.out B.out.size hb5)
      clear hb hb5 ho Y5
      obtain ⟨x, hx⟩ : ∃ x, x = w5.heap.size := ⟨_, rfl⟩
      rw [← hx] at YX
      have EX := Aside0.mk hx
      clear hx
      go_upto_region 7 with fail
      change Code.wp _ _ _ _ (w5.alloc (genO C (.slice D1 C.v1.length m1) (.slice D2 C.c1.length m2) (.slice D3 C.v2.length m3) (.slice D4 C.c2.length m4) (.slice D5 C.rq.length m5) (.slice D6 C.rp.length m6)))
      rw [← EX.out]
      generalize w5.alloc (genO C (.slice D1 C.v1.length m1) (.slice D2 C.c1.length m2) (.slice D3 C.v2.length m3) (.slice D4 C.c2.length m4) (.slice D5 C.rq.length m5) (.slice D6 C.rp.length m6)) = w6 at YC YX X3 X4 P K1 B ⊢
      clear EX
      go_wp2_with fail
      refine (GenReadsR.read_calls (l := l) ⟨Kd.C_below HR.out B.out, HC.out, BY.out, by have := L6.out; omega⟩).mono ?_
      rintro e5 w7 ⟨t1, t2, t3, t4, t5, t6, rfl, ho, hb⟩
      rw [← IK.out] at ho ⊢
      have Y7 := GenC.of ho
      obtain ⟨E1, n1, rfl, -, -⟩ := Y7.h1
      obtain ⟨E2, n2, rfl, -, -⟩ := Y7.h2
      obtain ⟨E3, n3, rfl, -, -⟩ := Y7.h3
      obtain ⟨E4, n4, rfl, -, -⟩ := Y7.h4
      obtain ⟨E5, n5, rfl, -, -⟩ := Y7.h5
      obtain ⟨E6, n6, rfl, -, -⟩ := Y7.h6
      have ZC := Aside0.mk (show GenC (w7.alloc (genO C (.slice E1 C.v1.length n1) (.slice E2 C.c1.length n2) (.slice E3 C.v2.length n3) (.slice E4 C.c2.length n4) (.slice E5 C.rq.length n5) (.slice E6 C.rp.length n6))) C (.slice E1 C.v1.length n1) (.slice E2 C.c1.length n2) (.slice E3 C.v2.length n3) (.slice E4 C.c2.length n4) (.slice E5 C.rq.length n5) (.slice E6 C.rp.length n6) from GenC.below Y7 (below_al w7 (genO C (.slice E1 C.v1.length n1) (.slice E2 C.c1.length n2) (.slice E3 C.v2.length n3) (.slice E4 C.c2.length n4) (.slice E5 C.rq.length n5) (.slice E6 C.rp.length n6))))
      have ZX := Aside0.mk (heap_new w7 (genO C (.slice E1 C.v1.length n1) (.slice E2 C.c1.length n2) (.slice E3 C.v2.length n3) (.slice E4 C.c2.length n4) (.slice E5 C.rq.length n5) (.slice E6 C.rp.length n6)))
      have hb7 := below_unalloc' hb (genO C (.slice E1 C.v1.length n1) (.slice E2 C.c1.length n2) (.slice E3 C.v2.length n3) (.slice E4 C.c2.length n4) (.slice E5 C.rq.length n5) (.slice E6 C.rp.length n6))
      replace X3 := Aside0.mk (X3.out.below hb7)
      replace X4 := Aside0.mk (X4.out.below hb7)
      replace YC := Aside0.mk (YC.out.below hb7)
      replace YX := Aside0.mk (blk_kept YX.out hb7)
      replace P := Aside0.mk (blk_kept P.out hb7)
      replace K1 := Aside0.mk (blk_kept K1.out hb7)
      replace B := Aside0.mk (below_then B.out B.out.size hb7)
      clear hb hb7 ho Y7
      obtain ⟨y, hy⟩ : ∃ y, y = w7.heap.size := ⟨_, rfl⟩
      rw [← hy] at ZX
      have EY := Aside0.mk hy
      clear hy
      go_upto_region 8 with fail
      change Code.wp _ _ _ _ (w7.alloc (genO C (.slice E1 C.v1.length n1) (.slice E2 C.c1.length n2) (.slice E3 C.v2.length n3) (.slice E4 C.c2.length n4) (.slice E5 C.rq.length n5) (.slice E6 C.rp.length n6)))
      rw [← EY.out]
      generalize w7.alloc (genO C (.slice E1 C.v1.length n1) (.slice E2 C.c1.length n2) (.slice E3 C.v2.length n3) (.slice E4 C.c2.length n4) (.slice E5 C.rq.length n5) (.slice E6 C.rp.length n6)) = w8 at YC YX ZC ZX X3 X4 P K1 B ⊢
      clear EY
      have H := Aside0.mk (show Held w w8 w8 p x y g C s1 s2 s3 s4 s5 s6 (.slice D1 C.v1.length m1) (.slice D2 C.c1.length m2) (.slice D3 C.v2.length m3) (.slice D4 C.c2.length m4) (.slice D5 C.rq.length m5) (.slice D6 C.rp.length m6) (.slice E1 C.v1.length n1) (.slice E2 C.c1.length n2) (.slice E3 C.v2.length n3) (.slice E4 C.c2.length n4) (.slice E5 C.rq.length n5) (.slice E6 C.rp.length n6) from ⟨P.out, YX.out, ZX.out, B.out, Below.refl _ _⟩)
      have GC8 := Aside0.mk (GC.out.below B.out)
      have HR8 := Aside0.mk (Kd.C_below HR.out B.out)
      clear P YX ZX B GC HR
      have H0 := Aside0.mk (H.out.kept (below_of_drew w8))
      have HS0 := held33 H0.out
      clear H
      go_region_held3 (fun w' => w'.cell? ⟨p, 0, none⟩ = some (.int .u32 g.k1) ∧ w'.cell? ⟨p, 1, none⟩ = some s1 ∧ w'.cell? ⟨p, 2, none⟩ = some s2 ∧ w'.cell? ⟨p, 3, none⟩ = some (.int .u32 g.k2) ∧ w'.cell? ⟨p, 4, none⟩ = some s3 ∧ w'.cell? ⟨p, 5, none⟩ = some s4 ∧ w'.cell? ⟨p, 6, none⟩ = some s5 ∧ w'.cell? ⟨p, 7, none⟩ = some s6 ∧ w'.cell? ⟨p, 8, none⟩ = some (.bool g.ls) ∧ w'.cell? ⟨p, 9, none⟩ = some (.int .u8 g.su) ∧ w'.cell? ⟨p, 10, none⟩ = some (.int .u8 g.wi) ∧ w'.cell? ⟨x, 0, none⟩ = some (.int .u32 C.k1) ∧ w'.cell? ⟨x, 1, none⟩ = some (.slice D1 C.v1.length m1) ∧ w'.cell? ⟨x, 2, none⟩ = some (.slice D2 C.c1.length m2) ∧ w'.cell? ⟨x, 3, none⟩ = some (.int .u32 C.k2) ∧ w'.cell? ⟨x, 4, none⟩ = some (.slice D3 C.v2.length m3) ∧ w'.cell? ⟨x, 5, none⟩ = some (.slice D4 C.c2.length m4) ∧ w'.cell? ⟨x, 6, none⟩ = some (.slice D5 C.rq.length m5) ∧ w'.cell? ⟨x, 7, none⟩ = some (.slice D6 C.rp.length m6) ∧ w'.cell? ⟨x, 8, none⟩ = some (.bool C.ls) ∧ w'.cell? ⟨x, 9, none⟩ = some (.int .u8 C.su) ∧ w'.cell? ⟨x, 10, none⟩ = some (.int .u8 C.wi) ∧ w'.cell? ⟨y, 0, none⟩ = some (.int .u32 C.k1) ∧ w'.cell? ⟨y, 1, none⟩ = some (.slice E1 C.v1.length n1) ∧ w'.cell? ⟨y, 2, none⟩ = some (.slice E2 C.c1.length n2) ∧ w'.cell? ⟨y, 3, none⟩ = some (.int .u32 C.k2) ∧ w'.cell? ⟨y, 4, none⟩ = some (.slice E3 C.v2.length n3) ∧ w'.cell? ⟨y, 5, none⟩ = some (.slice E4 C.c2.length n4) ∧ w'.cell? ⟨y, 6, none⟩ = some (.slice E5 C.rq.length n5) ∧ w'.cell? ⟨y, 7, none⟩ = some (.slice E6 C.rp.length n6) ∧ w'.cell? ⟨y, 8, none⟩ = some (.bool C.ls) ∧ w'.cell? ⟨y, 9, none⟩ = some (.int .u8 C.su) ∧ w'.cell? ⟨y, 10, none⟩ = some (.int .u8 C.wi))
        (first | exact HS0 | with_reducible exact held33 H1.out | with_reducible exact held33 H2.out | with_reducible exact held33 H3.out | with_reducible exact held33 H4.out | with_reducible exact held33 H5.out | with_reducible exact held33 H6.out)
        (first
          | (go_at_call 34; (with_reducible refine (lives_calls _).mono ?_); rintro e wr6 ⟨rfl, hb⟩; have H6 := Aside0.mk (H5.out.kept hb); clear hb)
          | (go_at_call 31; (with_reducible refine (left_at BY.out HL.out (blk_kept K1.out H4.out.b3) (Kd.C_below HR8.out H4.out.b3) HC.out).mono ?_); rintro e wr5 ⟨rfl, hb⟩; have H5 := Aside0.mk (H4.out.kept hb); clear hb)
          | (go_at_call 42; (with_reducible refine (rsame (YC.out.below H3.out.b3) (ZC.out.below H3.out.b3) CL.out CB.out).mono ?_); rintro e wr4 ⟨rfl, hb⟩; have H4 := Aside0.mk (H3.out.kept hb); clear hb)
          | (go_at_call 41; (with_reducible refine (same_rows (X3.out.below H2.out.b3) (X4.out.below H2.out.b3)).mono ?_); rintro e wr3 ⟨rfl, hb⟩; have H3 := Aside0.mk (H2.out.kept hb); clear hb)
          | (go_at_call 40; (with_reducible refine (refmay_calls (GC8.out.below H1.out.b3) GL.out GW.out).mono ?_); rintro e wr2 ⟨rfl, hb⟩; rw [← IB.out]; have H2 := Aside0.mk (H1.out.kept hb); clear hb)
          | (go_at_call 39; (with_reducible refine (may_calls (GC8.out.below H0.out.b3) GL.out GW.out).mono ?_); rintro e wr1 ⟨rfl, hb⟩; rw [← IB.out]; have H1 := Aside0.mk (H0.out.kept hb); clear hb))
      go_wp2_with fail
      go_ret
      exact ⟨rfl, H6.out.b⟩
end Go.Proofs.Ytpanefmemabckaa.GenReadsLaw
