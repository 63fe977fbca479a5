/- GenKeys returns true at every Gen, key, row of bytes, way and client: the walk. -/
import Derived.Test.YtpanefmemabckabGenLives
import Derived.Test.YtpanefmemabckabGenRefNext
import Derived.Test.YtpanefmemabckabGenBase
namespace Go.Proofs.Ytpanefmemabckab.GenKeys
open Go.RowKit Go.Proofs.Ytpanefmemabckab.NumA Go.Proofs.Ytpanefmemabckab.GenS Go.Proofs.Ytpanefmemabckab.GenRep Go.Proofs.Ytpanefmemabckab.GenBlk Go.Proofs.Ytpanefmemabckab.GenPure Go.Proofs.Ytpanefmemabckab.GenCalls Go.Proofs.Ytpanefmemabckab.GenMore Go.Proofs.Ytpanefmemabckab.GenRefNext Go.Proofs.Ytpanefmemabckab.GenLives Go.Proofs.Ytpanefmemabckab.GenKnown Go.Proofs.Ytpanefmemabckab.GenBase Go.Proofs.YtpanefmemabckabW.PrintWords Go.Proofs.YtpanefmemabckabW.PrintLast
open Go.Proofs.Ytpanefmemabckab.GenZero (heap_new blk_kept blk_drew1)
set_option linter.unusedSimpArgs false

theorem held28 {w' : World} {x p c d : Nat} {g : G} {a1 a2 a3 a4 a5 a6 s1 s2 s3 s4 s5 s6 : Value} {K : S60} (hx : w'.heap[x]? = some (genO g a1 a2 a3 a4 a5 a6)) (hp : w'.heap[p]? = some (genO g s1 s2 s3 s4 s5 s6)) (hc : w'.heap[c]? = some (cliO K)) (hd : w'.heap[d]? = some (cliO K)) :
    w'.cell? ⟨x, 0, none⟩ = some (.int .u32 g.k1) ∧ w'.cell? ⟨x, 1, none⟩ = some a1 ∧ w'.cell? ⟨x, 2, none⟩ = some a2 ∧ w'.cell? ⟨x, 3, none⟩ = some (.int .u32 g.k2) ∧ w'.cell? ⟨x, 4, none⟩ = some a3 ∧ w'.cell? ⟨x, 5, none⟩ = some a4 ∧ w'.cell? ⟨x, 6, none⟩ = some a5 ∧ w'.cell? ⟨x, 7, none⟩ = some a6 ∧ w'.cell? ⟨x, 8, none⟩ = some (.bool g.ls) ∧ w'.cell? ⟨x, 9, none⟩ = some (.int .u8 g.su) ∧ w'.cell? ⟨x, 10, none⟩ = some (.int .u8 g.wi) ∧ w'.cell? ⟨p, 0, none⟩ = some (.int .u32 g.k1) ∧ w'.cell? ⟨p, 1, none⟩ = some s1 ∧ w'.cell? ⟨p, 2, none⟩ = some s2 ∧ w'.cell? ⟨p, 3, none⟩ = some (.int .u32 g.k2) ∧ w'.cell? ⟨p, 4, none⟩ = some s3 ∧ w'.cell? ⟨p, 5, none⟩ = some s4 ∧ w'.cell? ⟨p, 6, none⟩ = some s5 ∧ w'.cell? ⟨p, 7, none⟩ = some s6 ∧ w'.cell? ⟨p, 8, none⟩ = some (.bool g.ls) ∧ w'.cell? ⟨p, 9, none⟩ = some (.int .u8 g.su) ∧ w'.cell? ⟨p, 10, none⟩ = some (.int .u8 g.wi) ∧ w'.cell? ⟨c, 0, none⟩ = some (.int .u32 K.f0) ∧ w'.cell? ⟨c, 1, none⟩ = some (.int .u32 K.f1) ∧ w'.cell? ⟨c, 2, none⟩ = some (.int .u64 K.f2) ∧ w'.cell? ⟨d, 0, none⟩ = some (.int .u32 K.f0) ∧ w'.cell? ⟨d, 1, none⟩ = some (.int .u32 K.f1) ∧ w'.cell? ⟨d, 2, none⟩ = some (.int .u64 K.f2) :=
  ⟨blk_cell hx 0, blk_cell hx 1, blk_cell hx 2, blk_cell hx 3, blk_cell hx 4, blk_cell hx 5, blk_cell hx 6, blk_cell hx 7, blk_cell hx 8, blk_cell hx 9, blk_cell hx 10, blk_cell hp 0, blk_cell hp 1, blk_cell hp 2, blk_cell hp 3, blk_cell hp 4, blk_cell hp 5, blk_cell hp 6, blk_cell hp 7, blk_cell hp 8, blk_cell hp 9, blk_cell hp 10, blk_cell hc 0, blk_cell hc 1, blk_cell hc 2, blk_cell hd 0, blk_cell hd 1, blk_cell hd 2⟩

/-- the block of a row of the call's own -/
theorem row_blk {α : Type} {d : Kd α} {e base : Nat} {W : World} {A : Option Addr} {c : Nat} {l : List α} (h : RowR d e W base (.slice A l.length c) l) (z : α) (hsz : 0 < d.sz) (hl : 0 < l.length) :
    ∃ g cs, A = some ⟨g, 0, none⟩ ∧ base ≤ g ∧ W.heap[g]? = some (.cells cs e (0, 0)) ∧ l.length * d.sz ≤ cs.size := by
  obtain ⟨g, cap, he, hb, _, cs, hc⟩ := Kd.R_form h hl
  injection he with h1 h2 h3
  subst h1 h3
  obtain ⟨c0, hcl, _, hcell, _⟩ := Kd.R_elem h z ((l.length - 1 : Nat) : Int) (by omega) (by omega)
  refine ⟨g, cs, rfl, hb, hc, ?_⟩
  have h2 := hcell (d.sz - 1) _ (List.getElem?_eq_getElem (by omega))
  rw [blk_cell hc] at h2
  have h3 := (Array.getElem?_eq_some_iff.1 h2).1
  rw [show (((l.length - 1 : Nat) : Int)).toNat = l.length - 1 from by omega] at h3
  have h4 : (l.length - 1) * d.sz + d.sz = l.length * d.sz := by
    rw [← Nat.succ_mul]; congr 1; omega
  omega
/-- the cells of a row stand -/
def Inv (W : World) (base : Nat) (A : Option Addr) (n sz e : Nat) : Prop := n = 0 ∨ ∃ g cs, A = some ⟨g, 0, none⟩ ∧ base ≤ g ∧ W.heap[g]? = some (.cells cs e (0, 0)) ∧ n * sz ≤ cs.size

set_option maxRecDepth 100000 in
set_option maxHeartbeats 8000000 in
theorem walk (g : G) (s1 s2 s3 s4 s5 s6 : Value) (key : Int) (sq : Value) (rq : List Int) (how client : Int) (w : World)
    (gc : GenC w g s1 s2 s3 s4 s5 s6) (gb : GenB g) (gl : GenL g 140737488351232) (_ : (Lit.int .u32 key).wf = true) (qc : RowC kB w sq rq) (qb : BytesOk rq) (_ : rq.length ≤ 140737488351232) (_ : (Lit.int .u8 how).wf = true) (_ : (Lit.int .u32 client).wf = true) :
    Calls Try.prog 9 #[genV g s1 s2 s3 s4 s5 s6, .int .u32 key, sq, .int .u8 how, .int .u32 client] w fun e w' => e = .returned (.bool true) ∧ Below w.heap.size w w' := by
  have GC := Aside0.mk gc
  have GB := Aside0.mk gb
  have GL := Aside0.mk gl
  have QC := Aside0.mk qc
  have QB := Aside0.mk qb
  have hp := heap_new w (genO g s1 s2 s3 s4 s5 s6)
  obtain ⟨p, hp'⟩ : ∃ p, p = w.heap.size := ⟨_, rfl⟩
  obtain ⟨W0, hW0⟩ : ∃ W0, W0 = w.alloc (genO g s1 s2 s3 s4 s5 s6) := ⟨_, rfl⟩
  have B := Aside0.mk (below_al w (genO g s1 s2 s3 s4 s5 s6))
  rw [← hW0] at hp B
  rw [← hp'] at hp
  have P := Aside0.mk hp
  have EW := Aside0.mk hW0
  have EP := Aside0.mk hp'
  clear hp hp' hW0 gc gb gl qc qb
  obtain ⟨c0, c1, c2, c3, c4, c5, c6, c7, c8, c9, c10⟩ := heldG P.out
  go_enter Try.func9, Try.ntmps9
  go_upto_region 1 with fail
  change Code.wp _ _ _ _ (w.alloc (genO g s1 s2 s3 s4 s5 s6))
  rw [← EW.out, ← EP.out]
  go_wp2_with fail
  refine (great_calls (GC.out.below B.out) GL.out).mono ?_
  rintro e w1 ⟨rfl, hb⟩
  replace P := Aside0.mk (blk_kept P.out hb)
  replace B := Aside0.mk (below_then B.out B.out.size hb)
  clear hb c0 c1 c2 c3 c4 c5 c6 c7 c8 c9 c10
  obtain ⟨c0, c1, c2, c3, c4, c5, c6, c7, c8, c9, c10⟩ := heldG P.out
  cases hgr : greatB g with
  | true =>
    go_wp2_with fail
    refine (lives_calls _).mono ?_
    rintro e wz ⟨rfl, hb⟩
    replace B := Aside0.mk (below_then B.out B.out.size hb)
    clear hb c0 c1 c2 c3 c4 c5 c6 c7 c8 c9 c10
    go_wp2_with fail
    go_ret
    exact ⟨rfl, B.out⟩
  | false =>
    replace GL := Aside0.mk (great_l hgr)
    have GR := Aside0.mk hgr
    clear hgr
    go_wp2_with fail
    refine (copied_calls g s1 s2 s3 s4 s5 s6 _ (GC.out.below B.out) GL.out).mono ?_
    rintro e w2 ⟨t1, t2, t3, t4, t5, t6, rfl, hx, hb⟩
    obtain ⟨A1, n1, rfl⟩ := Kd.R_slice hx.h1
    obtain ⟨A2, n2, rfl⟩ := Kd.R_slice hx.h2
    obtain ⟨A3, n3, rfl⟩ := Kd.R_slice hx.h3
    obtain ⟨A4, n4, rfl⟩ := Kd.R_slice hx.h4
    obtain ⟨A5, n5, rfl⟩ := Kd.R_slice hx.h5
    obtain ⟨A6, n6, rfl⟩ := Kd.R_slice hx.h6
    have XO := Aside0.mk (heap_new w2 (genO g (.slice A1 g.v1.length n1) (.slice A2 g.c1.length n2) (.slice A3 g.v2.length n3) (.slice A4 g.c2.length n4) (.slice A5 g.rq.length n5) (.slice A6 g.rp.length n6)))
    have XC := Aside0.mk ((GenC.of hx).below (below_al w2 (genO g (.slice A1 g.v1.length n1) (.slice A2 g.c1.length n2) (.slice A3 g.v2.length n3) (.slice A4 g.c2.length n4) (.slice A5 g.rq.length n5) (.slice A6 g.rp.length n6))))
    replace P := Aside0.mk (blk_alloc (blk_kept P.out hb) (genO g (.slice A1 g.v1.length n1) (.slice A2 g.c1.length n2) (.slice A3 g.v2.length n3) (.slice A4 g.c2.length n4) (.slice A5 g.rq.length n5) (.slice A6 g.rp.length n6)))
    replace B := Aside0.mk ((below_then B.out B.out.size hb).trans ((below_al w2 (genO g (.slice A1 g.v1.length n1) (.slice A2 g.c1.length n2) (.slice A3 g.v2.length n3) (.slice A4 g.c2.length n4) (.slice A5 g.rq.length n5) (.slice A6 g.rp.length n6))).mono (below_then B.out B.out.size hb).size))
    clear hx hb c0 c1 c2 c3 c4 c5 c6 c7 c8 c9 c10
    obtain ⟨x, hx⟩ : ∃ x, x = w2.heap.size := ⟨_, rfl⟩
    rw [← hx] at XO
    have EQ := Aside0.mk hx
    clear hx
    go_upto_region 4 with fail
    change Code.wp _ _ _ _ (w2.alloc (genO g (.slice A1 g.v1.length n1) (.slice A2 g.c1.length n2) (.slice A3 g.v2.length n3) (.slice A4 g.c2.length n4) (.slice A5 g.rq.length n5) (.slice A6 g.rp.length n6)))
    rw [← EQ.out]
    generalize w2.alloc (genO g (.slice A1 g.v1.length n1) (.slice A2 g.c1.length n2) (.slice A3 g.v2.length n3) (.slice A4 g.c2.length n4) (.slice A5 g.rq.length n5) (.slice A6 g.rp.length n6)) = w3 at P B XO XC ⊢
    clear EQ
    obtain ⟨c0, c1, c2, c3, c4, c5, c6, c7, c8, c9, c10⟩ := heldG P.out
    obtain ⟨d0, d1, d2, d3, d4, d5, d6, d7, d8, d9, d10⟩ := heldG XO.out
    go_wp2_with fail
    refine (base_calls XC.out GL.out).mono ?_
    rintro e w4 ⟨v, u, rfl, hv, hu, hb⟩
    obtain ⟨Vv, nv, rfl⟩ := Kd.R_slice hv
    obtain ⟨Uu, nu, rfl⟩ := Kd.R_slice hu
    have HV := Aside0.mk hv
    have HU := Aside0.mk hu
    have LW := Aside0.mk (show w3.heap.size ≤ w3.heap.size from Nat.le_refl _)
    have B4 := Aside0.mk hb
    clear hv hu hb c0 c1 c2 c3 c4 c5 c6 c7 c8 c9 c10 d0 d1 d2 d3 d4 d5 d6 d7 d8 d9 d10
    -- facts about own and g are kept at w3; B4 : what was done since
    have c := heldG (blk_kept P.out B4.out)
    obtain ⟨c0, c1, c2, c3, c4, c5, c6, c7, c8, c9, c10⟩ := c
    go_wp2_with fail
    refine (refbase_calls (GC.out.below (below_then B.out B.out.size B4.out)) GL.out).mono ?_
    rintro e w5 ⟨v', u', rfl, hv, hu, hb⟩
    have RV := Aside0.mk hv
    have RU := Aside0.mk hu
    replace HV := Aside0.mk (Kd.R_below HV.out hb)
    replace HU := Aside0.mk (Kd.R_below HU.out hb)
    replace B4 := Aside0.mk (below_then B4.out B4.out.size hb)
    clear hv hu hb c0 c1 c2 c3 c4 c5 c6 c7 c8 c9 c10
    have LU := Aside0.mk (show (baseC g how).length ≤ 1000000 from by have := GL.out.h2; have := GL.out.h4; unfold baseC; split <;> (try split) <;> simp <;> omega)
    have LV := Aside0.mk (show (baseV g how).length ≤ 1000000 from by have := GL.out.h1; have := GL.out.h3; unfold baseV; split <;> (try split) <;> simp <;> omega)
    go_wp2_with fail
    refine (known_calls _ _ client _ (RowC.of HU.out) LU.out).mono ?_
    rintro e w6 ⟨rfl, hb⟩
    obtain ⟨K, hK⟩ : ∃ K, K = (known (baseC g how) client).1 := ⟨_, rfl⟩
    obtain ⟨kb, hkb⟩ : ∃ K, K = (known (baseC g how) client).2 := ⟨_, rfl⟩
    rw [← hK, ← hkb]
    have EK := Aside0.mk hK
    have EB := Aside0.mk hkb
    have XK2 := Aside0.mk hK
    replace HV := Aside0.mk (Kd.R_alloc (Kd.R_below HV.out hb) (cliO K))
    replace HU := Aside0.mk (Kd.R_alloc (Kd.R_below HU.out hb) (cliO K))
    replace RV := Aside0.mk ((RV.out.below hb).below (below_al w6 (cliO K)))
    replace RU := Aside0.mk ((RU.out.below hb).below (below_al w6 (cliO K)))
    replace B4 := Aside0.mk ((below_then B4.out B4.out.size hb).alloc (below_then B4.out B4.out.size hb).size (cliO K))
    have C := Aside0.mk (heap_new w6 (cliO K))
    clear hb hK hkb
    obtain ⟨c, hc⟩ : ∃ c, c = w6.heap.size := ⟨_, rfl⟩
    rw [← hc] at C
    have EQ := Aside0.mk hc
    clear hc
    go_upto_region 7 with fail
    change Code.wp _ _ _ _ (w6.alloc (cliO K))
    rw [← EQ.out]
    generalize w6.alloc (cliO K) = w7 at HV HU RV RU B4 C ⊢
    clear EQ
    go_wp2_with fail
    refine (refknown_calls _ _ client _ RU.out LU.out).mono ?_
    rintro e w8 ⟨rfl, hb⟩
    rw [← EK.out, ← EB.out]
    replace HV := Aside0.mk (Kd.R_alloc (Kd.R_below HV.out hb) (cliO K))
    replace HU := Aside0.mk (Kd.R_alloc (Kd.R_below HU.out hb) (cliO K))
    replace RV := Aside0.mk ((RV.out.below hb).below (below_al w8 (cliO K)))
    replace RU := Aside0.mk ((RU.out.below hb).below (below_al w8 (cliO K)))
    replace B4 := Aside0.mk ((below_then B4.out B4.out.size hb).alloc (below_then B4.out B4.out.size hb).size (cliO K))
    replace C := Aside0.mk (blk_alloc (blk_kept C.out hb) (cliO K))
    have D := Aside0.mk (heap_new w8 (cliO K))
    clear hb
    obtain ⟨d, hd⟩ : ∃ c, c = w8.heap.size := ⟨_, rfl⟩
    rw [← hd] at D
    have EQ := Aside0.mk hd
    clear hd
    go_upto_region 8 with fail
    change Code.wp _ _ _ _ (w8.alloc (cliO K))
    rw [← EQ.out]
    generalize w8.alloc (cliO K) = w9 at HV HU RV RU B4 C D ⊢
    clear EQ EK EB
    replace HV := Aside0.mk (Kd.R_drew HV.out)
    replace HU := Aside0.mk (Kd.R_drew HU.out)
    replace RV := Aside0.mk (RV.out.below (below_of_drew w9))
    replace RU := Aside0.mk (RU.out.below (below_of_drew w9))
    replace B4 := Aside0.mk (below_drew1 B4.out)
    replace C := Aside0.mk (blk_drew1 C.out)
    replace D := Aside0.mk (blk_drew1 D.out)
    have X0 := Aside0.mk (blk_kept XO.out B4.out)
    have P0 := Aside0.mk (blk_kept P.out B4.out)
    have B0 := Aside0.mk (below_then B.out B.out.size B4.out)
    obtain ⟨HS0⟩ : Aside0 (w9.drew.cell? ⟨x, 0, none⟩ = some (.int .u32 g.k1) ∧ w9.drew.cell? ⟨x, 1, none⟩ = some (.slice A1 g.v1.length n1) ∧ w9.drew.cell? ⟨x, 2, none⟩ = some (.slice A2 g.c1.length n2) ∧ w9.drew.cell? ⟨x, 3, none⟩ = some (.int .u32 g.k2) ∧ w9.drew.cell? ⟨x, 4, none⟩ = some (.slice A3 g.v2.length n3) ∧ w9.drew.cell? ⟨x, 5, none⟩ = some (.slice A4 g.c2.length n4) ∧ w9.drew.cell? ⟨x, 6, none⟩ = some (.slice A5 g.rq.length n5) ∧ w9.drew.cell? ⟨x, 7, none⟩ = some (.slice A6 g.rp.length n6) ∧ w9.drew.cell? ⟨x, 8, none⟩ = some (.bool g.ls) ∧ w9.drew.cell? ⟨x, 9, none⟩ = some (.int .u8 g.su) ∧ w9.drew.cell? ⟨x, 10, none⟩ = some (.int .u8 g.wi) ∧ w9.drew.cell? ⟨p, 0, none⟩ = some (.int .u32 g.k1) ∧ w9.drew.cell? ⟨p, 1, none⟩ = some s1 ∧ w9.drew.cell? ⟨p, 2, none⟩ = some s2 ∧ w9.drew.cell? ⟨p, 3, none⟩ = some (.int .u32 g.k2) ∧ w9.drew.cell? ⟨p, 4, none⟩ = some s3 ∧ w9.drew.cell? ⟨p, 5, none⟩ = some s4 ∧ w9.drew.cell? ⟨p, 6, none⟩ = some s5 ∧ w9.drew.cell? ⟨p, 7, none⟩ = some s6 ∧ w9.drew.cell? ⟨p, 8, none⟩ = some (.bool g.ls) ∧ w9.drew.cell? ⟨p, 9, none⟩ = some (.int .u8 g.su) ∧ w9.drew.cell? ⟨p, 10, none⟩ = some (.int .u8 g.wi) ∧ w9.drew.cell? ⟨c, 0, none⟩ = some (.int .u32 K.f0) ∧ w9.drew.cell? ⟨c, 1, none⟩ = some (.int .u32 K.f1) ∧ w9.drew.cell? ⟨c, 2, none⟩ = some (.int .u64 K.f2) ∧ w9.drew.cell? ⟨d, 0, none⟩ = some (.int .u32 K.f0) ∧ w9.drew.cell? ⟨d, 1, none⟩ = some (.int .u32 K.f1) ∧ w9.drew.cell? ⟨d, 2, none⟩ = some (.int .u64 K.f2)) := ⟨held28 X0.out P0.out C.out D.out⟩
    go_region_held3 (fun w' => w'.cell? ⟨x, 0, none⟩ = some (.int .u32 g.k1) ∧ w'.cell? ⟨x, 1, none⟩ = some (.slice A1 g.v1.length n1) ∧ w'.cell? ⟨x, 2, none⟩ = some (.slice A2 g.c1.length n2) ∧ w'.cell? ⟨x, 3, none⟩ = some (.int .u32 g.k2) ∧ w'.cell? ⟨x, 4, none⟩ = some (.slice A3 g.v2.length n3) ∧ w'.cell? ⟨x, 5, none⟩ = some (.slice A4 g.c2.length n4) ∧ w'.cell? ⟨x, 6, none⟩ = some (.slice A5 g.rq.length n5) ∧ w'.cell? ⟨x, 7, none⟩ = some (.slice A6 g.rp.length n6) ∧ w'.cell? ⟨x, 8, none⟩ = some (.bool g.ls) ∧ w'.cell? ⟨x, 9, none⟩ = some (.int .u8 g.su) ∧ w'.cell? ⟨x, 10, none⟩ = some (.int .u8 g.wi) ∧ w'.cell? ⟨p, 0, none⟩ = some (.int .u32 g.k1) ∧ w'.cell? ⟨p, 1, none⟩ = some s1 ∧ w'.cell? ⟨p, 2, none⟩ = some s2 ∧ w'.cell? ⟨p, 3, none⟩ = some (.int .u32 g.k2) ∧ w'.cell? ⟨p, 4, none⟩ = some s3 ∧ w'.cell? ⟨p, 5, none⟩ = some s4 ∧ w'.cell? ⟨p, 6, none⟩ = some s5 ∧ w'.cell? ⟨p, 7, none⟩ = some s6 ∧ w'.cell? ⟨p, 8, none⟩ = some (.bool g.ls) ∧ w'.cell? ⟨p, 9, none⟩ = some (.int .u8 g.su) ∧ w'.cell? ⟨p, 10, none⟩ = some (.int .u8 g.wi) ∧ w'.cell? ⟨c, 0, none⟩ = some (.int .u32 K.f0) ∧ w'.cell? ⟨c, 1, none⟩ = some (.int .u32 K.f1) ∧ w'.cell? ⟨c, 2, none⟩ = some (.int .u64 K.f2) ∧ w'.cell? ⟨d, 0, none⟩ = some (.int .u32 K.f0) ∧ w'.cell? ⟨d, 1, none⟩ = some (.int .u32 K.f1) ∧ w'.cell? ⟨d, 2, none⟩ = some (.int .u64 K.f2))
      (first
        | exact HS0
        | with_reducible exact held28 X1.out P1.out C1.out D1.out
        | with_reducible exact held28 X2.out P2.out C2.out D2.out
        | with_reducible exact held28 X3.out P3.out C3.out D3.out
        | with_reducible exact held28 X4.out P4.out C4.out D4.out)
      (first
        | (go_at_call 36; (with_reducible refine (clients_eq ((((RowC.of HU.out).below hb1.out).below hb2.out).below hb3.out) (((RU.out.below hb1.out).below hb2.out).below hb3.out) LU.out).mono ?_); rintro e wk4 ⟨rfl, hb⟩; have X4 := Aside0.mk (blk_kept X3.out hb); have P4 := Aside0.mk (blk_kept P3.out hb); have C4 := Aside0.mk (blk_kept C3.out hb); have D4 := Aside0.mk (blk_kept D3.out hb); have B4_ := Aside0.mk (below_then B3_.out B3_.out.size hb); have hb4 := Aside0.mk hb; clear hb)
        | (go_at_call 35; (with_reducible refine (seen_eq (((RowC.of HV.out).below hb1.out).below hb2.out) ((RV.out.below hb1.out).below hb2.out) LV.out).mono ?_); rintro e wk3 ⟨rfl, hb⟩; have X3 := Aside0.mk (blk_kept X2.out hb); have P3 := Aside0.mk (blk_kept P2.out hb); have C3 := Aside0.mk (blk_kept C2.out hb); have D3 := Aside0.mk (blk_kept D2.out hb); have B3_ := Aside0.mk (below_then B2_.out B2_.out.size hb); have hb3 := Aside0.mk hb; clear hb)
        | (go_at_call 42; (with_reducible refine (refhow_calls (GC.out.below B1_.out) (QC.out.below B1_.out) GB.out QB.out).mono ?_); rintro e wk2 ⟨rfl, hb⟩; have X2 := Aside0.mk (blk_kept X1.out hb); have P2 := Aside0.mk (blk_kept P1.out hb); have C2 := Aside0.mk (blk_kept C1.out hb); have D2 := Aside0.mk (blk_kept D1.out hb); have B2_ := Aside0.mk (below_then B1_.out B1_.out.size hb); have hb2 := Aside0.mk hb; clear hb)
        | (go_at_call 33; (with_reducible refine (how_calls (XC.out.below B4.out) (QC.out.below B0.out) GB.out QB.out).mono ?_); rintro e wk1 ⟨rfl, hb⟩; have X1 := Aside0.mk (blk_kept X0.out hb); have P1 := Aside0.mk (blk_kept P0.out hb); have C1 := Aside0.mk (blk_kept C.out hb); have D1 := Aside0.mk (blk_kept D.out hb); have B1_ := Aside0.mk (below_then B0.out B0.out.size hb); have hb1 := Aside0.mk hb; clear hb))
    have B5 := Aside0.mk (below_then (below_then (below_then (below_then B4.out B4.out.size hb1.out) (below_then B4.out B4.out.size hb1.out).size hb2.out) (below_then (below_then B4.out B4.out.size hb1.out) (below_then B4.out B4.out.size hb1.out).size hb2.out).size hb3.out) (below_then (below_then (below_then B4.out B4.out.size hb1.out) (below_then B4.out B4.out.size hb1.out).size hb2.out) (below_then (below_then B4.out B4.out.size hb1.out) (below_then B4.out B4.out.size hb1.out).size hb2.out).size hb3.out).size hb4.out)
    replace HV := Aside0.mk (Kd.R_below (Kd.R_below (Kd.R_below (Kd.R_below HV.out hb1.out) hb2.out) hb3.out) hb4.out)
    replace HU := Aside0.mk (Kd.R_below (Kd.R_below (Kd.R_below (Kd.R_below HU.out hb1.out) hb2.out) hb3.out) hb4.out)
    have IV := Aside0.mk (show Inv wk4 w3.heap.size Vv (baseV g how).length 2 58 from by
      rcases Nat.eq_zero_or_pos (baseV g how).length with h | h
      · exact .inl h
      · exact .inr (row_blk HV.out ⟨0, 0⟩ (by decide) h))
    clear B4 hb1 hb2 hb3 hb4 HV RV RU X0 X1 X2 X3 X4 P0 P1 P2 P3 P4 C C1 C2 C3 C4 D D1 D2 D3 D4 B0 B1_ B2_ B3_ B4_ HS0
    have LVV := Aside0.mk LV.out
    go_upto_block 0 with fail
    go_wp2_with fail
    go_loopw [20] (fun v20 wr => ∃ i : Nat, i ≤ (baseV g how).length ∧ v20 = .int .i64 i ∧ Aside0 (Below w3.heap.size w3 wr) ∧ Aside0 (Inv wr w3.heap.size Vv (baseV g how).length 2 58) ∧ Aside0 (RowR kC 60 wr w3.heap.size (.slice Uu (baseC g how).length nu) (baseC g how))) (fun v20 _ => (baseV g how).length - (intOf v20).toNat)
    case atStart => exact ⟨0, by omega, rfl, B5, IV, HU⟩
    case round =>
      obtain ⟨i, hi, rfl, HB, HI, HR⟩ := hrel
      have lv := LV.out
      by_cases hlt : i < (baseV g how).length
      · rcases HI.out with h | ⟨gv, cs, rfl, hgb, hcs, hsz⟩
        · omega
        · have q0 := blk_cell hcs (i * 2)
          have q1 := blk_cell hcs (i * 2 + 1)
          rw [Array.getElem?_eq_getElem (by omega)] at q0 q1
          have r0 := blk_frozen hcs (i * 2)
          have r1 := blk_frozen hcs (i * 2 + 1)
          go_wp2_with fail
          go_roundw
          case rel => exact ⟨i + 1, by omega, by go_num, ⟨set_below (set_below HB.out hgb _ _) hgb _ _⟩, ⟨.inr ⟨gv, _, rfl, hgb, blk_set (blk_set hcs _ _) _ _, by simpa using hsz⟩⟩, ⟨row_set (row_set HR.out hcs (by decide) _ _) (blk_set hcs _ _) (by decide) _ _⟩⟩
          case measure => simp [intOf]; omega
      · obtain rfl : i = (baseV g how).length := by omega
        have IU := Aside0.mk (show Inv wr w3.heap.size Uu (baseC g how).length 3 60 from by
          rcases Nat.eq_zero_or_pos (baseC g how).length with h | h
          · exact .inl h
          · exact .inr (row_blk HR.out ⟨0, 0, 0⟩ (by decide) h))
        clear HI HR IV HU
        go_wp2_with fail
        go_loopw [21] (fun v21 wq => ∃ i : Nat, i ≤ (baseC g how).length ∧ v21 = .int .i64 i ∧ Aside0 (Below w3.heap.size w3 wq) ∧ Aside0 (Inv wq w3.heap.size Uu (baseC g how).length 3 60)) (fun v21 _ => (baseC g how).length - (intOf v21).toNat)
        case atStart => exact ⟨0, by omega, rfl, HB, IU⟩
        case round =>
          obtain ⟨i, hi, rfl, HB', HI⟩ := hrel
          have lu := LU.out
          clear HB IU lv
          by_cases hlt : i < (baseC g how).length
          · rcases HI.out with h | ⟨gu, cs, rfl, hgb, hcs, hsz⟩
            · omega
            · have q0 := blk_cell hcs (i * 3)
              have q1 := blk_cell hcs (i * 3 + 1)
              have q2 := blk_cell hcs (i * 3 + 2)
              rw [Array.getElem?_eq_getElem (by omega)] at q0 q1 q2
              have r0 := blk_frozen hcs (i * 3)
              have r1 := blk_frozen hcs (i * 3 + 1)
              have r2 := blk_frozen hcs (i * 3 + 2)
              go_wp2_with fail
              go_roundw
              case rel => exact ⟨i + 1, by omega, by go_num, ⟨set_below (set_below (set_below HB'.out hgb _ _) hgb _ _) hgb _ _⟩, ⟨.inr ⟨gu, _, rfl, hgb, blk_set (blk_set (blk_set hcs _ _) _ _) _ _, by simpa using hsz⟩⟩⟩
              case measure => simp [intOf]; omega
          · obtain rfl : i = (baseC g how).length := by omega
            clear HI lu
            have c := heldG (blk_kept P.out HB'.out)
            obtain ⟨c0, c1, c2, c3, c4, c5, c6, c7, c8, c9, c10⟩ := c
            have d := heldG (blk_kept XO.out HB'.out)
            obtain ⟨d0, d1, d2, d3, d4, d5, d6, d7, d8, d9, d10⟩ := d
            have BF := Aside0.mk (below_then B.out B.out.size HB'.out)
            have SB := Aside0.mk ((sameB_iff g g).2 rfl)
            go_wp2_with fail
            refine (same_calls (XC.out.below HB'.out) (GC.out.below BF.out) GL.out GB.out GB.out).mono ?_
            rintro e wy ⟨rfl, hb⟩
            rw [SB.out]
            have BG := Aside0.mk (below_then BF.out BF.out.size hb)
            clear hb c0 c1 c2 c3 c4 c5 c6 c7 c8 c9 c10 d0 d1 d2 d3 d4 d5 d6 d7 d8 d9 d10 BF HB'
            go_wp2_with fail
            refine (lives_calls _).mono ?_
            rintro e wz ⟨rfl, hb⟩
            have BH := Aside0.mk (below_then BG.out BG.out.size hb)
            clear hb BG
            go_wp2_with fail
            go_ret
            exact ⟨rfl, BH.out⟩
end Go.Proofs.Ytpanefmemabckab.GenKeys
