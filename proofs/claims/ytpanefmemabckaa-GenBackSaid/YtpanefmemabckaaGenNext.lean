/- gen.Next of any Gen: the walk. -/
import Derived.Test.YtpanefmemabckaaGenRep
import Derived.Test.YtpanefmemabckaaInts
namespace Go.Proofs.Ytpanefmemabckaa.GenNext
open Go.RowKit Go.Proofs.Ytpanefmemabckaa.NumA Go.Proofs.Ytpanefmemabckaa.GenS Go.Proofs.Ytpanefmemabckaa.GenRep Go.Proofs.Ytpanefmemabckaa.GenBlk Go.Proofs.YtpanefmemabckaaW.PrintWords Go.Proofs.YtpanefmemabckaaW.PrintLast
open Go.Proofs.Ytpanefmemabckaa.GenZero (heap_new blk_kept blk_drew1 Z)
open Go.Proofs.Ytpanefmemabckaa.GenZeroC (heldZ)
open Go.Proofs.Ytpanefmemabckaa.Ints
set_option linter.unusedSimpArgs false

set_option maxRecDepth 100000 in
set_option maxHeartbeats 4000000 in
/-- bytes anew, the room behind them holds bytes -/
theorem cloneI {W : World} {s : Value} {l : List Int} (h : RowC kB W s l) (hl : l.length ≤ 140737488351232) :
    Calls Try.prog 81 #[s] W fun e w' => ∃ v, e = .returned v ∧ RowR kB 5 w' W.heap.size v l ∧ IntsV w' v ∧ Below W.heap.size W w' := by
  obtain ⟨A0, c0, rfl, hc0, hr0⟩ := h
  cases A0 with
  | none =>
    have h0 : l = [] := by
      by_cases hz : 0 < l.length
      · obtain ⟨ad, he, _⟩ := hr0.2.2 hz
        cases he
      · exact List.length_eq_zero_iff.1 (by omega)
    subst h0
    have hn : ∀ w : World, (binOp .eql 42 (.slice none 0 c0) (.slice none 0 0)).run Try.prog w = .ok (.bool true) w := fun w => by first | rfl | kernel_rfl | (go_simp; done) | (go_simp; rfl)
    go_enter Try.func81, Try.ntmps81
    go_wp2_with fail
    go_ret
    exact ⟨_, rfl, Kd.R_nil _ _ _ _ _, .inl rfl, Below.refl _ _⟩
  | some a =>
    have HR0 := Aside0.mk hr0
    have LM := Aside0.mk hl
    have O1 := Aside0.mk (GenKit.R_empty kB 5 W.heap.size W (Nat.le_refl _))
    have I1 := Aside0.mk (show IntsV (W.alloc (.cells #[] 5)) (.slice (some ⟨W.heap.size, 0, none⟩) 0 0) from .inr ⟨_, _, _, _, rfl, heap_new W _, rfl, by decide, fun u hu => by cases hu⟩)
    have B1 := Aside0.mk ((Below.refl W.heap.size W).alloc (Nat.le_refl _) (.cells #[] 5))
    clear hr0 hc0 hl
    have hn : ∀ w : World, (binOp .eql 42 (.slice (some a) l.length c0) (.slice none 0 0)).run Try.prog w = .ok (.bool false) w := fun w => by first | rfl | kernel_rfl | (go_simp; done) | (go_simp; rfl)
    go_enter Try.func81, Try.ntmps81
    go_wp2_with (first | ((with_reducible refine gate_builtin (b := .append) (xs := #[.tmp 5, .tmp 6]) rfl ?_); at_builtin; refine wpList_append_ints (w0 := W) W.heap.size rfl (.tmp 5) (.tmp 6) rfl (.slice (some ⟨W.heap.size, 0, none⟩) 0 0) ([] : List Int) l _ _ _ rfl rfl ?aO ?aI ?aR ?aB ?aS ?aL ?_; (case aO => exact O1.out); (case aI => exact I1.out); (case aR => exact Kd.C_below HR0.out B1.out); (case aB => exact B1.out); (case aS => exact B1.out.size); (case aL => have := LM.out; simp; omega); intro v240 w3 ho hi hb; have O2 := Aside0.mk ho; have I2 := Aside0.mk hi; have B2 := Aside0.mk hb; clear ho hi hb))
    go_ret
    exact ⟨_, rfl, O2.out, I2.out, B2.out⟩
theorem put3_ints {W : World} {v : Value} (h : IntsV W v) {r t : Nat} {cs : Array Value} (hb : W.heap[r]? = some (.cells cs t)) (ht : t ≠ 5) (j : Nat) (u0 u1 u2 : Value) : IntsV (put3 W r j u0 u1 u2) v :=
  ((h.set hb ht _ _).set (blk_set hb _ _) ht _ _).set (blk_set (blk_set hb _ _) _ _) ht _ _
theorem set_ints {W : World} {v : Value} (h : IntsV W v) {r t : Nat} {cs : Array Value} (hb : W.heap[r]? = some (.cells cs t)) (ht : t ≠ 5) (j : Nat) (u : Value) : IntsV (W.setCell ⟨r, j, none⟩ u) v := h.set hb ht _ _
theorem put11_ints {W : World} {v : Value} (h : IntsV W v) {r : Nat} {cs : Array Value} (hb : W.heap[r]? = some (.cells cs 58)) (u0 u1 u2 u3 u4 u5 u6 u7 u8 u9 u10 : Value) : IntsV (put11 W r u0 u1 u2 u3 u4 u5 u6 u7 u8 u9 u10) v := by
  have b3 := blk_set (blk_set (blk_set hb 0 u0) 1 u1) 2 u2
  have b6 := blk_set (blk_set (blk_set b3 3 u3) 4 u4) 5 u5
  have b9 := blk_set (blk_set (blk_set b6 6 u6) 7 u7) 8 u8
  exact ((put3_ints (put3_ints (put3_ints h hb (by decide) 0 u0 u1 u2) b3 (by decide) 3 u3 u4 u5) b6 (by decide) 6 u6 u7 u8).set b9 (by decide) 9 u9).set (blk_set b9 9 u9) (by decide) 10 u10
set_option maxRecDepth 100000 in
set_option maxHeartbeats 8000000 in
theorem next_ints (g : G) (s1 s2 s3 s4 s5 s6 : Value) (how key : Int) (sv sa sq sp : Value) (view : List S111) (added : List S114) (rq rp : List Int) (w : World)
    (hg : GenC w g s1 s2 s3 s4 s5 s6) (hl : GenL g 400000) (hv : RowC kS w sv view) (ha : RowC kC w sa added) (hq : RowC kB w sq rq) (hp : RowC kB w sp rp) (lv : view.length ≤ 400000) (la : added.length ≤ 400000) (lq : rq.length ≤ 140737488351232) (lp : rp.length ≤ 140737488351232) :
    Calls Try.prog 62 #[genV g s1 s2 s3 s4 s5 s6, .int .u8 how, .int .u32 key, sv, sa, sq, sp] w fun e w' => ∃ t1 t2 t3 t4 t5 t6, e = .returned (genV (nextP how key view added rq rp g) t1 t2 t3 t4 t5 t6) ∧
      GenR w' w.heap.size (nextP how key view added rq rp g) t1 t2 t3 t4 t5 t6 ∧ IntsV w' t5 ∧ IntsV w' t6 ∧ Below w.heap.size w w' := by
  have hL := Aside0.mk hl
  have LV := Aside0.mk lv
  have LA := Aside0.mk la
  have LQ := Aside0.mk lq
  have LP := Aside0.mk lp
  have hpp := blk_alloc (heap_new w (genO g s1 s2 s3 s4 s5 s6)) Z
  have hqq := heap_new (w.alloc (genO g s1 s2 s3 s4 s5 s6)) Z
  have hB : Below w.heap.size w ((w.alloc (genO g s1 s2 s3 s4 s5 s6)).alloc Z) := ((Below.refl _ _).alloc (Nat.le_refl _) _).alloc (by simp) _
  rw [show (w.alloc (genO g s1 s2 s3 s4 s5 s6)).heap.size = w.heap.size + 1 from by simp] at hqq
  obtain ⟨p, hp'⟩ : ∃ p, p = w.heap.size := ⟨_, rfl⟩
  obtain ⟨W0, hW0⟩ : ∃ W0, W0 = (w.alloc (genO g s1 s2 s3 s4 s5 s6)).alloc Z := ⟨_, rfl⟩
  rw [← hW0] at hpp hqq hB
  rw [← hp'] at hpp hqq
  have EW := Aside0.mk hW0
  have EP := Aside0.mk hp'
  have P := Aside0.mk (blk_drew1 hpp)
  have Q := Aside0.mk (blk_drew1 hqq)
  have B := Aside0.mk (below_drew1 hB)
  have GC := Aside0.mk hg
  have VC := Aside0.mk hv
  obtain ⟨Aa, ca, rfl, hca, hra⟩ := ha
  have AC := Aside0.mk (show RowC kC w (.slice Aa added.length ca) added from ⟨Aa, ca, rfl, hca, hra⟩)
  have CA := Aside0.mk hra
  have RC := Aside0.mk hq
  have TC := Aside0.mk hp
  clear hpp hqq hB hp' hW0 hg hv hca hra hq hp hl lv la lq lp
  go_enter Try.func62, Try.ntmps62
  go_upto_region 1 with fail
  change Code.wp _ _ _ _ ((w.alloc (genO g s1 s2 s3 s4 s5 s6)).alloc Z)
  rw [← EW.out, ← EP.out]
  refine start_ (n := 10) (S := fun w' => w'.cell? ⟨p, 0, none⟩ = some (.int .u32 g.k1) ∧ w'.cell? ⟨p, 1, none⟩ = some s1 ∧ w'.cell? ⟨p, 2, none⟩ = some s2 ∧ w'.cell? ⟨p, 3, none⟩ = some (.int .u32 g.k2) ∧ w'.cell? ⟨p, 4, none⟩ = some s3 ∧ w'.cell? ⟨p, 5, none⟩ = some s4 ∧ w'.cell? ⟨p, 6, none⟩ = some s5 ∧ w'.cell? ⟨p, 7, none⟩ = some s6 ∧ w'.cell? ⟨p, 8, none⟩ = some (.bool g.ls) ∧ w'.cell? ⟨p, 9, none⟩ = some (.int .u8 g.su) ∧ w'.cell? ⟨p, 10, none⟩ = some (.int .u8 g.wi)) (ds := [7, 9]) #[false, false, false, false, false, false, false, false, false, false] (by kernel_rfl) rfl rfl (heldG P.out) (fun hHeld => ?_)
  generalize W0.drew = w1 at P Q B hHeld ⊢
  refine pure_ (i := 0) (N := some 16) (v := ?_) (a' := ?_) #[true, false, false, false, false, false, false, false, false, false] rfl rfl (by kernel_rfl) (fun _ _ _ h => h) (Or.inl ⟨by rfl, ?_⟩) ?_ ?_
  rotate_left
  · intro w'
    go_simp
    with_reducible rfl
  rotate_left
  · simp only [Act.put, List.setIfInBounds_toArray, List.set_cons_zero, List.set_cons_succ, i64_w, i32_w]
    rfl
  refine pure_ (i := 3) (N := some 19) (v := ?_) (a' := ?_) #[true, false, false, true, false, false, false, false, false, false] rfl rfl (by kernel_rfl) (fun _ _ _ h => h) (Or.inl ⟨by rfl, ?_⟩) ?_ ?_
  rotate_left
  · intro w'
    go_simp
    with_reducible rfl
  rotate_left
  · simp only [Act.put, List.setIfInBounds_toArray, List.set_cons_zero, List.set_cons_succ, i64_w, i32_w]
    rfl
  refine take_ (i := 1) (N := some 17) (v := ?_) (a' := ?_) #[true, true, false, true, false, false, false, false, false, false] rfl rfl (by kernel_rfl) (fun _ _ _ h => h) (Or.inl ⟨by rfl, ?_⟩) hHeld ?_ ?_
  rotate_left
  · rintro w' ⟨s_0, s_1, s_2, s_3, s_4, s_5, s_6, s_7, s_8, s_9, s_10⟩
    go_simp
    with_reducible rfl
  rotate_left
  · simp only [Act.put, List.setIfInBounds_toArray, List.set_cons_zero, List.set_cons_succ, i64_w, i32_w]
    rfl
  refine take_ (i := 4) (N := some 20) (v := ?_) (a' := ?_) #[true, true, false, true, true, false, false, false, false, false] rfl rfl (by kernel_rfl) (fun _ _ _ h => h) (Or.inl ⟨by rfl, ?_⟩) hHeld ?_ ?_
  rotate_left
  · rintro w' ⟨s_0, s_1, s_2, s_3, s_4, s_5, s_6, s_7, s_8, s_9, s_10⟩
    go_simp
    with_reducible rfl
  rotate_left
  · simp only [Act.put, List.setIfInBounds_toArray, List.set_cons_zero, List.set_cons_succ, i64_w, i32_w]
    rfl
  refine one_ (i := 2) (N := some 18) #[true, true, true, true, true, false, false, false, false, false] rfl rfl (by kernel_rfl) (by decide) (fun K hK => ?_)
  refine goes_ Try.func80 (by kernel_rfl) rfl #[.agg #[.int .u32 g.k1, s1, s2]] (by rfl) rfl rfl (by (try simp only [List.map_toArray, List.map_cons, List.map_nil]); first | done | rfl) ?_
  with_reducible refine (twin (k := g.k1) (GC.out.h1.below B.out) (GC.out.h2.below B.out) (Nat.le_trans hL.out.h1 (by decide)) (Nat.le_trans hL.out.h2 (by decide))).mono ?_
  rintro e w2 ⟨t1, t2, rfl, h1, h2, hb⟩
  have H1 := Aside0.mk (Kd.R_lower h1 B.out.size)
  have H2 := Aside0.mk (Kd.R_lower h2 B.out.size)
  replace P := Aside0.mk (blk_kept P.out hb)
  replace Q := Aside0.mk (blk_kept Q.out hb)
  replace B := Aside0.mk (below_then B.out B.out.size hb)
  clear hb h1 h2
  obtain ⟨A1, n1, rfl⟩ := Kd.R_slice H1.out
  obtain ⟨A2, n2, rfl⟩ := Kd.R_slice H2.out
  refine ⟨_, rfl, ?_⟩
  refine hK.out _ _ (heldG P.out) (fun hHeld => ?_)
  clear hK K
  refine norm_ (a' := ?_) ?_ ?_
  rotate_left
  · show Act.put _ (some 18) _ = _
    simp only [Act.put, List.setIfInBounds_toArray, List.set_cons_zero, List.set_cons_succ, i64_w, i32_w]
    rfl
  refine pure_ (i := 6) (N := some 22) (v := ?_) (a' := ?_) #[true, true, true, true, true, false, true, false, false, false] rfl rfl (by kernel_rfl) (fun _ _ _ h => h) (Or.inl ⟨by rfl, ?_⟩) ?_ ?_
  rotate_left
  · intro w'
    go_simp
    with_reducible rfl
  rotate_left
  · simp only [Act.put, List.setIfInBounds_toArray, List.set_cons_zero, List.set_cons_succ, i64_w, i32_w]
    rfl
  refine one_ (i := 5) (N := some 21) #[true, true, true, true, true, true, true, false, false, false] rfl rfl (by kernel_rfl) (by decide) (fun K hK => ?_)
  refine goes_ Try.func80 (by kernel_rfl) rfl #[.agg #[.int .u32 g.k2, s3, s4]] (by rfl) rfl rfl (by (try simp only [List.map_toArray, List.map_cons, List.map_nil]); first | done | rfl) ?_
  with_reducible refine (twin (k := g.k2) (GC.out.h3.below B.out) (GC.out.h4.below B.out) (Nat.le_trans hL.out.h3 (by decide)) (Nat.le_trans hL.out.h4 (by decide))).mono ?_
  rintro e w3 ⟨t3, t4, rfl, h3, h4, hb⟩
  have H3 := Aside0.mk (Kd.R_lower h3 B.out.size)
  have H4 := Aside0.mk (Kd.R_lower h4 B.out.size)
  replace P := Aside0.mk (blk_kept P.out hb)
  replace Q := Aside0.mk (blk_kept Q.out hb)
  replace H1 := Aside0.mk (Kd.R_below H1.out hb)
  replace H2 := Aside0.mk (Kd.R_below H2.out hb)
  replace B := Aside0.mk (below_then B.out B.out.size hb)
  clear hb h3 h4
  obtain ⟨A3, n3, rfl⟩ := Kd.R_slice H3.out
  obtain ⟨A4, n4, rfl⟩ := Kd.R_slice H4.out
  refine ⟨_, rfl, ?_⟩
  refine hK.out _ _ (heldG P.out) (fun hHeld => ?_)
  clear hK K
  refine norm_ (a' := ?_) ?_ ?_
  rotate_left
  · show Act.put _ (some 21) _ = _
    simp only [Act.put, List.setIfInBounds_toArray, List.set_cons_zero, List.set_cons_succ, i64_w, i32_w]
    rfl
  refine last_ (i := 7) (N := none) #[true, true, true, true, true, true, true, true, false, false] rfl rfl (by kernel_rfl) (by decide) (fun K hK => ?_)
  have d0 := blk_cell P.out 0
  have d1 := blk_cell P.out 1
  have d2 := blk_cell P.out 2
  have fd0 := blk_frozen P.out 0
  have fd1 := blk_frozen P.out 1
  have fd2 := blk_frozen P.out 2
  simp only [List.getElem?_toArray, List.getElem?_cons_zero, List.getElem?_cons_succ] at d0 d1 d2
  refine skip_ (w1 := ?_) (by rfl) rfl ?_ ?_
  rotate_left
  · go_simp
    rfl
  refine hK.out _ _ ?_
  clear hK K
  clear d0 fd0 d1 fd1 d2 fd2
  obtain ⟨w4, hW⟩ : ∃ W, W = (((w3.setCell ⟨p, 0, none⟩ (.int .u32 g.k1)).setCell ⟨p, 1, none⟩ (.slice A1 g.v1.length n1)).setCell ⟨p, 2, none⟩ (.slice A2 g.c1.length n2)) := ⟨_, rfl⟩
  rw [show (((w3.setCell ⟨p, 0, none⟩ (.int .u32 g.k1)).setCell ⟨p, 1, none⟩ (.slice A1 g.v1.length n1)).setCell ⟨p, 2, none⟩ (.slice A2 g.c1.length n2)) = w4 from hW.symm]
  replace H1 := Aside0.mk (show RowR kS 111 w4 w.heap.size _ _ from by rw [hW]; exact put3_row H1.out P.out (by decide) 0 (.int .u32 g.k1) (.slice A1 g.v1.length n1) (.slice A2 g.c1.length n2))
  replace H2 := Aside0.mk (show RowR kC 114 w4 w.heap.size _ _ from by rw [hW]; exact put3_row H2.out P.out (by decide) 0 (.int .u32 g.k1) (.slice A1 g.v1.length n1) (.slice A2 g.c1.length n2))
  replace H3 := Aside0.mk (show RowR kS 111 w4 w.heap.size _ _ from by rw [hW]; exact put3_row H3.out P.out (by decide) 0 (.int .u32 g.k1) (.slice A1 g.v1.length n1) (.slice A2 g.c1.length n2))
  replace H4 := Aside0.mk (show RowR kC 114 w4 w.heap.size _ _ from by rw [hW]; exact put3_row H4.out P.out (by decide) 0 (.int .u32 g.k1) (.slice A1 g.v1.length n1) (.slice A2 g.c1.length n2))
  replace B := Aside0.mk (show Below w.heap.size w w4 from by rw [hW]; exact put3_below B.out (r := p) (by have := EP.out; omega) 0 (.int .u32 g.k1) (.slice A1 g.v1.length n1) (.slice A2 g.c1.length n2))
  replace Q := Aside0.mk (show w4.heap[p + 1]? = some (Z) from by rw [hW]; exact put3_far Q.out (show p + 1 ≠ p from by omega) 0 (.int .u32 g.k1) (.slice A1 g.v1.length n1) (.slice A2 g.c1.length n2))
  replace P := Aside0.mk (show w4.heap[p]? = some (rawO g.k1 (.slice A1 g.v1.length n1) (.slice A2 g.c1.length n2) g.k2 s3 s4 s5 s6 g.ls g.su g.wi) from by rw [hW]; exact put3_0 P.out g.k1 (.slice A1 g.v1.length n1) (.slice A2 g.c1.length n2))
  clear hW
  refine pure_ (i := 8) (N := some 23) (v := ?_) (a' := ?_) #[true, true, true, true, true, true, true, true, true, false] rfl rfl (by kernel_rfl) (fun _ _ _ h => h) (Or.inl ⟨by rfl, ?_⟩) ?_ ?_
  rotate_left
  · intro w'
    go_simp
    with_reducible rfl
  rotate_left
  · simp only [Act.put, List.setIfInBounds_toArray, List.set_cons_zero, List.set_cons_succ, i64_w, i32_w]
    rfl
  refine last_ (i := 9) (N := none) #[true, true, true, true, true, true, true, true, true, true] rfl rfl (by kernel_rfl) (by decide) (fun K hK => ?_)
  have d3 := blk_cell P.out 3
  have d4 := blk_cell P.out 4
  have d5 := blk_cell P.out 5
  have fd3 := blk_frozen P.out 3
  have fd4 := blk_frozen P.out 4
  have fd5 := blk_frozen P.out 5
  simp only [List.getElem?_toArray, List.getElem?_cons_zero, List.getElem?_cons_succ] at d3 d4 d5
  refine skip_ (w1 := ?_) (by rfl) rfl ?_ ?_
  rotate_left
  · go_simp
    rfl
  refine hK.out _ _ ?_
  clear hK K
  clear d3 fd3 d4 fd4 d5 fd5
  obtain ⟨w5, hW⟩ : ∃ W, W = (((w4.setCell ⟨p, 3, none⟩ (.int .u32 g.k2)).setCell ⟨p, 4, none⟩ (.slice A3 g.v2.length n3)).setCell ⟨p, 5, none⟩ (.slice A4 g.c2.length n4)) := ⟨_, rfl⟩
  rw [show (((w4.setCell ⟨p, 3, none⟩ (.int .u32 g.k2)).setCell ⟨p, 4, none⟩ (.slice A3 g.v2.length n3)).setCell ⟨p, 5, none⟩ (.slice A4 g.c2.length n4)) = w5 from hW.symm]
  replace H1 := Aside0.mk (show RowR kS 111 w5 w.heap.size _ _ from by rw [hW]; exact put3_row H1.out P.out (by decide) 3 (.int .u32 g.k2) (.slice A3 g.v2.length n3) (.slice A4 g.c2.length n4))
  replace H2 := Aside0.mk (show RowR kC 114 w5 w.heap.size _ _ from by rw [hW]; exact put3_row H2.out P.out (by decide) 3 (.int .u32 g.k2) (.slice A3 g.v2.length n3) (.slice A4 g.c2.length n4))
  replace H3 := Aside0.mk (show RowR kS 111 w5 w.heap.size _ _ from by rw [hW]; exact put3_row H3.out P.out (by decide) 3 (.int .u32 g.k2) (.slice A3 g.v2.length n3) (.slice A4 g.c2.length n4))
  replace H4 := Aside0.mk (show RowR kC 114 w5 w.heap.size _ _ from by rw [hW]; exact put3_row H4.out P.out (by decide) 3 (.int .u32 g.k2) (.slice A3 g.v2.length n3) (.slice A4 g.c2.length n4))
  replace B := Aside0.mk (show Below w.heap.size w w5 from by rw [hW]; exact put3_below B.out (r := p) (by have := EP.out; omega) 3 (.int .u32 g.k2) (.slice A3 g.v2.length n3) (.slice A4 g.c2.length n4))
  replace Q := Aside0.mk (show w5.heap[p + 1]? = some (Z) from by rw [hW]; exact put3_far Q.out (show p + 1 ≠ p from by omega) 3 (.int .u32 g.k2) (.slice A3 g.v2.length n3) (.slice A4 g.c2.length n4))
  replace P := Aside0.mk (show w5.heap[p]? = some (rawO g.k1 (.slice A1 g.v1.length n1) (.slice A2 g.c1.length n2) g.k2 (.slice A3 g.v2.length n3) (.slice A4 g.c2.length n4) s5 s6 g.ls g.su g.wi) from by rw [hW]; exact put3_3 P.out g.k2 (.slice A3 g.v2.length n3) (.slice A4 g.c2.length n4))
  clear hW
  refine done_ (by kernel_rfl) ?_
  go_upto_region 2 with fail
  replace P := Aside0.mk (blk_drew1 P.out)
  replace Q := Aside0.mk (blk_drew1 Q.out)
  replace B := Aside0.mk (below_drew1 B.out)
  replace H1 := Aside0.mk (Kd.R_drew H1.out)
  replace H2 := Aside0.mk (Kd.R_drew H2.out)
  replace H3 := Aside0.mk (Kd.R_drew H3.out)
  replace H4 := Aside0.mk (Kd.R_drew H4.out)
  refine start_ (n := 10) (S := fun w' => w'.cell? ⟨p, 0, none⟩ = some (.int .u32 g.k1) ∧ w'.cell? ⟨p, 1, none⟩ = some (.slice A1 g.v1.length n1) ∧ w'.cell? ⟨p, 2, none⟩ = some (.slice A2 g.c1.length n2) ∧ w'.cell? ⟨p, 3, none⟩ = some (.int .u32 g.k2) ∧ w'.cell? ⟨p, 4, none⟩ = some (.slice A3 g.v2.length n3) ∧ w'.cell? ⟨p, 5, none⟩ = some (.slice A4 g.c2.length n4) ∧ w'.cell? ⟨p, 6, none⟩ = some s5 ∧ w'.cell? ⟨p, 7, none⟩ = some s6 ∧ w'.cell? ⟨p, 8, none⟩ = some (.bool g.ls) ∧ w'.cell? ⟨p, 9, none⟩ = some (.int .u8 g.su) ∧ w'.cell? ⟨p, 10, none⟩ = some (.int .u8 g.wi)) (ds := [7, 9]) #[false, false, false, false, false, false, false, false, false, false] (by kernel_rfl) rfl rfl (heldR P.out) (fun hHeld => ?_)
  generalize w5.drew = w5 at P Q B H1 H2 H3 H4 hHeld ⊢
  refine pure_ (i := 0) (N := some 24) (v := ?_) (a' := ?_) #[true, false, false, false, false, false, false, false, false, false] rfl rfl (by kernel_rfl) (fun _ _ _ h => h) (Or.inl ⟨by rfl, ?_⟩) ?_ ?_
  rotate_left
  · intro w'
    go_simp
    with_reducible rfl
  rotate_left
  · simp only [Act.put, List.setIfInBounds_toArray, List.set_cons_zero, List.set_cons_succ, i64_w, i32_w]
    rfl
  refine pure_ (i := 3) (N := some 27) (v := ?_) (a' := ?_) #[true, false, false, true, false, false, false, false, false, false] rfl rfl (by kernel_rfl) (fun _ _ _ h => h) (Or.inl ⟨by rfl, ?_⟩) ?_ ?_
  rotate_left
  · intro w'
    go_simp
    with_reducible rfl
  rotate_left
  · simp only [Act.put, List.setIfInBounds_toArray, List.set_cons_zero, List.set_cons_succ, i64_w, i32_w]
    rfl
  refine take_ (i := 1) (N := some 25) (v := ?_) (a' := ?_) #[true, true, false, true, false, false, false, false, false, false] rfl rfl (by kernel_rfl) (fun _ _ _ h => h) (Or.inl ⟨by rfl, ?_⟩) hHeld ?_ ?_
  rotate_left
  · rintro w' ⟨s_0, s_1, s_2, s_3, s_4, s_5, s_6, s_7, s_8, s_9, s_10⟩
    go_simp
    with_reducible rfl
  rotate_left
  · simp only [Act.put, List.setIfInBounds_toArray, List.set_cons_zero, List.set_cons_succ, i64_w, i32_w]
    rfl
  refine take_ (i := 4) (N := some 28) (v := ?_) (a' := ?_) #[true, true, false, true, true, false, false, false, false, false] rfl rfl (by kernel_rfl) (fun _ _ _ h => h) (Or.inl ⟨by rfl, ?_⟩) hHeld ?_ ?_
  rotate_left
  · rintro w' ⟨s_0, s_1, s_2, s_3, s_4, s_5, s_6, s_7, s_8, s_9, s_10⟩
    go_simp
    with_reducible rfl
  rotate_left
  · simp only [Act.put, List.setIfInBounds_toArray, List.set_cons_zero, List.set_cons_succ, i64_w, i32_w]
    rfl
  refine one_ (i := 2) (N := some 26) #[true, true, true, true, true, false, false, false, false, false] rfl rfl (by kernel_rfl) (by decide) (fun K hK => ?_)
  refine goes_ Try.func81 (by kernel_rfl) rfl #[s5] (by rfl) rfl rfl (by (try simp only [List.map_toArray, List.map_cons, List.map_nil]); first | done | rfl) ?_
  with_reducible refine (cloneI (GC.out.h5.below B.out) (Nat.le_trans hL.out.h5 (by decide))).mono ?_
  rintro e w6 ⟨t5, rfl, h5, i5, hb⟩
  have I5 := Aside0.mk i5
  have H5 := Aside0.mk (Kd.R_lower h5 B.out.size)
  replace P := Aside0.mk (blk_kept P.out hb)
  replace Q := Aside0.mk (blk_kept Q.out hb)
  replace H1 := Aside0.mk (Kd.R_below H1.out hb)
  replace H2 := Aside0.mk (Kd.R_below H2.out hb)
  replace H3 := Aside0.mk (Kd.R_below H3.out hb)
  replace H4 := Aside0.mk (Kd.R_below H4.out hb)
  replace B := Aside0.mk (below_then B.out B.out.size hb)
  clear hb h5 i5
  obtain ⟨A5, n5, rfl⟩ := Kd.R_slice H5.out
  refine ⟨_, rfl, ?_⟩
  refine hK.out _ _ (heldR P.out) (fun hHeld => ?_)
  clear hK K
  refine norm_ (a' := ?_) ?_ ?_
  rotate_left
  · show Act.put _ (some 26) _ = _
    simp only [Act.put, List.setIfInBounds_toArray, List.set_cons_zero, List.set_cons_succ, i64_w, i32_w]
    rfl
  refine pure_ (i := 6) (N := some 30) (v := ?_) (a' := ?_) #[true, true, true, true, true, false, true, false, false, false] rfl rfl (by kernel_rfl) (fun _ _ _ h => h) (Or.inl ⟨by rfl, ?_⟩) ?_ ?_
  rotate_left
  · intro w'
    go_simp
    with_reducible rfl
  rotate_left
  · simp only [Act.put, List.setIfInBounds_toArray, List.set_cons_zero, List.set_cons_succ, i64_w, i32_w]
    rfl
  refine one_ (i := 5) (N := some 29) #[true, true, true, true, true, true, true, false, false, false] rfl rfl (by kernel_rfl) (by decide) (fun K hK => ?_)
  refine goes_ Try.func81 (by kernel_rfl) rfl #[s6] (by rfl) rfl rfl (by (try simp only [List.map_toArray, List.map_cons, List.map_nil]); first | done | rfl) ?_
  with_reducible refine (cloneI (GC.out.h6.below B.out) (Nat.le_trans hL.out.h6 (by decide))).mono ?_
  rintro e w7 ⟨t6, rfl, h6, i6, hb⟩
  have I6 := Aside0.mk i6
  have H6 := Aside0.mk (Kd.R_lower h6 B.out.size)
  replace P := Aside0.mk (blk_kept P.out hb)
  replace Q := Aside0.mk (blk_kept Q.out hb)
  replace H1 := Aside0.mk (Kd.R_below H1.out hb)
  replace H2 := Aside0.mk (Kd.R_below H2.out hb)
  replace H3 := Aside0.mk (Kd.R_below H3.out hb)
  replace H4 := Aside0.mk (Kd.R_below H4.out hb)
  replace H5 := Aside0.mk (Kd.R_below H5.out hb)
  replace I5 := Aside0.mk (I5.out.below hb)
  replace B := Aside0.mk (below_then B.out B.out.size hb)
  clear hb h6 i6
  obtain ⟨A6, n6, rfl⟩ := Kd.R_slice H6.out
  refine ⟨_, rfl, ?_⟩
  refine hK.out _ _ (heldR P.out) (fun hHeld => ?_)
  clear hK K
  refine norm_ (a' := ?_) ?_ ?_
  rotate_left
  · show Act.put _ (some 29) _ = _
    simp only [Act.put, List.setIfInBounds_toArray, List.set_cons_zero, List.set_cons_succ, i64_w, i32_w]
    rfl
  refine last_ (i := 7) (N := none) #[true, true, true, true, true, true, true, true, false, false] rfl rfl (by kernel_rfl) (by decide) (fun K hK => ?_)
  have d6 := blk_cell P.out 6
  have fd6 := blk_frozen P.out 6
  simp only [List.getElem?_toArray, List.getElem?_cons_zero, List.getElem?_cons_succ] at d6
  refine skip_ (w1 := ?_) (by rfl) rfl ?_ ?_
  rotate_left
  · go_simp
    rfl
  refine hK.out _ _ ?_
  clear hK K
  clear d6 fd6
  obtain ⟨w8, hW⟩ : ∃ W, W = (w7.setCell ⟨p, 6, none⟩ (.slice A5 g.rq.length n5)) := ⟨_, rfl⟩
  rw [show (w7.setCell ⟨p, 6, none⟩ (.slice A5 g.rq.length n5)) = w8 from hW.symm]
  replace H1 := Aside0.mk (show RowR kS 111 w8 w.heap.size _ _ from by rw [hW]; exact row_set H1.out P.out (by decide) 6 (.slice A5 g.rq.length n5))
  replace H2 := Aside0.mk (show RowR kC 114 w8 w.heap.size _ _ from by rw [hW]; exact row_set H2.out P.out (by decide) 6 (.slice A5 g.rq.length n5))
  replace H3 := Aside0.mk (show RowR kS 111 w8 w.heap.size _ _ from by rw [hW]; exact row_set H3.out P.out (by decide) 6 (.slice A5 g.rq.length n5))
  replace H4 := Aside0.mk (show RowR kC 114 w8 w.heap.size _ _ from by rw [hW]; exact row_set H4.out P.out (by decide) 6 (.slice A5 g.rq.length n5))
  replace H5 := Aside0.mk (show RowR kB 5 w8 w.heap.size _ _ from by rw [hW]; exact row_set H5.out P.out (by decide) 6 (.slice A5 g.rq.length n5))
  replace H6 := Aside0.mk (show RowR kB 5 w8 w.heap.size _ _ from by rw [hW]; exact row_set H6.out P.out (by decide) 6 (.slice A5 g.rq.length n5))
  replace I5 := Aside0.mk (show IntsV w8 _ from by rw [hW]; exact set_ints I5.out P.out (by decide) 6 (.slice A5 g.rq.length n5))
  replace I6 := Aside0.mk (show IntsV w8 _ from by rw [hW]; exact set_ints I6.out P.out (by decide) 6 (.slice A5 g.rq.length n5))
  replace B := Aside0.mk (show Below w.heap.size w w8 from by rw [hW]; exact set_below B.out (r := p) (by have := EP.out; omega) 6 (.slice A5 g.rq.length n5))
  replace Q := Aside0.mk (show w8.heap[p + 1]? = some (Z) from by rw [hW]; exact set_far Q.out (show p + 1 ≠ p from by omega) 6 (.slice A5 g.rq.length n5))
  replace P := Aside0.mk (show w8.heap[p]? = some (rawO g.k1 (.slice A1 g.v1.length n1) (.slice A2 g.c1.length n2) g.k2 (.slice A3 g.v2.length n3) (.slice A4 g.c2.length n4) (.slice A5 g.rq.length n5) s6 g.ls g.su g.wi) from by rw [hW]; exact put1_6 P.out (.slice A5 g.rq.length n5))
  clear hW
  refine pure_ (i := 8) (N := some 31) (v := ?_) (a' := ?_) #[true, true, true, true, true, true, true, true, true, false] rfl rfl (by kernel_rfl) (fun _ _ _ h => h) (Or.inl ⟨by rfl, ?_⟩) ?_ ?_
  rotate_left
  · intro w'
    go_simp
    with_reducible rfl
  rotate_left
  · simp only [Act.put, List.setIfInBounds_toArray, List.set_cons_zero, List.set_cons_succ, i64_w, i32_w]
    rfl
  refine last_ (i := 9) (N := none) #[true, true, true, true, true, true, true, true, true, true] rfl rfl (by kernel_rfl) (by decide) (fun K hK => ?_)
  have d7 := blk_cell P.out 7
  have fd7 := blk_frozen P.out 7
  simp only [List.getElem?_toArray, List.getElem?_cons_zero, List.getElem?_cons_succ] at d7
  refine skip_ (w1 := ?_) (by rfl) rfl ?_ ?_
  rotate_left
  · go_simp
    rfl
  refine hK.out _ _ ?_
  clear hK K
  clear d7 fd7
  obtain ⟨w9, hW⟩ : ∃ W, W = (w8.setCell ⟨p, 7, none⟩ (.slice A6 g.rp.length n6)) := ⟨_, rfl⟩
  rw [show (w8.setCell ⟨p, 7, none⟩ (.slice A6 g.rp.length n6)) = w9 from hW.symm]
  replace H1 := Aside0.mk (show RowR kS 111 w9 w.heap.size _ _ from by rw [hW]; exact row_set H1.out P.out (by decide) 7 (.slice A6 g.rp.length n6))
  replace H2 := Aside0.mk (show RowR kC 114 w9 w.heap.size _ _ from by rw [hW]; exact row_set H2.out P.out (by decide) 7 (.slice A6 g.rp.length n6))
  replace H3 := Aside0.mk (show RowR kS 111 w9 w.heap.size _ _ from by rw [hW]; exact row_set H3.out P.out (by decide) 7 (.slice A6 g.rp.length n6))
  replace H4 := Aside0.mk (show RowR kC 114 w9 w.heap.size _ _ from by rw [hW]; exact row_set H4.out P.out (by decide) 7 (.slice A6 g.rp.length n6))
  replace H5 := Aside0.mk (show RowR kB 5 w9 w.heap.size _ _ from by rw [hW]; exact row_set H5.out P.out (by decide) 7 (.slice A6 g.rp.length n6))
  replace H6 := Aside0.mk (show RowR kB 5 w9 w.heap.size _ _ from by rw [hW]; exact row_set H6.out P.out (by decide) 7 (.slice A6 g.rp.length n6))
  replace I5 := Aside0.mk (show IntsV w9 _ from by rw [hW]; exact set_ints I5.out P.out (by decide) 7 (.slice A6 g.rp.length n6))
  replace I6 := Aside0.mk (show IntsV w9 _ from by rw [hW]; exact set_ints I6.out P.out (by decide) 7 (.slice A6 g.rp.length n6))
  replace B := Aside0.mk (show Below w.heap.size w w9 from by rw [hW]; exact set_below B.out (r := p) (by have := EP.out; omega) 7 (.slice A6 g.rp.length n6))
  replace Q := Aside0.mk (show w9.heap[p + 1]? = some (Z) from by rw [hW]; exact set_far Q.out (show p + 1 ≠ p from by omega) 7 (.slice A6 g.rp.length n6))
  replace P := Aside0.mk (show w9.heap[p]? = some (rawO g.k1 (.slice A1 g.v1.length n1) (.slice A2 g.c1.length n2) g.k2 (.slice A3 g.v2.length n3) (.slice A4 g.c2.length n4) (.slice A5 g.rq.length n5) (.slice A6 g.rp.length n6) g.ls g.su g.wi) from by rw [hW]; exact put1_7 P.out (.slice A6 g.rp.length n6))
  clear hW
  refine done_ (by kernel_rfl) ?_
  go_wp2_with fail
  refine (cloneS (VC.out.below B.out) (Nat.le_trans LV.out (by decide))).mono ?_
  rintro e w10 ⟨t7, rfl, h7, hb⟩
  have H7 := Aside0.mk (Kd.R_lower h7 B.out.size)
  replace P := Aside0.mk (blk_kept P.out hb)
  replace Q := Aside0.mk (blk_kept Q.out hb)
  replace H1 := Aside0.mk (Kd.R_below H1.out hb)
  replace H2 := Aside0.mk (Kd.R_below H2.out hb)
  replace H3 := Aside0.mk (Kd.R_below H3.out hb)
  replace H4 := Aside0.mk (Kd.R_below H4.out hb)
  replace H5 := Aside0.mk (Kd.R_below H5.out hb)
  replace H6 := Aside0.mk (Kd.R_below H6.out hb)
  replace I5 := Aside0.mk (I5.out.below hb)
  replace I6 := Aside0.mk (I6.out.below hb)
  replace B := Aside0.mk (below_then B.out B.out.size hb)
  clear hb h7
  obtain ⟨A7, n7, rfl⟩ := Kd.R_slice H7.out
  go_wp2_with fail
  refine (cloneC (AC.out.below B.out) (Nat.le_trans LA.out (by decide))).mono ?_
  rintro e w11 ⟨t8, rfl, h8, hb⟩
  have H8 := Aside0.mk (Kd.R_lower h8 B.out.size)
  replace P := Aside0.mk (blk_kept P.out hb)
  replace Q := Aside0.mk (blk_kept Q.out hb)
  replace H1 := Aside0.mk (Kd.R_below H1.out hb)
  replace H2 := Aside0.mk (Kd.R_below H2.out hb)
  replace H3 := Aside0.mk (Kd.R_below H3.out hb)
  replace H4 := Aside0.mk (Kd.R_below H4.out hb)
  replace H5 := Aside0.mk (Kd.R_below H5.out hb)
  replace H6 := Aside0.mk (Kd.R_below H6.out hb)
  replace H7 := Aside0.mk (Kd.R_below H7.out hb)
  replace I5 := Aside0.mk (I5.out.below hb)
  replace I6 := Aside0.mk (I6.out.below hb)
  replace B := Aside0.mk (below_then B.out B.out.size hb)
  clear hb h8
  obtain ⟨A8, n8, rfl⟩ := Kd.R_slice H8.out
  have D := Aside0.mk (heap_new w11 (halfO key (.slice A7 view.length n7) (.slice A8 added.length n8)))
  have NB := Aside0.mk B.out.size
  have NP := Aside0.mk (Nat.ne_of_lt (blk_lt P.out))
  have NQ := Aside0.mk (Nat.ne_of_lt (blk_lt Q.out))
  replace P := Aside0.mk (blk_alloc P.out (halfO key (.slice A7 view.length n7) (.slice A8 added.length n8)))
  replace Q := Aside0.mk (blk_alloc Q.out (halfO key (.slice A7 view.length n7) (.slice A8 added.length n8)))
  replace B := Aside0.mk (B.out.alloc B.out.size (halfO key (.slice A7 view.length n7) (.slice A8 added.length n8)))
  replace H1 := Aside0.mk (Kd.R_alloc H1.out (halfO key (.slice A7 view.length n7) (.slice A8 added.length n8)))
  replace H2 := Aside0.mk (Kd.R_alloc H2.out (halfO key (.slice A7 view.length n7) (.slice A8 added.length n8)))
  replace H3 := Aside0.mk (Kd.R_alloc H3.out (halfO key (.slice A7 view.length n7) (.slice A8 added.length n8)))
  replace H4 := Aside0.mk (Kd.R_alloc H4.out (halfO key (.slice A7 view.length n7) (.slice A8 added.length n8)))
  replace H5 := Aside0.mk (Kd.R_alloc H5.out (halfO key (.slice A7 view.length n7) (.slice A8 added.length n8)))
  replace H6 := Aside0.mk (Kd.R_alloc H6.out (halfO key (.slice A7 view.length n7) (.slice A8 added.length n8)))
  replace H7 := Aside0.mk (Kd.R_alloc H7.out (halfO key (.slice A7 view.length n7) (.slice A8 added.length n8)))
  replace H8 := Aside0.mk (Kd.R_alloc H8.out (halfO key (.slice A7 view.length n7) (.slice A8 added.length n8)))
  replace I5 := Aside0.mk (I5.out.below (below_al w11 (halfO key (.slice A7 view.length n7) (.slice A8 added.length n8))))
  replace I6 := Aside0.mk (I6.out.below (below_al w11 (halfO key (.slice A7 view.length n7) (.slice A8 added.length n8))))
  obtain ⟨q, hq⟩ : ∃ q, q = w11.heap.size := ⟨_, rfl⟩
  rw [← hq] at D NB NP NQ
  have EQ := Aside0.mk hq
  clear hq
  go_upto_region 4 with fail
  change Code.wp _ _ _ _ (w11.alloc (halfO key (.slice A7 view.length n7) (.slice A8 added.length n8)))
  rw [← EQ.out]
  generalize w11.alloc (halfO key (.slice A7 view.length n7) (.slice A8 added.length n8)) = w12 at P Q B D H1 H2 H3 H4 H5 H6 H7 H8 I5 I6 ⊢
  by_cases h2 : how = 2
  · subst h2
    obtain ⟨x0, x1, x2, x3, x4, x5, x6, x7, x8, x9, x10⟩ := heldR P.out
    have f3 := blk_frozen P.out 3
    have f4 := blk_frozen P.out 4
    have f5 := blk_frozen P.out 5
    go_upto_region 10 with fail
    clear x0 x1 x2 x3 x4 x5 x6 x7 x8 x9 x10 f3 f4 f5
    obtain ⟨w13, hW⟩ : ∃ W, W = (((w12.setCell ⟨p, 3, none⟩ (.int .u32 g.k1)).setCell ⟨p, 4, none⟩ (.slice A1 g.v1.length n1)).setCell ⟨p, 5, none⟩ (.slice A2 g.c1.length n2)) := ⟨_, rfl⟩
    rw [show (((w12.setCell ⟨p, 3, none⟩ (.int .u32 g.k1)).setCell ⟨p, 4, none⟩ (.slice A1 g.v1.length n1)).setCell ⟨p, 5, none⟩ (.slice A2 g.c1.length n2)) = w13 from hW.symm]
    replace H1 := Aside0.mk (show RowR kS 111 w13 w.heap.size _ _ from by rw [hW]; exact put3_row H1.out P.out (by decide) 3 (.int .u32 g.k1) (.slice A1 g.v1.length n1) (.slice A2 g.c1.length n2))
    replace H2 := Aside0.mk (show RowR kC 114 w13 w.heap.size _ _ from by rw [hW]; exact put3_row H2.out P.out (by decide) 3 (.int .u32 g.k1) (.slice A1 g.v1.length n1) (.slice A2 g.c1.length n2))
    replace H7 := Aside0.mk (show RowR kS 111 w13 w.heap.size _ _ from by rw [hW]; exact put3_row H7.out P.out (by decide) 3 (.int .u32 g.k1) (.slice A1 g.v1.length n1) (.slice A2 g.c1.length n2))
    replace H8 := Aside0.mk (show RowR kC 114 w13 w.heap.size _ _ from by rw [hW]; exact put3_row H8.out P.out (by decide) 3 (.int .u32 g.k1) (.slice A1 g.v1.length n1) (.slice A2 g.c1.length n2))
    replace B := Aside0.mk (show Below w.heap.size w w13 from by rw [hW]; exact put3_below B.out (r := p) (by have := EP.out; omega) 3 (.int .u32 g.k1) (.slice A1 g.v1.length n1) (.slice A2 g.c1.length n2))
    replace Q := Aside0.mk (show w13.heap[p + 1]? = some (Z) from by rw [hW]; exact put3_far Q.out (show p + 1 ≠ p from by omega) 3 (.int .u32 g.k1) (.slice A1 g.v1.length n1) (.slice A2 g.c1.length n2))
    replace D := Aside0.mk (show w13.heap[q]? = some (halfO key (.slice A7 view.length n7) (.slice A8 added.length n8)) from by rw [hW]; exact put3_far D.out NP.out.symm 3 (.int .u32 g.k1) (.slice A1 g.v1.length n1) (.slice A2 g.c1.length n2))
    replace P := Aside0.mk (show w13.heap[p]? = some (rawO g.k1 (.slice A1 g.v1.length n1) (.slice A2 g.c1.length n2) g.k1 (.slice A1 g.v1.length n1) (.slice A2 g.c1.length n2) (.slice A5 g.rq.length n5) (.slice A6 g.rp.length n6) g.ls g.su g.wi) from by rw [hW]; exact put3_3 P.out g.k1 (.slice A1 g.v1.length n1) (.slice A2 g.c1.length n2))
    clear hW
    clear H3 H4 H5 H6 I5 I6
    replace P := Aside0.mk (blk_drew1 P.out)
    replace Q := Aside0.mk (blk_drew1 Q.out)
    replace D := Aside0.mk (blk_drew1 D.out)
    replace B := Aside0.mk (below_drew1 B.out)
    replace H1 := Aside0.mk (Kd.R_drew H1.out)
    replace H2 := Aside0.mk (Kd.R_drew H2.out)
    replace H7 := Aside0.mk (Kd.R_drew H7.out)
    replace H8 := Aside0.mk (Kd.R_drew H8.out)
    refine start_ (n := 11) (S := fun w' => w'.cell? ⟨q, 0, none⟩ = some (.int .u32 key) ∧ w'.cell? ⟨q, 1, none⟩ = some (.slice A7 view.length n7) ∧ w'.cell? ⟨q, 2, none⟩ = some (.slice A8 added.length n8)) (ds := []) #[false, false, false, false, false, false, false, false, false, false, false] (by kernel_rfl) rfl rfl ⟨blk_cell D.out 0, blk_cell D.out 1, blk_cell D.out 2⟩ (fun hHeld => ?_)
    generalize w13.drew = w13 at P Q D B H1 H2 H7 H8 hHeld ⊢
    refine pure_ (i := 1) (N := some 55) (v := ?_) (a' := ?_) #[false, true, false, false, false, false, false, false, false, false, false] rfl rfl (by kernel_rfl) (fun _ _ _ h => h) (Or.inl ⟨by rfl, ?_⟩) ?_ ?_
    rotate_left
    · intro w'
      go_simp
      with_reducible rfl
    rotate_left
    · simp only [Act.put, List.setIfInBounds_toArray, List.set_cons_zero, List.set_cons_succ, i64_w, i32_w]
      rfl
    refine pure_ (i := 3) (N := some 57) (v := ?_) (a' := ?_) #[false, true, false, true, false, false, false, false, false, false, false] rfl rfl (by kernel_rfl) (fun _ _ _ h => h) (Or.inl ⟨by rfl, ?_⟩) ?_ ?_
    rotate_left
    · intro w'
      go_simp
      with_reducible rfl
    rotate_left
    · simp only [Act.put, List.setIfInBounds_toArray, List.set_cons_zero, List.set_cons_succ, i64_w, i32_w]
      rfl
    refine take_ (i := 0) (N := some 54) (v := ?_) (a' := ?_) #[true, true, false, true, false, false, false, false, false, false, false] rfl rfl (by kernel_rfl) (fun _ _ _ h => h) (Or.inl ⟨by rfl, ?_⟩) hHeld ?_ ?_
    rotate_left
    · rintro w' ⟨s_0, s_1, s_2⟩
      go_simp
      with_reducible rfl
    rotate_left
    · simp only [Act.put, List.setIfInBounds_toArray, List.set_cons_zero, List.set_cons_succ, i64_w, i32_w]
      rfl
    refine pure_ (i := 5) (N := some 59) (v := ?_) (a' := ?_) #[true, true, false, true, false, true, false, false, false, false, false] rfl rfl (by kernel_rfl) (fun _ _ _ h => h) (Or.inl ⟨by rfl, ?_⟩) ?_ ?_
    rotate_left
    · intro w'
      go_simp
      with_reducible rfl
    rotate_left
    · simp only [Act.put, List.setIfInBounds_toArray, List.set_cons_zero, List.set_cons_succ, i64_w, i32_w]
      rfl
    refine one_ (i := 2) (N := some 56) #[true, true, true, true, false, true, false, false, false, false, false] rfl rfl (by kernel_rfl) (by decide) (fun K hK => ?_)
    refine goes_ Try.func81 (by kernel_rfl) rfl #[sq] (by rfl) rfl rfl (by (try simp only [List.map_toArray, List.map_cons, List.map_nil]); first | done | rfl) ?_
    with_reducible refine (cloneI (RC.out.below B.out) (Nat.le_trans LQ.out (by decide))).mono ?_
    rintro e waa ⟨t10, rfl, h10, i10, hb⟩
    have I10 := Aside0.mk i10
    have H10 := Aside0.mk (Kd.R_lower h10 B.out.size)
    replace P := Aside0.mk (blk_kept P.out hb)
    replace Q := Aside0.mk (blk_kept Q.out hb)
    replace H1 := Aside0.mk (Kd.R_below H1.out hb)
    replace H2 := Aside0.mk (Kd.R_below H2.out hb)
    replace H7 := Aside0.mk (Kd.R_below H7.out hb)
    replace H8 := Aside0.mk (Kd.R_below H8.out hb)
    replace D := Aside0.mk (blk_kept D.out hb)
    replace B := Aside0.mk (below_then B.out B.out.size hb)
    clear hb h10 i10
    obtain ⟨A10, n10, rfl⟩ := Kd.R_slice H10.out
    refine ⟨_, rfl, ?_⟩
    refine hK.out _ _ ⟨blk_cell D.out 0, blk_cell D.out 1, blk_cell D.out 2⟩ (fun hHeld => ?_)
    clear hK K
    refine norm_ (a' := ?_) ?_ ?_
    rotate_left
    · show Act.put _ (some 56) _ = _
      simp only [Act.put, List.setIfInBounds_toArray, List.set_cons_zero, List.set_cons_succ, i64_w, i32_w]
      rfl
    refine one_ (i := 4) (N := some 58) #[true, true, true, true, true, true, false, false, false, false, false] rfl rfl (by kernel_rfl) (by decide) (fun K hK => ?_)
    refine goes_ Try.func81 (by kernel_rfl) rfl #[sp] (by rfl) rfl rfl (by (try simp only [List.map_toArray, List.map_cons, List.map_nil]); first | done | rfl) ?_
    with_reducible refine (cloneI (TC.out.below B.out) (Nat.le_trans LP.out (by decide))).mono ?_
    rintro e wab ⟨t11, rfl, h11, i11, hb⟩
    have I11 := Aside0.mk i11
    have H11 := Aside0.mk (Kd.R_lower h11 B.out.size)
    replace P := Aside0.mk (blk_kept P.out hb)
    replace Q := Aside0.mk (blk_kept Q.out hb)
    replace H1 := Aside0.mk (Kd.R_below H1.out hb)
    replace H2 := Aside0.mk (Kd.R_below H2.out hb)
    replace H7 := Aside0.mk (Kd.R_below H7.out hb)
    replace H8 := Aside0.mk (Kd.R_below H8.out hb)
    replace H10 := Aside0.mk (Kd.R_below H10.out hb)
    replace I10 := Aside0.mk (I10.out.below hb)
    replace D := Aside0.mk (blk_kept D.out hb)
    replace B := Aside0.mk (below_then B.out B.out.size hb)
    clear hb h11 i11
    obtain ⟨A11, n11, rfl⟩ := Kd.R_slice H11.out
    refine ⟨_, rfl, ?_⟩
    refine hK.out _ _ ⟨blk_cell D.out 0, blk_cell D.out 1, blk_cell D.out 2⟩ (fun hHeld => ?_)
    clear hK K
    refine norm_ (a' := ?_) ?_ ?_
    rotate_left
    · show Act.put _ (some 58) _ = _
      simp only [Act.put, List.setIfInBounds_toArray, List.set_cons_zero, List.set_cons_succ, i64_w, i32_w]
      rfl
    refine one_ (i := 6) (N := none) #[true, true, true, true, true, true, true, false, false, false, false] rfl rfl (by kernel_rfl) (by decide) (fun K hK => ?_)
    have d0 := blk_cell P.out 0
    have d1 := blk_cell P.out 1
    have d2 := blk_cell P.out 2
    have fd0 := blk_frozen P.out 0
    have fd1 := blk_frozen P.out 1
    have fd2 := blk_frozen P.out 2
    simp only [List.getElem?_toArray, List.getElem?_cons_zero, List.getElem?_cons_succ] at d0 d1 d2
    refine skip_ (w1 := ?_) (by rfl) rfl ?_ ?_
    rotate_left
    · go_simp
      rfl
    refine hK.out _ _ (show _ ∧ _ ∧ _ from ⟨blk_cell (put3_far D.out NP.out.symm 0 (.int .u32 key) (.slice A7 view.length n7) (.slice A8 added.length n8)) 0, blk_cell (put3_far D.out NP.out.symm 0 (.int .u32 key) (.slice A7 view.length n7) (.slice A8 added.length n8)) 1, blk_cell (put3_far D.out NP.out.symm 0 (.int .u32 key) (.slice A7 view.length n7) (.slice A8 added.length n8)) 2⟩) (fun hHeld => ?_)
    clear hK K
    clear d0 fd0 d1 fd1 d2 fd2
    obtain ⟨wac, hW⟩ : ∃ W, W = (((wab.setCell ⟨p, 0, none⟩ (.int .u32 key)).setCell ⟨p, 1, none⟩ (.slice A7 view.length n7)).setCell ⟨p, 2, none⟩ (.slice A8 added.length n8)) := ⟨_, rfl⟩
    rw [show (((wab.setCell ⟨p, 0, none⟩ (.int .u32 key)).setCell ⟨p, 1, none⟩ (.slice A7 view.length n7)).setCell ⟨p, 2, none⟩ (.slice A8 added.length n8)) = wac from hW.symm]
    replace H1 := Aside0.mk (show RowR kS 111 wac w.heap.size _ _ from by rw [hW]; exact put3_row H1.out P.out (by decide) 0 (.int .u32 key) (.slice A7 view.length n7) (.slice A8 added.length n8))
    replace H2 := Aside0.mk (show RowR kC 114 wac w.heap.size _ _ from by rw [hW]; exact put3_row H2.out P.out (by decide) 0 (.int .u32 key) (.slice A7 view.length n7) (.slice A8 added.length n8))
    replace H7 := Aside0.mk (show RowR kS 111 wac w.heap.size _ _ from by rw [hW]; exact put3_row H7.out P.out (by decide) 0 (.int .u32 key) (.slice A7 view.length n7) (.slice A8 added.length n8))
    replace H8 := Aside0.mk (show RowR kC 114 wac w.heap.size _ _ from by rw [hW]; exact put3_row H8.out P.out (by decide) 0 (.int .u32 key) (.slice A7 view.length n7) (.slice A8 added.length n8))
    replace H10 := Aside0.mk (show RowR kB 5 wac w.heap.size _ _ from by rw [hW]; exact put3_row H10.out P.out (by decide) 0 (.int .u32 key) (.slice A7 view.length n7) (.slice A8 added.length n8))
    replace H11 := Aside0.mk (show RowR kB 5 wac w.heap.size _ _ from by rw [hW]; exact put3_row H11.out P.out (by decide) 0 (.int .u32 key) (.slice A7 view.length n7) (.slice A8 added.length n8))
    replace I10 := Aside0.mk (show IntsV wac _ from by rw [hW]; exact put3_ints I10.out P.out (by decide) 0 (.int .u32 key) (.slice A7 view.length n7) (.slice A8 added.length n8))
    replace I11 := Aside0.mk (show IntsV wac _ from by rw [hW]; exact put3_ints I11.out P.out (by decide) 0 (.int .u32 key) (.slice A7 view.length n7) (.slice A8 added.length n8))
    replace B := Aside0.mk (show Below w.heap.size w wac from by rw [hW]; exact put3_below B.out (r := p) (by have := EP.out; omega) 0 (.int .u32 key) (.slice A7 view.length n7) (.slice A8 added.length n8))
    replace Q := Aside0.mk (show wac.heap[p + 1]? = some (Z) from by rw [hW]; exact put3_far Q.out (show p + 1 ≠ p from by omega) 0 (.int .u32 key) (.slice A7 view.length n7) (.slice A8 added.length n8))
    replace D := Aside0.mk (show wac.heap[q]? = some (halfO key (.slice A7 view.length n7) (.slice A8 added.length n8)) from by rw [hW]; exact put3_far D.out NP.out.symm 0 (.int .u32 key) (.slice A7 view.length n7) (.slice A8 added.length n8))
    replace P := Aside0.mk (show wac.heap[p]? = some (rawO key (.slice A7 view.length n7) (.slice A8 added.length n8) g.k1 (.slice A1 g.v1.length n1) (.slice A2 g.c1.length n2) (.slice A5 g.rq.length n5) (.slice A6 g.rp.length n6) g.ls g.su g.wi) from by rw [hW]; exact put3_0 P.out key (.slice A7 view.length n7) (.slice A8 added.length n8))
    clear hW
    refine pure_ (i := 7) (N := some 60) (v := ?_) (a' := ?_) #[true, true, true, true, true, true, true, true, false, false, false] rfl rfl (by kernel_rfl) (fun _ _ _ h => h) (Or.inl ⟨by rfl, ?_⟩) ?_ ?_
    rotate_left
    · intro w'
      go_simp
      with_reducible rfl
    rotate_left
    · simp only [Act.put, List.setIfInBounds_toArray, List.set_cons_zero, List.set_cons_succ, i64_w, i32_w]
      rfl
    refine one_ (i := 8) (N := none) #[true, true, true, true, true, true, true, true, true, false, false] rfl rfl (by kernel_rfl) (by decide) (fun K hK => ?_)
    have d6 := blk_cell P.out 6
    have fd6 := blk_frozen P.out 6
    simp only [List.getElem?_toArray, List.getElem?_cons_zero, List.getElem?_cons_succ] at d6
    refine skip_ (w1 := ?_) (by rfl) rfl ?_ ?_
    rotate_left
    · go_simp
      rfl
    refine hK.out _ _ (show _ ∧ _ ∧ _ from ⟨blk_cell (set_far D.out NP.out.symm 6 (.slice A10 rq.length n10)) 0, blk_cell (set_far D.out NP.out.symm 6 (.slice A10 rq.length n10)) 1, blk_cell (set_far D.out NP.out.symm 6 (.slice A10 rq.length n10)) 2⟩) (fun hHeld => ?_)
    clear hK K
    clear d6 fd6
    obtain ⟨wad, hW⟩ : ∃ W, W = (wac.setCell ⟨p, 6, none⟩ (.slice A10 rq.length n10)) := ⟨_, rfl⟩
    rw [show (wac.setCell ⟨p, 6, none⟩ (.slice A10 rq.length n10)) = wad from hW.symm]
    replace H1 := Aside0.mk (show RowR kS 111 wad w.heap.size _ _ from by rw [hW]; exact row_set H1.out P.out (by decide) 6 (.slice A10 rq.length n10))
    replace H2 := Aside0.mk (show RowR kC 114 wad w.heap.size _ _ from by rw [hW]; exact row_set H2.out P.out (by decide) 6 (.slice A10 rq.length n10))
    replace H7 := Aside0.mk (show RowR kS 111 wad w.heap.size _ _ from by rw [hW]; exact row_set H7.out P.out (by decide) 6 (.slice A10 rq.length n10))
    replace H8 := Aside0.mk (show RowR kC 114 wad w.heap.size _ _ from by rw [hW]; exact row_set H8.out P.out (by decide) 6 (.slice A10 rq.length n10))
    replace H10 := Aside0.mk (show RowR kB 5 wad w.heap.size _ _ from by rw [hW]; exact row_set H10.out P.out (by decide) 6 (.slice A10 rq.length n10))
    replace H11 := Aside0.mk (show RowR kB 5 wad w.heap.size _ _ from by rw [hW]; exact row_set H11.out P.out (by decide) 6 (.slice A10 rq.length n10))
    replace I10 := Aside0.mk (show IntsV wad _ from by rw [hW]; exact set_ints I10.out P.out (by decide) 6 (.slice A10 rq.length n10))
    replace I11 := Aside0.mk (show IntsV wad _ from by rw [hW]; exact set_ints I11.out P.out (by decide) 6 (.slice A10 rq.length n10))
    replace B := Aside0.mk (show Below w.heap.size w wad from by rw [hW]; exact set_below B.out (r := p) (by have := EP.out; omega) 6 (.slice A10 rq.length n10))
    replace Q := Aside0.mk (show wad.heap[p + 1]? = some (Z) from by rw [hW]; exact set_far Q.out (show p + 1 ≠ p from by omega) 6 (.slice A10 rq.length n10))
    replace D := Aside0.mk (show wad.heap[q]? = some (halfO key (.slice A7 view.length n7) (.slice A8 added.length n8)) from by rw [hW]; exact set_far D.out NP.out.symm 6 (.slice A10 rq.length n10))
    replace P := Aside0.mk (show wad.heap[p]? = some (rawO key (.slice A7 view.length n7) (.slice A8 added.length n8) g.k1 (.slice A1 g.v1.length n1) (.slice A2 g.c1.length n2) (.slice A10 rq.length n10) (.slice A6 g.rp.length n6) g.ls g.su g.wi) from by rw [hW]; exact put1_6 P.out (.slice A10 rq.length n10))
    clear hW
    refine pure_ (i := 9) (N := some 61) (v := ?_) (a' := ?_) #[true, true, true, true, true, true, true, true, true, true, false] rfl rfl (by kernel_rfl) (fun _ _ _ h => h) (Or.inl ⟨by rfl, ?_⟩) ?_ ?_
    rotate_left
    · intro w'
      go_simp
      with_reducible rfl
    rotate_left
    · simp only [Act.put, List.setIfInBounds_toArray, List.set_cons_zero, List.set_cons_succ, i64_w, i32_w]
      rfl
    refine one_ (i := 10) (N := none) #[true, true, true, true, true, true, true, true, true, true, true] rfl rfl (by kernel_rfl) (by decide) (fun K hK => ?_)
    have d7 := blk_cell P.out 7
    have fd7 := blk_frozen P.out 7
    simp only [List.getElem?_toArray, List.getElem?_cons_zero, List.getElem?_cons_succ] at d7
    refine skip_ (w1 := ?_) (by rfl) rfl ?_ ?_
    rotate_left
    · go_simp
      rfl
    refine hK.out _ _ (show _ ∧ _ ∧ _ from ⟨blk_cell (set_far D.out NP.out.symm 7 (.slice A11 rp.length n11)) 0, blk_cell (set_far D.out NP.out.symm 7 (.slice A11 rp.length n11)) 1, blk_cell (set_far D.out NP.out.symm 7 (.slice A11 rp.length n11)) 2⟩) (fun hHeld => ?_)
    clear hK K
    clear d7 fd7
    obtain ⟨wae, hW⟩ : ∃ W, W = (wad.setCell ⟨p, 7, none⟩ (.slice A11 rp.length n11)) := ⟨_, rfl⟩
    rw [show (wad.setCell ⟨p, 7, none⟩ (.slice A11 rp.length n11)) = wae from hW.symm]
    replace H1 := Aside0.mk (show RowR kS 111 wae w.heap.size _ _ from by rw [hW]; exact row_set H1.out P.out (by decide) 7 (.slice A11 rp.length n11))
    replace H2 := Aside0.mk (show RowR kC 114 wae w.heap.size _ _ from by rw [hW]; exact row_set H2.out P.out (by decide) 7 (.slice A11 rp.length n11))
    replace H7 := Aside0.mk (show RowR kS 111 wae w.heap.size _ _ from by rw [hW]; exact row_set H7.out P.out (by decide) 7 (.slice A11 rp.length n11))
    replace H8 := Aside0.mk (show RowR kC 114 wae w.heap.size _ _ from by rw [hW]; exact row_set H8.out P.out (by decide) 7 (.slice A11 rp.length n11))
    replace H10 := Aside0.mk (show RowR kB 5 wae w.heap.size _ _ from by rw [hW]; exact row_set H10.out P.out (by decide) 7 (.slice A11 rp.length n11))
    replace H11 := Aside0.mk (show RowR kB 5 wae w.heap.size _ _ from by rw [hW]; exact row_set H11.out P.out (by decide) 7 (.slice A11 rp.length n11))
    replace I10 := Aside0.mk (show IntsV wae _ from by rw [hW]; exact set_ints I10.out P.out (by decide) 7 (.slice A11 rp.length n11))
    replace I11 := Aside0.mk (show IntsV wae _ from by rw [hW]; exact set_ints I11.out P.out (by decide) 7 (.slice A11 rp.length n11))
    replace B := Aside0.mk (show Below w.heap.size w wae from by rw [hW]; exact set_below B.out (r := p) (by have := EP.out; omega) 7 (.slice A11 rp.length n11))
    replace Q := Aside0.mk (show wae.heap[p + 1]? = some (Z) from by rw [hW]; exact set_far Q.out (show p + 1 ≠ p from by omega) 7 (.slice A11 rp.length n11))
    replace D := Aside0.mk (show wae.heap[q]? = some (halfO key (.slice A7 view.length n7) (.slice A8 added.length n8)) from by rw [hW]; exact set_far D.out NP.out.symm 7 (.slice A11 rp.length n11))
    replace P := Aside0.mk (show wae.heap[p]? = some (rawO key (.slice A7 view.length n7) (.slice A8 added.length n8) g.k1 (.slice A1 g.v1.length n1) (.slice A2 g.c1.length n2) (.slice A10 rq.length n10) (.slice A11 rp.length n11) g.ls g.su g.wi) from by rw [hW]; exact put1_7 P.out (.slice A11 rp.length n11))
    clear hW
    refine done_ (by kernel_rfl) ?_
    have GR := Aside0.mk (show GenR wae w.heap.size (⟨key, view, added, g.k1, g.v1, g.c1, rq, rp, g.ls, g.su, g.wi⟩ : G) _ _ _ _ _ _ from ⟨H7.out, H8.out, H1.out, H2.out, H10.out, H11.out⟩)
    obtain ⟨x0, x1, x2, x3, x4, x5, x6, x7, x8, x9, x10⟩ := heldR P.out
    obtain ⟨z0, z1, z2, z3, z4, z5, z6, z7, z8, z9, z10⟩ := heldZ Q.out
    have f0 := blk_frozen Q.out 0
    have f1 := blk_frozen Q.out 1
    have f2 := blk_frozen Q.out 2
    have f3 := blk_frozen Q.out 3
    have f4 := blk_frozen Q.out 4
    have f5 := blk_frozen Q.out 5
    have f6 := blk_frozen Q.out 6
    have f7 := blk_frozen Q.out 7
    have f8 := blk_frozen Q.out 8
    have f9 := blk_frozen Q.out 9
    have f10 := blk_frozen Q.out 10
    go_wp2_with fail
    have BQ := Aside0.mk (put11_below B.out (r := (p + 1)) (by have := EP.out; omega) (.int .u32 key) (.slice A7 view.length n7) (.slice A8 added.length n8) (.int .u32 g.k1) (.slice A1 g.v1.length n1) (.slice A2 g.c1.length n2) (.slice A10 rq.length n10) (.slice A11 rp.length n11) (.bool g.ls) (.int .u8 g.su) (.int .u8 g.wi))
    have GQ := Aside0.mk (put11_rows GR.out Q.out (.int .u32 key) (.slice A7 view.length n7) (.slice A8 added.length n8) (.int .u32 g.k1) (.slice A1 g.v1.length n1) (.slice A2 g.c1.length n2) (.slice A10 rq.length n10) (.slice A11 rp.length n11) (.bool g.ls) (.int .u8 g.su) (.int .u8 g.wi))
    have IQ5 := Aside0.mk (put11_ints I10.out Q.out (.int .u32 key) (.slice A7 view.length n7) (.slice A8 added.length n8) (.int .u32 g.k1) (.slice A1 g.v1.length n1) (.slice A2 g.c1.length n2) (.slice A10 rq.length n10) (.slice A11 rp.length n11) (.bool g.ls) (.int .u8 g.su) (.int .u8 g.wi))
    have IQ6 := Aside0.mk (put11_ints I11.out Q.out (.int .u32 key) (.slice A7 view.length n7) (.slice A8 added.length n8) (.int .u32 g.k1) (.slice A1 g.v1.length n1) (.slice A2 g.c1.length n2) (.slice A10 rq.length n10) (.slice A11 rp.length n11) (.bool g.ls) (.int .u8 g.su) (.int .u8 g.wi))
    have DQ := put11_self (g := ⟨0, [], [], 0, [], [], [], [], false, 0, 0⟩) (g' := ((⟨key, view, added, g.k1, g.v1, g.c1, rq, rp, g.ls, g.su, g.wi⟩ : G))) Q.out (.slice A7 view.length n7) (.slice A8 added.length n8) (.slice A1 g.v1.length n1) (.slice A2 g.c1.length n2) (.slice A10 rq.length n10) (.slice A11 rp.length n11)
    obtain ⟨W9, hW9⟩ : ∃ W9, W9 = put11 wae (p + 1) (.int .u32 key) (.slice A7 view.length n7) (.slice A8 added.length n8) (.int .u32 g.k1) (.slice A1 g.v1.length n1) (.slice A2 g.c1.length n2) (.slice A10 rq.length n10) (.slice A11 rp.length n11) (.bool g.ls) (.int .u8 g.su) (.int .u8 g.wi) := ⟨_, rfl⟩
    change bodyPost _ _ _ _ _ (put11 wae (p + 1) (.int .u32 key) (.slice A7 view.length n7) (.slice A8 added.length n8) (.int .u32 g.k1) (.slice A1 g.v1.length n1) (.slice A2 g.c1.length n2) (.slice A10 rq.length n10) (.slice A11 rp.length n11) (.bool g.ls) (.int .u8 g.su) (.int .u8 g.wi))
    rw [← hW9] at BQ GQ DQ IQ5 IQ6 ⊢
    clear hW9 f0 z0 f1 z1 f2 z2 f3 z3 f4 z4 f5 z5 f6 z6 f7 z7 f8 z8 f9 z9 f10 z10
    obtain ⟨c0, c1, c2, c3, c4, c5, c6, c7, c8, c9, c10⟩ := heldG DQ
    exact bodyPost_ret (v := genV ((⟨key, view, added, g.k1, g.v1, g.c1, rq, rp, g.ls, g.su, g.wi⟩ : G)) (.slice A7 view.length n7) (.slice A8 added.length n8) (.slice A1 g.v1.length n1) (.slice A2 g.c1.length n2) (.slice A10 rq.length n10) (.slice A11 rp.length n11)) (by simp [results, Try.results62, go_sem, c0, c1, c2, c3, c4, c5, c6, c7, c8, c9, c10]) rfl ⟨_, _, _, _, _, _, rfl, GQ.out, IQ5.out, IQ6.out, BQ.out⟩
  · by_cases h4 : how = 4
    · subst h4
      obtain ⟨x0, x1, x2, x3, x4, x5, x6, x7, x8, x9, x10⟩ := heldR P.out
      clear h2
      obtain ⟨m, hm⟩ : ∃ m, m = g.c1 ++ added := ⟨_, rfl⟩
      have HM := Aside0.mk hm
      have e := Aside0.mk (show nextP 4 key view added rq rp g = (⟨key, view, m, g.k2, g.v2, g.c2, rq, rp, g.ls, g.su, g.wi⟩ : G) from by rw [hm]; rfl)
      clear hm
      go_wp2_with fail
      refine (cloneC (RowC.of H2.out) (Nat.le_trans hL.out.h2 (by decide))).mono ?_
      rintro e w13 ⟨t9, rfl, h9, hb⟩
      have H9 := Aside0.mk h9
      have B9 := Aside0.mk hb
      clear h9 hb x0 x1 x2 x3 x4 x5 x6 x7 x8 x9 x10
      obtain ⟨A9, n9, rfl⟩ := Kd.R_slice H9.out
      go_upto_region 10 with (first | ((with_reducible refine gate_builtin (b := .append) (xs := #[.tmp 50, .tmp 51]) rfl ?_); at_builtin; refine Kd.R_append_rows kC (w0 := w12) w12.heap.size rfl (.tmp 50) (.tmp 51) 54 114 (.agg #[(.int .u32 0), (.int .u32 0), (.int .u64 0)]) 16 rfl Try.underlying54 info114 rfl (by decide) (by omega) (.slice A9 g.c1.length n9) g.c1 added _ _ _ (fun _ => True) (fun _ => False) rfl rfl ?aO ?aR (fun _ _ h => h) (fun _ h => h.elim) (fun _ _ => trivial) ?aB ?aS ?aL ?_; (case aR => exact Kd.C_below CA.out (below_then B.out B.out.size B9.out)); (case aB => exact B9.out); (case aO => exact H9.out); (case aS => exact B9.out.size); (case aL => have := hL.out.h2; have := LA.out; omega); intro v14 w14 ho14 hb14 hg14 hat14; rw [← HM.out] at ho14; have H9' := Aside0.mk (Kd.R_lower ho14 B.out.size); have B14 := Aside0.mk hb14; clear ho14 hb14 hg14 hat14 H9; obtain ⟨A12, n12, rfl⟩ := Kd.R_slice H9'.out; have e2 := blk_cell (blk_kept D.out B14.out) 2; have f2 := blk_frozen (blk_kept D.out B14.out) 2; simp only [List.getElem?_toArray, List.getElem?_cons_zero, List.getElem?_cons_succ] at e2))
      clear e2 f2
      replace P := Aside0.mk (blk_kept P.out B14.out)
      replace Q := Aside0.mk (blk_kept Q.out B14.out)
      replace D := Aside0.mk (blk_kept D.out B14.out)
      replace B := Aside0.mk (below_then B.out B.out.size B14.out)
      replace H3 := Aside0.mk (Kd.R_below H3.out B14.out)
      replace H4 := Aside0.mk (Kd.R_below H4.out B14.out)
      replace H7 := Aside0.mk (Kd.R_below H7.out B14.out)
      have H9 := H9'
      clear H1 H2 H5 H6 I5 I6 H8 H9' B14 B9
      obtain ⟨w15, hW⟩ : ∃ W, W = (w14.setCell ⟨q, 2, none⟩ (.slice A12 m.length n12)) := ⟨_, rfl⟩
      rw [show (w14.setCell ⟨q, 2, none⟩ (.slice A12 m.length n12)) = w15 from hW.symm]
      replace H3 := Aside0.mk (show RowR kS 111 w15 w.heap.size _ _ from by rw [hW]; exact row_set H3.out D.out (by decide) 2 (.slice A12 m.length n12))
      replace H4 := Aside0.mk (show RowR kC 114 w15 w.heap.size _ _ from by rw [hW]; exact row_set H4.out D.out (by decide) 2 (.slice A12 m.length n12))
      replace H7 := Aside0.mk (show RowR kS 111 w15 w.heap.size _ _ from by rw [hW]; exact row_set H7.out D.out (by decide) 2 (.slice A12 m.length n12))
      replace H9 := Aside0.mk (show RowR kC 114 w15 w.heap.size _ _ from by rw [hW]; exact row_set H9.out D.out (by decide) 2 (.slice A12 m.length n12))
      replace B := Aside0.mk (show Below w.heap.size w w15 from by rw [hW]; exact set_below B.out (r := q) (NB.out) 2 (.slice A12 m.length n12))
      replace Q := Aside0.mk (show w15.heap[p + 1]? = some (Z) from by rw [hW]; exact set_far Q.out NQ.out 2 (.slice A12 m.length n12))
      replace P := Aside0.mk (show w15.heap[p]? = some (rawO g.k1 (.slice A1 g.v1.length n1) (.slice A2 g.c1.length n2) g.k2 (.slice A3 g.v2.length n3) (.slice A4 g.c2.length n4) (.slice A5 g.rq.length n5) (.slice A6 g.rp.length n6) g.ls g.su g.wi) from by rw [hW]; exact set_far P.out NP.out 2 (.slice A12 m.length n12))
      replace D := Aside0.mk (show w15.heap[q]? = some (halfO key (.slice A7 view.length n7) (.slice A12 m.length n12)) from by rw [hW]; exact half_2 D.out (.slice A12 m.length n12))
      clear hW
      replace P := Aside0.mk (blk_drew1 P.out)
      replace Q := Aside0.mk (blk_drew1 Q.out)
      replace D := Aside0.mk (blk_drew1 D.out)
      replace B := Aside0.mk (below_drew1 B.out)
      replace H3 := Aside0.mk (Kd.R_drew H3.out)
      replace H4 := Aside0.mk (Kd.R_drew H4.out)
      replace H7 := Aside0.mk (Kd.R_drew H7.out)
      replace H9 := Aside0.mk (Kd.R_drew H9.out)
      refine start_ (n := 11) (S := fun w' => w'.cell? ⟨q, 0, none⟩ = some (.int .u32 key) ∧ w'.cell? ⟨q, 1, none⟩ = some (.slice A7 view.length n7) ∧ w'.cell? ⟨q, 2, none⟩ = some (.slice A12 m.length n12)) (ds := []) #[false, false, false, false, false, false, false, false, false, false, false] (by kernel_rfl) rfl rfl ⟨blk_cell D.out 0, blk_cell D.out 1, blk_cell D.out 2⟩ (fun hHeld => ?_)
      generalize w15.drew = w15 at P Q D B H3 H4 H7 H9 hHeld ⊢
      refine pure_ (i := 1) (N := some 55) (v := ?_) (a' := ?_) #[false, true, false, false, false, false, false, false, false, false, false] rfl rfl (by kernel_rfl) (fun _ _ _ h => h) (Or.inl ⟨by rfl, ?_⟩) ?_ ?_
      rotate_left
      · intro w'
        go_simp
        with_reducible rfl
      rotate_left
      · simp only [Act.put, List.setIfInBounds_toArray, List.set_cons_zero, List.set_cons_succ, i64_w, i32_w]
        rfl
      refine pure_ (i := 3) (N := some 57) (v := ?_) (a' := ?_) #[false, true, false, true, false, false, false, false, false, false, false] rfl rfl (by kernel_rfl) (fun _ _ _ h => h) (Or.inl ⟨by rfl, ?_⟩) ?_ ?_
      rotate_left
      · intro w'
        go_simp
        with_reducible rfl
      rotate_left
      · simp only [Act.put, List.setIfInBounds_toArray, List.set_cons_zero, List.set_cons_succ, i64_w, i32_w]
        rfl
      refine take_ (i := 0) (N := some 54) (v := ?_) (a' := ?_) #[true, true, false, true, false, false, false, false, false, false, false] rfl rfl (by kernel_rfl) (fun _ _ _ h => h) (Or.inl ⟨by rfl, ?_⟩) hHeld ?_ ?_
      rotate_left
      · rintro w' ⟨s_0, s_1, s_2⟩
        go_simp
        with_reducible rfl
      rotate_left
      · simp only [Act.put, List.setIfInBounds_toArray, List.set_cons_zero, List.set_cons_succ, i64_w, i32_w]
        rfl
      refine pure_ (i := 5) (N := some 59) (v := ?_) (a' := ?_) #[true, true, false, true, false, true, false, false, false, false, false] rfl rfl (by kernel_rfl) (fun _ _ _ h => h) (Or.inl ⟨by rfl, ?_⟩) ?_ ?_
      rotate_left
      · intro w'
        go_simp
        with_reducible rfl
      rotate_left
      · simp only [Act.put, List.setIfInBounds_toArray, List.set_cons_zero, List.set_cons_succ, i64_w, i32_w]
        rfl
      refine one_ (i := 2) (N := some 56) #[true, true, true, true, false, true, false, false, false, false, false] rfl rfl (by kernel_rfl) (by decide) (fun K hK => ?_)
      refine goes_ Try.func81 (by kernel_rfl) rfl #[sq] (by rfl) rfl rfl (by (try simp only [List.map_toArray, List.map_cons, List.map_nil]); first | done | rfl) ?_
      with_reducible refine (cloneI (RC.out.below B.out) (Nat.le_trans LQ.out (by decide))).mono ?_
      rintro e wba ⟨t10, rfl, h10, i10, hb⟩
      have I10 := Aside0.mk i10
      have H10 := Aside0.mk (Kd.R_lower h10 B.out.size)
      replace P := Aside0.mk (blk_kept P.out hb)
      replace Q := Aside0.mk (blk_kept Q.out hb)
      replace H3 := Aside0.mk (Kd.R_below H3.out hb)
      replace H4 := Aside0.mk (Kd.R_below H4.out hb)
      replace H7 := Aside0.mk (Kd.R_below H7.out hb)
      replace H9 := Aside0.mk (Kd.R_below H9.out hb)
      replace D := Aside0.mk (blk_kept D.out hb)
      replace B := Aside0.mk (below_then B.out B.out.size hb)
      clear hb h10 i10
      obtain ⟨A10, n10, rfl⟩ := Kd.R_slice H10.out
      refine ⟨_, rfl, ?_⟩
      refine hK.out _ _ ⟨blk_cell D.out 0, blk_cell D.out 1, blk_cell D.out 2⟩ (fun hHeld => ?_)
      clear hK K
      refine norm_ (a' := ?_) ?_ ?_
      rotate_left
      · show Act.put _ (some 56) _ = _
        simp only [Act.put, List.setIfInBounds_toArray, List.set_cons_zero, List.set_cons_succ, i64_w, i32_w]
        rfl
      refine one_ (i := 4) (N := some 58) #[true, true, true, true, true, true, false, false, false, false, false] rfl rfl (by kernel_rfl) (by decide) (fun K hK => ?_)
      refine goes_ Try.func81 (by kernel_rfl) rfl #[sp] (by rfl) rfl rfl (by (try simp only [List.map_toArray, List.map_cons, List.map_nil]); first | done | rfl) ?_
      with_reducible refine (cloneI (TC.out.below B.out) (Nat.le_trans LP.out (by decide))).mono ?_
      rintro e wbb ⟨t11, rfl, h11, i11, hb⟩
      have I11 := Aside0.mk i11
      have H11 := Aside0.mk (Kd.R_lower h11 B.out.size)
      replace P := Aside0.mk (blk_kept P.out hb)
      replace Q := Aside0.mk (blk_kept Q.out hb)
      replace H3 := Aside0.mk (Kd.R_below H3.out hb)
      replace H4 := Aside0.mk (Kd.R_below H4.out hb)
      replace H7 := Aside0.mk (Kd.R_below H7.out hb)
      replace H9 := Aside0.mk (Kd.R_below H9.out hb)
      replace H10 := Aside0.mk (Kd.R_below H10.out hb)
      replace I10 := Aside0.mk (I10.out.below hb)
      replace D := Aside0.mk (blk_kept D.out hb)
      replace B := Aside0.mk (below_then B.out B.out.size hb)
      clear hb h11 i11
      obtain ⟨A11, n11, rfl⟩ := Kd.R_slice H11.out
      refine ⟨_, rfl, ?_⟩
      refine hK.out _ _ ⟨blk_cell D.out 0, blk_cell D.out 1, blk_cell D.out 2⟩ (fun hHeld => ?_)
      clear hK K
      refine norm_ (a' := ?_) ?_ ?_
      rotate_left
      · show Act.put _ (some 58) _ = _
        simp only [Act.put, List.setIfInBounds_toArray, List.set_cons_zero, List.set_cons_succ, i64_w, i32_w]
        rfl
      refine one_ (i := 6) (N := none) #[true, true, true, true, true, true, true, false, false, false, false] rfl rfl (by kernel_rfl) (by decide) (fun K hK => ?_)
      have d0 := blk_cell P.out 0
      have d1 := blk_cell P.out 1
      have d2 := blk_cell P.out 2
      have fd0 := blk_frozen P.out 0
      have fd1 := blk_frozen P.out 1
      have fd2 := blk_frozen P.out 2
      simp only [List.getElem?_toArray, List.getElem?_cons_zero, List.getElem?_cons_succ] at d0 d1 d2
      refine skip_ (w1 := ?_) (by rfl) rfl ?_ ?_
      rotate_left
      · go_simp
        rfl
      refine hK.out _ _ (show _ ∧ _ ∧ _ from ⟨blk_cell (put3_far D.out NP.out.symm 0 (.int .u32 key) (.slice A7 view.length n7) (.slice A12 m.length n12)) 0, blk_cell (put3_far D.out NP.out.symm 0 (.int .u32 key) (.slice A7 view.length n7) (.slice A12 m.length n12)) 1, blk_cell (put3_far D.out NP.out.symm 0 (.int .u32 key) (.slice A7 view.length n7) (.slice A12 m.length n12)) 2⟩) (fun hHeld => ?_)
      clear hK K
      clear d0 fd0 d1 fd1 d2 fd2
      obtain ⟨wbc, hW⟩ : ∃ W, W = (((wbb.setCell ⟨p, 0, none⟩ (.int .u32 key)).setCell ⟨p, 1, none⟩ (.slice A7 view.length n7)).setCell ⟨p, 2, none⟩ (.slice A12 m.length n12)) := ⟨_, rfl⟩
      rw [show (((wbb.setCell ⟨p, 0, none⟩ (.int .u32 key)).setCell ⟨p, 1, none⟩ (.slice A7 view.length n7)).setCell ⟨p, 2, none⟩ (.slice A12 m.length n12)) = wbc from hW.symm]
      replace H3 := Aside0.mk (show RowR kS 111 wbc w.heap.size _ _ from by rw [hW]; exact put3_row H3.out P.out (by decide) 0 (.int .u32 key) (.slice A7 view.length n7) (.slice A12 m.length n12))
      replace H4 := Aside0.mk (show RowR kC 114 wbc w.heap.size _ _ from by rw [hW]; exact put3_row H4.out P.out (by decide) 0 (.int .u32 key) (.slice A7 view.length n7) (.slice A12 m.length n12))
      replace H7 := Aside0.mk (show RowR kS 111 wbc w.heap.size _ _ from by rw [hW]; exact put3_row H7.out P.out (by decide) 0 (.int .u32 key) (.slice A7 view.length n7) (.slice A12 m.length n12))
      replace H9 := Aside0.mk (show RowR kC 114 wbc w.heap.size _ _ from by rw [hW]; exact put3_row H9.out P.out (by decide) 0 (.int .u32 key) (.slice A7 view.length n7) (.slice A12 m.length n12))
      replace H10 := Aside0.mk (show RowR kB 5 wbc w.heap.size _ _ from by rw [hW]; exact put3_row H10.out P.out (by decide) 0 (.int .u32 key) (.slice A7 view.length n7) (.slice A12 m.length n12))
      replace H11 := Aside0.mk (show RowR kB 5 wbc w.heap.size _ _ from by rw [hW]; exact put3_row H11.out P.out (by decide) 0 (.int .u32 key) (.slice A7 view.length n7) (.slice A12 m.length n12))
      replace I10 := Aside0.mk (show IntsV wbc _ from by rw [hW]; exact put3_ints I10.out P.out (by decide) 0 (.int .u32 key) (.slice A7 view.length n7) (.slice A12 m.length n12))
      replace I11 := Aside0.mk (show IntsV wbc _ from by rw [hW]; exact put3_ints I11.out P.out (by decide) 0 (.int .u32 key) (.slice A7 view.length n7) (.slice A12 m.length n12))
      replace B := Aside0.mk (show Below w.heap.size w wbc from by rw [hW]; exact put3_below B.out (r := p) (by have := EP.out; omega) 0 (.int .u32 key) (.slice A7 view.length n7) (.slice A12 m.length n12))
      replace Q := Aside0.mk (show wbc.heap[p + 1]? = some (Z) from by rw [hW]; exact put3_far Q.out (show p + 1 ≠ p from by omega) 0 (.int .u32 key) (.slice A7 view.length n7) (.slice A12 m.length n12))
      replace D := Aside0.mk (show wbc.heap[q]? = some (halfO key (.slice A7 view.length n7) (.slice A12 m.length n12)) from by rw [hW]; exact put3_far D.out NP.out.symm 0 (.int .u32 key) (.slice A7 view.length n7) (.slice A12 m.length n12))
      replace P := Aside0.mk (show wbc.heap[p]? = some (rawO key (.slice A7 view.length n7) (.slice A12 m.length n12) g.k2 (.slice A3 g.v2.length n3) (.slice A4 g.c2.length n4) (.slice A5 g.rq.length n5) (.slice A6 g.rp.length n6) g.ls g.su g.wi) from by rw [hW]; exact put3_0 P.out key (.slice A7 view.length n7) (.slice A12 m.length n12))
      clear hW
      refine pure_ (i := 7) (N := some 60) (v := ?_) (a' := ?_) #[true, true, true, true, true, true, true, true, false, false, false] rfl rfl (by kernel_rfl) (fun _ _ _ h => h) (Or.inl ⟨by rfl, ?_⟩) ?_ ?_
      rotate_left
      · intro w'
        go_simp
        with_reducible rfl
      rotate_left
      · simp only [Act.put, List.setIfInBounds_toArray, List.set_cons_zero, List.set_cons_succ, i64_w, i32_w]
        rfl
      refine one_ (i := 8) (N := none) #[true, true, true, true, true, true, true, true, true, false, false] rfl rfl (by kernel_rfl) (by decide) (fun K hK => ?_)
      have d6 := blk_cell P.out 6
      have fd6 := blk_frozen P.out 6
      simp only [List.getElem?_toArray, List.getElem?_cons_zero, List.getElem?_cons_succ] at d6
      refine skip_ (w1 := ?_) (by rfl) rfl ?_ ?_
      rotate_left
      · go_simp
        rfl
      refine hK.out _ _ (show _ ∧ _ ∧ _ from ⟨blk_cell (set_far D.out NP.out.symm 6 (.slice A10 rq.length n10)) 0, blk_cell (set_far D.out NP.out.symm 6 (.slice A10 rq.length n10)) 1, blk_cell (set_far D.out NP.out.symm 6 (.slice A10 rq.length n10)) 2⟩) (fun hHeld => ?_)
      clear hK K
      clear d6 fd6
      obtain ⟨wbd, hW⟩ : ∃ W, W = (wbc.setCell ⟨p, 6, none⟩ (.slice A10 rq.length n10)) := ⟨_, rfl⟩
      rw [show (wbc.setCell ⟨p, 6, none⟩ (.slice A10 rq.length n10)) = wbd from hW.symm]
      replace H3 := Aside0.mk (show RowR kS 111 wbd w.heap.size _ _ from by rw [hW]; exact row_set H3.out P.out (by decide) 6 (.slice A10 rq.length n10))
      replace H4 := Aside0.mk (show RowR kC 114 wbd w.heap.size _ _ from by rw [hW]; exact row_set H4.out P.out (by decide) 6 (.slice A10 rq.length n10))
      replace H7 := Aside0.mk (show RowR kS 111 wbd w.heap.size _ _ from by rw [hW]; exact row_set H7.out P.out (by decide) 6 (.slice A10 rq.length n10))
      replace H9 := Aside0.mk (show RowR kC 114 wbd w.heap.size _ _ from by rw [hW]; exact row_set H9.out P.out (by decide) 6 (.slice A10 rq.length n10))
      replace H10 := Aside0.mk (show RowR kB 5 wbd w.heap.size _ _ from by rw [hW]; exact row_set H10.out P.out (by decide) 6 (.slice A10 rq.length n10))
      replace H11 := Aside0.mk (show RowR kB 5 wbd w.heap.size _ _ from by rw [hW]; exact row_set H11.out P.out (by decide) 6 (.slice A10 rq.length n10))
      replace I10 := Aside0.mk (show IntsV wbd _ from by rw [hW]; exact set_ints I10.out P.out (by decide) 6 (.slice A10 rq.length n10))
      replace I11 := Aside0.mk (show IntsV wbd _ from by rw [hW]; exact set_ints I11.out P.out (by decide) 6 (.slice A10 rq.length n10))
      replace B := Aside0.mk (show Below w.heap.size w wbd from by rw [hW]; exact set_below B.out (r := p) (by have := EP.out; omega) 6 (.slice A10 rq.length n10))
      replace Q := Aside0.mk (show wbd.heap[p + 1]? = some (Z) from by rw [hW]; exact set_far Q.out (show p + 1 ≠ p from by omega) 6 (.slice A10 rq.length n10))
      replace D := Aside0.mk (show wbd.heap[q]? = some (halfO key (.slice A7 view.length n7) (.slice A12 m.length n12)) from by rw [hW]; exact set_far D.out NP.out.symm 6 (.slice A10 rq.length n10))
      replace P := Aside0.mk (show wbd.heap[p]? = some (rawO key (.slice A7 view.length n7) (.slice A12 m.length n12) g.k2 (.slice A3 g.v2.length n3) (.slice A4 g.c2.length n4) (.slice A10 rq.length n10) (.slice A6 g.rp.length n6) g.ls g.su g.wi) from by rw [hW]; exact put1_6 P.out (.slice A10 rq.length n10))
      clear hW
      refine pure_ (i := 9) (N := some 61) (v := ?_) (a' := ?_) #[true, true, true, true, true, true, true, true, true, true, false] rfl rfl (by kernel_rfl) (fun _ _ _ h => h) (Or.inl ⟨by rfl, ?_⟩) ?_ ?_
      rotate_left
      · intro w'
        go_simp
        with_reducible rfl
      rotate_left
      · simp only [Act.put, List.setIfInBounds_toArray, List.set_cons_zero, List.set_cons_succ, i64_w, i32_w]
        rfl
      refine one_ (i := 10) (N := none) #[true, true, true, true, true, true, true, true, true, true, true] rfl rfl (by kernel_rfl) (by decide) (fun K hK => ?_)
      have d7 := blk_cell P.out 7
      have fd7 := blk_frozen P.out 7
      simp only [List.getElem?_toArray, List.getElem?_cons_zero, List.getElem?_cons_succ] at d7
      refine skip_ (w1 := ?_) (by rfl) rfl ?_ ?_
      rotate_left
      · go_simp
        rfl
      refine hK.out _ _ (show _ ∧ _ ∧ _ from ⟨blk_cell (set_far D.out NP.out.symm 7 (.slice A11 rp.length n11)) 0, blk_cell (set_far D.out NP.out.symm 7 (.slice A11 rp.length n11)) 1, blk_cell (set_far D.out NP.out.symm 7 (.slice A11 rp.length n11)) 2⟩) (fun hHeld => ?_)
      clear hK K
      clear d7 fd7
      obtain ⟨wbe, hW⟩ : ∃ W, W = (wbd.setCell ⟨p, 7, none⟩ (.slice A11 rp.length n11)) := ⟨_, rfl⟩
      rw [show (wbd.setCell ⟨p, 7, none⟩ (.slice A11 rp.length n11)) = wbe from hW.symm]
      replace H3 := Aside0.mk (show RowR kS 111 wbe w.heap.size _ _ from by rw [hW]; exact row_set H3.out P.out (by decide) 7 (.slice A11 rp.length n11))
      replace H4 := Aside0.mk (show RowR kC 114 wbe w.heap.size _ _ from by rw [hW]; exact row_set H4.out P.out (by decide) 7 (.slice A11 rp.length n11))
      replace H7 := Aside0.mk (show RowR kS 111 wbe w.heap.size _ _ from by rw [hW]; exact row_set H7.out P.out (by decide) 7 (.slice A11 rp.length n11))
      replace H9 := Aside0.mk (show RowR kC 114 wbe w.heap.size _ _ from by rw [hW]; exact row_set H9.out P.out (by decide) 7 (.slice A11 rp.length n11))
      replace H10 := Aside0.mk (show RowR kB 5 wbe w.heap.size _ _ from by rw [hW]; exact row_set H10.out P.out (by decide) 7 (.slice A11 rp.length n11))
      replace H11 := Aside0.mk (show RowR kB 5 wbe w.heap.size _ _ from by rw [hW]; exact row_set H11.out P.out (by decide) 7 (.slice A11 rp.length n11))
      replace I10 := Aside0.mk (show IntsV wbe _ from by rw [hW]; exact set_ints I10.out P.out (by decide) 7 (.slice A11 rp.length n11))
      replace I11 := Aside0.mk (show IntsV wbe _ from by rw [hW]; exact set_ints I11.out P.out (by decide) 7 (.slice A11 rp.length n11))
      replace B := Aside0.mk (show Below w.heap.size w wbe from by rw [hW]; exact set_below B.out (r := p) (by have := EP.out; omega) 7 (.slice A11 rp.length n11))
      replace Q := Aside0.mk (show wbe.heap[p + 1]? = some (Z) from by rw [hW]; exact set_far Q.out (show p + 1 ≠ p from by omega) 7 (.slice A11 rp.length n11))
      replace D := Aside0.mk (show wbe.heap[q]? = some (halfO key (.slice A7 view.length n7) (.slice A12 m.length n12)) from by rw [hW]; exact set_far D.out NP.out.symm 7 (.slice A11 rp.length n11))
      replace P := Aside0.mk (show wbe.heap[p]? = some (rawO key (.slice A7 view.length n7) (.slice A12 m.length n12) g.k2 (.slice A3 g.v2.length n3) (.slice A4 g.c2.length n4) (.slice A10 rq.length n10) (.slice A11 rp.length n11) g.ls g.su g.wi) from by rw [hW]; exact put1_7 P.out (.slice A11 rp.length n11))
      clear hW
      refine done_ (by kernel_rfl) ?_
      have GR := Aside0.mk (show GenR wbe w.heap.size (⟨key, view, m, g.k2, g.v2, g.c2, rq, rp, g.ls, g.su, g.wi⟩ : G) _ _ _ _ _ _ from ⟨H7.out, H9.out, H3.out, H4.out, H10.out, H11.out⟩)
      obtain ⟨x0, x1, x2, x3, x4, x5, x6, x7, x8, x9, x10⟩ := heldR P.out
      obtain ⟨z0, z1, z2, z3, z4, z5, z6, z7, z8, z9, z10⟩ := heldZ Q.out
      have f0 := blk_frozen Q.out 0
      have f1 := blk_frozen Q.out 1
      have f2 := blk_frozen Q.out 2
      have f3 := blk_frozen Q.out 3
      have f4 := blk_frozen Q.out 4
      have f5 := blk_frozen Q.out 5
      have f6 := blk_frozen Q.out 6
      have f7 := blk_frozen Q.out 7
      have f8 := blk_frozen Q.out 8
      have f9 := blk_frozen Q.out 9
      have f10 := blk_frozen Q.out 10
      go_wp2_with fail
      have BQ := Aside0.mk (put11_below B.out (r := (p + 1)) (by have := EP.out; omega) (.int .u32 key) (.slice A7 view.length n7) (.slice A12 m.length n12) (.int .u32 g.k2) (.slice A3 g.v2.length n3) (.slice A4 g.c2.length n4) (.slice A10 rq.length n10) (.slice A11 rp.length n11) (.bool g.ls) (.int .u8 g.su) (.int .u8 g.wi))
      have GQ := Aside0.mk (put11_rows GR.out Q.out (.int .u32 key) (.slice A7 view.length n7) (.slice A12 m.length n12) (.int .u32 g.k2) (.slice A3 g.v2.length n3) (.slice A4 g.c2.length n4) (.slice A10 rq.length n10) (.slice A11 rp.length n11) (.bool g.ls) (.int .u8 g.su) (.int .u8 g.wi))
      have IQ5 := Aside0.mk (put11_ints I10.out Q.out (.int .u32 key) (.slice A7 view.length n7) (.slice A12 m.length n12) (.int .u32 g.k2) (.slice A3 g.v2.length n3) (.slice A4 g.c2.length n4) (.slice A10 rq.length n10) (.slice A11 rp.length n11) (.bool g.ls) (.int .u8 g.su) (.int .u8 g.wi))
      have IQ6 := Aside0.mk (put11_ints I11.out Q.out (.int .u32 key) (.slice A7 view.length n7) (.slice A12 m.length n12) (.int .u32 g.k2) (.slice A3 g.v2.length n3) (.slice A4 g.c2.length n4) (.slice A10 rq.length n10) (.slice A11 rp.length n11) (.bool g.ls) (.int .u8 g.su) (.int .u8 g.wi))
      have DQ := put11_self (g := ⟨0, [], [], 0, [], [], [], [], false, 0, 0⟩) (g' := ((⟨key, view, m, g.k2, g.v2, g.c2, rq, rp, g.ls, g.su, g.wi⟩ : G))) Q.out (.slice A7 view.length n7) (.slice A12 m.length n12) (.slice A3 g.v2.length n3) (.slice A4 g.c2.length n4) (.slice A10 rq.length n10) (.slice A11 rp.length n11)
      obtain ⟨W9, hW9⟩ : ∃ W9, W9 = put11 wbe (p + 1) (.int .u32 key) (.slice A7 view.length n7) (.slice A12 m.length n12) (.int .u32 g.k2) (.slice A3 g.v2.length n3) (.slice A4 g.c2.length n4) (.slice A10 rq.length n10) (.slice A11 rp.length n11) (.bool g.ls) (.int .u8 g.su) (.int .u8 g.wi) := ⟨_, rfl⟩
      change bodyPost _ _ _ _ _ (put11 wbe (p + 1) (.int .u32 key) (.slice A7 view.length n7) (.slice A12 m.length n12) (.int .u32 g.k2) (.slice A3 g.v2.length n3) (.slice A4 g.c2.length n4) (.slice A10 rq.length n10) (.slice A11 rp.length n11) (.bool g.ls) (.int .u8 g.su) (.int .u8 g.wi))
      rw [← hW9] at BQ GQ DQ IQ5 IQ6 ⊢
      clear hW9 f0 z0 f1 z1 f2 z2 f3 z3 f4 z4 f5 z5 f6 z6 f7 z7 f8 z8 f9 z9 f10 z10
      obtain ⟨c0, c1, c2, c3, c4, c5, c6, c7, c8, c9, c10⟩ := heldG DQ
      exact bodyPost_ret (v := genV ((⟨key, view, m, g.k2, g.v2, g.c2, rq, rp, g.ls, g.su, g.wi⟩ : G)) (.slice A7 view.length n7) (.slice A12 m.length n12) (.slice A3 g.v2.length n3) (.slice A4 g.c2.length n4) (.slice A10 rq.length n10) (.slice A11 rp.length n11)) (by simp [results, Try.results62, go_sem, c0, c1, c2, c3, c4, c5, c6, c7, c8, c9, c10]) rfl ⟨_, _, _, _, _, _, by rw [e.out], by rw [e.out]; exact GQ.out, IQ5.out, IQ6.out, BQ.out⟩
    · have e := Aside0.mk (show nextP how key view added rq rp g = g from by unfold nextP; rw [if_neg h2, if_neg h4])
      have h2' : (how == 2) = false := beq_eq_false_iff_ne.mpr h2
      have h4' : (how == 4) = false := beq_eq_false_iff_ne.mpr h4
      have GR := Aside0.mk (show GenR w12 w.heap.size g _ _ _ _ _ _ from ⟨H1.out, H2.out, H3.out, H4.out, H5.out, H6.out⟩)
      obtain ⟨x0, x1, x2, x3, x4, x5, x6, x7, x8, x9, x10⟩ := heldR P.out
      clear h2 h4 H1 H2 H3 H4 H5 H6 H7 H8
      obtain ⟨z0, z1, z2, z3, z4, z5, z6, z7, z8, z9, z10⟩ := heldZ Q.out
      have f0 := blk_frozen Q.out 0
      have f1 := blk_frozen Q.out 1
      have f2 := blk_frozen Q.out 2
      have f3 := blk_frozen Q.out 3
      have f4 := blk_frozen Q.out 4
      have f5 := blk_frozen Q.out 5
      have f6 := blk_frozen Q.out 6
      have f7 := blk_frozen Q.out 7
      have f8 := blk_frozen Q.out 8
      have f9 := blk_frozen Q.out 9
      have f10 := blk_frozen Q.out 10
      go_wp2_with fail
      have BQ := Aside0.mk (put11_below B.out (r := (p + 1)) (by have := EP.out; omega) (.int .u32 g.k1) (.slice A1 g.v1.length n1) (.slice A2 g.c1.length n2) (.int .u32 g.k2) (.slice A3 g.v2.length n3) (.slice A4 g.c2.length n4) (.slice A5 g.rq.length n5) (.slice A6 g.rp.length n6) (.bool g.ls) (.int .u8 g.su) (.int .u8 g.wi))
      have GQ := Aside0.mk (put11_rows GR.out Q.out (.int .u32 g.k1) (.slice A1 g.v1.length n1) (.slice A2 g.c1.length n2) (.int .u32 g.k2) (.slice A3 g.v2.length n3) (.slice A4 g.c2.length n4) (.slice A5 g.rq.length n5) (.slice A6 g.rp.length n6) (.bool g.ls) (.int .u8 g.su) (.int .u8 g.wi))
      have IQ5 := Aside0.mk (put11_ints I5.out Q.out (.int .u32 g.k1) (.slice A1 g.v1.length n1) (.slice A2 g.c1.length n2) (.int .u32 g.k2) (.slice A3 g.v2.length n3) (.slice A4 g.c2.length n4) (.slice A5 g.rq.length n5) (.slice A6 g.rp.length n6) (.bool g.ls) (.int .u8 g.su) (.int .u8 g.wi))
      have IQ6 := Aside0.mk (put11_ints I6.out Q.out (.int .u32 g.k1) (.slice A1 g.v1.length n1) (.slice A2 g.c1.length n2) (.int .u32 g.k2) (.slice A3 g.v2.length n3) (.slice A4 g.c2.length n4) (.slice A5 g.rq.length n5) (.slice A6 g.rp.length n6) (.bool g.ls) (.int .u8 g.su) (.int .u8 g.wi))
      have DQ := put11_self (g := ⟨0, [], [], 0, [], [], [], [], false, 0, 0⟩) (g' := g) Q.out (.slice A1 g.v1.length n1) (.slice A2 g.c1.length n2) (.slice A3 g.v2.length n3) (.slice A4 g.c2.length n4) (.slice A5 g.rq.length n5) (.slice A6 g.rp.length n6)
      obtain ⟨W9, hW9⟩ : ∃ W9, W9 = put11 w12 (p + 1) (.int .u32 g.k1) (.slice A1 g.v1.length n1) (.slice A2 g.c1.length n2) (.int .u32 g.k2) (.slice A3 g.v2.length n3) (.slice A4 g.c2.length n4) (.slice A5 g.rq.length n5) (.slice A6 g.rp.length n6) (.bool g.ls) (.int .u8 g.su) (.int .u8 g.wi) := ⟨_, rfl⟩
      change bodyPost _ _ _ _ _ (put11 w12 (p + 1) (.int .u32 g.k1) (.slice A1 g.v1.length n1) (.slice A2 g.c1.length n2) (.int .u32 g.k2) (.slice A3 g.v2.length n3) (.slice A4 g.c2.length n4) (.slice A5 g.rq.length n5) (.slice A6 g.rp.length n6) (.bool g.ls) (.int .u8 g.su) (.int .u8 g.wi))
      rw [← hW9] at BQ GQ DQ IQ5 IQ6 ⊢
      clear hW9 f0 z0 f1 z1 f2 z2 f3 z3 f4 z4 f5 z5 f6 z6 f7 z7 f8 z8 f9 z9 f10 z10
      obtain ⟨c0, c1, c2, c3, c4, c5, c6, c7, c8, c9, c10⟩ := heldG DQ
      exact bodyPost_ret (v := genV g (.slice A1 g.v1.length n1) (.slice A2 g.c1.length n2) (.slice A3 g.v2.length n3) (.slice A4 g.c2.length n4) (.slice A5 g.rq.length n5) (.slice A6 g.rp.length n6)) (by simp [results, Try.results62, go_sem, c0, c1, c2, c3, c4, c5, c6, c7, c8, c9, c10]) rfl ⟨_, _, _, _, _, _, by rw [e.out], by rw [e.out]; exact GQ.out, IQ5.out, IQ6.out, BQ.out⟩
theorem next_calls (g : G) (s1 s2 s3 s4 s5 s6 : Value) (how key : Int) (sv sa sq sp : Value) (view : List S111) (added : List S114) (rq rp : List Int) (w : World)
    (hg : GenC w g s1 s2 s3 s4 s5 s6) (hl : GenL g 400000) (hv : RowC kS w sv view) (ha : RowC kC w sa added) (hq : RowC kB w sq rq) (hp : RowC kB w sp rp) (lv : view.length ≤ 400000) (la : added.length ≤ 400000) (lq : rq.length ≤ 140737488351232) (lp : rp.length ≤ 140737488351232) :
    Calls Try.prog 62 #[genV g s1 s2 s3 s4 s5 s6, .int .u8 how, .int .u32 key, sv, sa, sq, sp] w fun e w' => ∃ t1 t2 t3 t4 t5 t6, e = .returned (genV (nextP how key view added rq rp g) t1 t2 t3 t4 t5 t6) ∧
      GenR w' w.heap.size (nextP how key view added rq rp g) t1 t2 t3 t4 t5 t6 ∧ Below w.heap.size w w' :=
  (next_ints g s1 s2 s3 s4 s5 s6 how key sv sa sq sp view added rq rp w hg hl hv ha hq hp lv la lq lp).mono fun _ _ ⟨t1, t2, t3, t4, t5, t6, e, h, _, _, hb⟩ => ⟨t1, t2, t3, t4, t5, t6, e, h, hb⟩
end Go.Proofs.Ytpanefmemabckaa.GenNext
namespace Go.Proofs.Ytpanefmemabckaa.GenLives
open Go.RowKit Go.Proofs.Ytpanefmemabckaa.NumA Go.Proofs.Ytpanefmemabckaa.GenS Go.Proofs.Ytpanefmemabckaa.GenRep Go.Proofs.Ytpanefmemabckaa.GenBlk Go.Proofs.Ytpanefmemabckaa.GenPure Go.Proofs.Ytpanefmemabckaa.GenCalls Go.Proofs.YtpanefmemabckaaW.PrintWords Go.Proofs.YtpanefmemabckaaW.PrintLast
open Go.Proofs.Ytpanefmemabckaa.GenZero (heap_new blk_kept)
open Go.Proofs.Ytpanefmemabckaa.Wide (C_block)
set_option linter.unusedSimpArgs false

theorem five_l : GenL G5 400000 := ⟨by decide, by decide, by decide, by decide, by decide, by decide⟩
theorem five_b : GenB G5 := ⟨fun x hx => by rw [List.mem_singleton.1 hx]; decide, fun x hx => by cases hx⟩
/-- Next, of what the document tells of -/
theorem next2 {w : World} {s1 s2 s3 s4 s5 s6 : Value} (hg : GenC w G5 s1 s2 s3 s4 s5 s6) : Calls Try.prog 62 #[genV G5 s1 s2 s3 s4 s5 s6, .int .u8 2, .int .u32 9, .slice none 0 0, .slice none 0 0, .slice none 0 0, .slice none 0 0] w fun e w' =>
    ∃ A1 n1 A2 n2 A3 n3 A4 n4 A5 n5 A6 n6, e = .returned (.agg #[.int .u32 9, .slice A1 0 n1, .slice A2 0 n2, .int .u32 7, .slice A3 0 n3, .slice A4 0 n4, .slice A5 0 n5, .slice A6 0 n6, .bool false, .int .u8 0, .int .u8 0]) ∧ Below w.heap.size w w' := by
  refine (GenNext.next_calls G5 s1 s2 s3 s4 s5 s6 2 9 _ _ _ _ [] [] [] [] w hg five_l (RowC.nil _ _) (RowC.nil _ _) (RowC.nil _ _) (RowC.nil _ _) (by decide) (by decide) (by decide) (by decide)).mono ?_
  rintro e w' ⟨t1, t2, t3, t4, t5, t6, rfl, ⟨h1, h2, h3, h4, h5, h6⟩, hb⟩
  obtain ⟨A1, n1, rfl⟩ := Kd.R_slice h1
  obtain ⟨A2, n2, rfl⟩ := Kd.R_slice h2
  obtain ⟨A3, n3, rfl⟩ := Kd.R_slice h3
  obtain ⟨A4, n4, rfl⟩ := Kd.R_slice h4
  obtain ⟨A5, n5, rfl⟩ := Kd.R_slice h5
  obtain ⟨A6, n6, rfl⟩ := Kd.R_slice h6
  exact ⟨A1, n1, A2, n2, A3, n3, A4, n4, A5, n5, A6, n6, rfl, hb⟩
theorem next4 {w : World} {s1 s2 s3 s4 s5 s6 : Value} (hg : GenC w G5 s1 s2 s3 s4 s5 s6) : Calls Try.prog 62 #[genV G5 s1 s2 s3 s4 s5 s6, .int .u8 4, .int .u32 9, .slice none 0 0, .slice none 0 0, .slice none 0 0, .slice none 0 0] w fun e w' =>
    ∃ A1 n1 A2 n2 A3 n3 A4 n4 A5 n5 A6 n6, e = .returned (.agg #[.int .u32 9, .slice A1 0 n1, .slice A2 0 n2, .int .u32 5, .slice A3 0 n3, .slice A4 0 n4, .slice A5 0 n5, .slice A6 0 n6, .bool false, .int .u8 0, .int .u8 0]) ∧ Below w.heap.size w w' := by
  refine (GenNext.next_calls G5 s1 s2 s3 s4 s5 s6 4 9 _ _ _ _ [] [] [] [] w hg five_l (RowC.nil _ _) (RowC.nil _ _) (RowC.nil _ _) (RowC.nil _ _) (by decide) (by decide) (by decide) (by decide)).mono ?_
  rintro e w' ⟨t1, t2, t3, t4, t5, t6, rfl, ⟨h1, h2, h3, h4, h5, h6⟩, hb⟩
  obtain ⟨A1, n1, rfl⟩ := Kd.R_slice h1
  obtain ⟨A2, n2, rfl⟩ := Kd.R_slice h2
  obtain ⟨A3, n3, rfl⟩ := Kd.R_slice h3
  obtain ⟨A4, n4, rfl⟩ := Kd.R_slice h4
  obtain ⟨A5, n5, rfl⟩ := Kd.R_slice h5
  obtain ⟨A6, n6, rfl⟩ := Kd.R_slice h6
  exact ⟨A1, n1, A2, n2, A3, n3, A4, n4, A5, n5, A6, n6, rfl, hb⟩
/-- a byte's row, just made -/
theorem one_byte (w : World) (c : Nat) : RowC kB (w.alloc (.cells #[.int .u8 (c : Int)] 5)) (.slice (some ⟨w.heap.size, 0, none⟩) 1 1) [(c : Int)] :=
  ⟨_, 1, rfl, Nat.le_refl _, C_block (W := w.alloc (.cells #[.int .u8 (c : Int)] 5)) (b := w.heap.size) (m := [c]) (fr := (0, 0)) (heap_new w _) [c] (by show 1 ≤ _; decide) rfl⟩
set_option maxRecDepth 100000 in
set_option maxHeartbeats 4000000 in
theorem lives_calls (w : World) : Calls Try.prog 34 #[] w fun e w' => e = .returned (.bool true) ∧ Below w.heap.size w w' := by
  go_enter Try.func34, Try.ntmps34
  go_wp2_with fail
  refine (five_calls _).mono ?_
  rintro e w1 ⟨s1, s2, s3, s4, s5, s6, rfl, hg1, hb1⟩
  have G1 := Aside0.mk hg1
  have B1 := Aside0.mk hb1
  clear hg1 hb1
  go_wp2_with fail
  refine (next2 G1.out).mono ?_
  rintro e w2 ⟨A1, n1, A2, n2, A3, n3, A4, n4, A5, n5, A6, n6, rfl, hb2⟩
  have B2 := Aside0.mk (below_then B1.out B1.out.size hb2)
  have P2 := Aside0.mk (heap_new w2 (.cells #[.int .u32 9, .slice A1 0 n1, .slice A2 0 n2, .int .u32 7, .slice A3 0 n3, .slice A4 0 n4, .slice A5 0 n5, .slice A6 0 n6, .bool false, .int .u8 0, .int .u8 0] 58))
  obtain ⟨p, hp⟩ : ∃ p, p = w2.heap.size := ⟨_, rfl⟩
  rw [← hp] at P2
  have B2' := Aside0.mk (B2.out.alloc B2.out.size (.cells #[.int .u32 9, .slice A1 0 n1, .slice A2 0 n2, .int .u32 7, .slice A3 0 n3, .slice A4 0 n4, .slice A5 0 n5, .slice A6 0 n6, .bool false, .int .u8 0, .int .u8 0] 58))
  have EP := Aside0.mk hp
  clear hb2 G1 B1 B2 hp
  go_wp2_with fail
  change Calls _ _ _ (w2.alloc (.cells #[.int .u32 9, .slice A1 0 n1, .slice A2 0 n2, .int .u32 7, .slice A3 0 n3, .slice A4 0 n4, .slice A5 0 n5, .slice A6 0 n6, .bool false, .int .u8 0, .int .u8 0] 58)) _
  rw [← EP.out]
  generalize w2.alloc (.cells #[.int .u32 9, .slice A1 0 n1, .slice A2 0 n2, .int .u32 7, .slice A3 0 n3, .slice A4 0 n4, .slice A5 0 n5, .slice A6 0 n6, .bool false, .int .u8 0, .int .u8 0] 58) = w3 at P2 B2' ⊢
  clear EP
  refine (five_calls _).mono ?_
  rintro e w4 ⟨s1, s2, s3, s4, s5, s6, rfl, hg1, hb1⟩
  have G1 := Aside0.mk hg1
  have P3 := Aside0.mk (blk_kept P2.out hb1)
  have B3 := Aside0.mk (below_then B2'.out B2'.out.size hb1)
  clear hg1 hb1 P2 B2'
  go_wp2_with fail
  refine (next4 G1.out).mono ?_
  rintro e w5 ⟨C1, m1, C2, m2, C3, m3, C4, m4, C5, m5, C6, m6, rfl, hb2⟩
  have B4 := Aside0.mk (below_then B3.out B3.out.size hb2)
  have P4 := Aside0.mk (blk_alloc (blk_kept P3.out hb2) (.cells #[.int .u32 9, .slice C1 0 m1, .slice C2 0 m2, .int .u32 5, .slice C3 0 m3, .slice C4 0 m4, .slice C5 0 m5, .slice C6 0 m6, .bool false, .int .u8 0, .int .u8 0] 58))
  have Q4 := Aside0.mk (heap_new w5 (.cells #[.int .u32 9, .slice C1 0 m1, .slice C2 0 m2, .int .u32 5, .slice C3 0 m3, .slice C4 0 m4, .slice C5 0 m5, .slice C6 0 m6, .bool false, .int .u8 0, .int .u8 0] 58))
  obtain ⟨q, hq⟩ : ∃ p, p = w5.heap.size := ⟨_, rfl⟩
  rw [← hq] at Q4
  have B5 := Aside0.mk (B4.out.alloc B4.out.size (.cells #[.int .u32 9, .slice C1 0 m1, .slice C2 0 m2, .int .u32 5, .slice C3 0 m3, .slice C4 0 m4, .slice C5 0 m5, .slice C6 0 m6, .bool false, .int .u8 0, .int .u8 0] 58))
  have EP := Aside0.mk hq
  clear hb2 G1 B3 B4 P3 hq
  go_wp2_with fail
  change Calls _ _ _ (w5.alloc (.cells #[.int .u32 9, .slice C1 0 m1, .slice C2 0 m2, .int .u32 5, .slice C3 0 m3, .slice C4 0 m4, .slice C5 0 m5, .slice C6 0 m6, .bool false, .int .u8 0, .int .u8 0] 58)) _
  rw [← EP.out]
  generalize w5.alloc (.cells #[.int .u32 9, .slice C1 0 m1, .slice C2 0 m2, .int .u32 5, .slice C3 0 m3, .slice C4 0 m4, .slice C5 0 m5, .slice C6 0 m6, .bool false, .int .u8 0, .int .u8 0] 58) = w6 at P4 Q4 B5 ⊢
  clear EP
  refine (GenZeroC.bytes_zero _).mono ?_
  rintro e w7 ⟨Ab, cb, rfl, hb⟩
  have P5 := Aside0.mk (blk_kept P4.out hb)
  have Q5 := Aside0.mk (blk_kept Q4.out hb)
  have B6 := Aside0.mk (below_then B5.out B5.out.size hb)
  clear hb P4 Q4 B5
  go_wp2_with fail
  refine (five_calls _).mono ?_
  rintro e w6a ⟨s1, s2, s3, s4, s5, s6, rfl, hg, hb⟩
  have G := Aside0.mk hg
  have Pa := Aside0.mk (blk_kept P5.out hb)
  have Qa := Aside0.mk (blk_kept Q5.out hb)
  have Ba := Aside0.mk (below_then B6.out B6.out.size hb)
  have R := Aside0.mk (RowC.nil kB w6a)
  clear hg hb P5 Q5 B6
  go_wp2_with fail
  refine (how_calls (rq := []) G.out R.out five_b (fun x hx => by cases hx)).mono ?_
  rintro e w6b ⟨rfl, hb⟩
  rw [show howP G5 0 [] = 1 from by decide]
  have P6 := Aside0.mk (blk_kept Pa.out hb)
  have Q6 := Aside0.mk (blk_kept Qa.out hb)
  have B7 := Aside0.mk (below_then Ba.out Ba.out.size hb)
  clear hb Pa Qa Ba G R
  go_wp2_with fail
  refine (five_calls _).mono ?_
  rintro e w7a ⟨s1, s2, s3, s4, s5, s6, rfl, hg, hb⟩
  have G := Aside0.mk hg
  have Pa := Aside0.mk (blk_kept P6.out hb)
  have Qa := Aside0.mk (blk_kept Q6.out hb)
  have Ba := Aside0.mk (below_then B7.out B7.out.size hb)
  have R := Aside0.mk (RowC.nil kB w7a)
  clear hg hb P6 Q6 B7
  go_wp2_with fail
  refine (how_calls (rq := []) G.out R.out five_b (fun x hx => by cases hx)).mono ?_
  rintro e w7b ⟨rfl, hb⟩
  rw [show howP G5 7 [] = 2 from by decide]
  have P7 := Aside0.mk (blk_kept Pa.out hb)
  have Q7 := Aside0.mk (blk_kept Qa.out hb)
  have B8 := Aside0.mk (below_then Ba.out Ba.out.size hb)
  clear hb Pa Qa Ba G R
  go_wp2_with fail
  refine (five_calls _).mono ?_
  rintro e w8a ⟨s1, s2, s3, s4, s5, s6, rfl, hg, hb⟩
  have G := Aside0.mk (hg.below (below_al w8a (.cells #[.int .u8 170] 5)))
  have Pa := Aside0.mk (blk_alloc (blk_kept P7.out hb) (.cells #[.int .u8 170] 5))
  have Qa := Aside0.mk (blk_alloc (blk_kept Q7.out hb) (.cells #[.int .u8 170] 5))
  have Ba := Aside0.mk ((below_then B8.out B8.out.size hb).alloc (below_then B8.out B8.out.size hb).size (.cells #[.int .u8 170] 5))
  have R := Aside0.mk (one_byte w8a 170)
  clear hg hb P7 Q7 B8
  go_wp2_with fail
  refine (how_calls (rq := [170]) G.out R.out five_b (fun x hx => by rw [List.mem_singleton.1 hx]; decide)).mono ?_
  rintro e w8b ⟨rfl, hb⟩
  rw [show howP G5 5 [170] = 3 from by decide]
  have P8 := Aside0.mk (blk_kept Pa.out hb)
  have Q8 := Aside0.mk (blk_kept Qa.out hb)
  have B9 := Aside0.mk (below_then Ba.out Ba.out.size hb)
  clear hb Pa Qa Ba G R
  go_wp2_with fail
  refine (five_calls _).mono ?_
  rintro e w9a ⟨s1, s2, s3, s4, s5, s6, rfl, hg, hb⟩
  have G := Aside0.mk (hg.below (below_al w9a (.cells #[.int .u8 187] 5)))
  have Pa := Aside0.mk (blk_alloc (blk_kept P8.out hb) (.cells #[.int .u8 187] 5))
  have Qa := Aside0.mk (blk_alloc (blk_kept Q8.out hb) (.cells #[.int .u8 187] 5))
  have Ba := Aside0.mk ((below_then B9.out B9.out.size hb).alloc (below_then B9.out B9.out.size hb).size (.cells #[.int .u8 187] 5))
  have R := Aside0.mk (one_byte w9a 187)
  clear hg hb P8 Q8 B9
  go_wp2_with fail
  refine (how_calls (rq := [187]) G.out R.out five_b (fun x hx => by rw [List.mem_singleton.1 hx]; decide)).mono ?_
  rintro e w9b ⟨rfl, hb⟩
  rw [show howP G5 5 [187] = 4 from by decide]
  have P9 := Aside0.mk (blk_kept Pa.out hb)
  have Q9 := Aside0.mk (blk_kept Qa.out hb)
  have B10 := Aside0.mk (below_then Ba.out Ba.out.size hb)
  clear hb Pa Qa Ba G R
  go_wp2_with fail
  refine (five_calls _).mono ?_
  rintro e w10a ⟨s1, s2, s3, s4, s5, s6, rfl, hg, hb⟩
  have G := Aside0.mk hg
  have Pa := Aside0.mk (blk_kept P9.out hb)
  have Qa := Aside0.mk (blk_kept Q9.out hb)
  have Ba := Aside0.mk (below_then B10.out B10.out.size hb)
  have R := Aside0.mk (RowC.nil kB w10a)
  clear hg hb P9 Q9 B10
  go_wp2_with fail
  refine (how_calls (rq := []) G.out R.out five_b (fun x hx => by cases hx)).mono ?_
  rintro e w10b ⟨rfl, hb⟩
  rw [show howP G5 4 [] = 0 from by decide]
  have P10 := Aside0.mk (blk_kept Pa.out hb)
  have Q10 := Aside0.mk (blk_kept Qa.out hb)
  have B11 := Aside0.mk (below_then Ba.out Ba.out.size hb)
  clear hb Pa Qa Ba G R
  have x0 := blk_cell P10.out 0
  have x3 := blk_cell P10.out 3
  have y0 := blk_cell Q10.out 0
  have y3 := blk_cell Q10.out 3
  simp only [List.getElem?_toArray, List.getElem?_cons_zero, List.getElem?_cons_succ] at x0 x3 y0 y3
  clear P10 Q10
  go_wp2_with fail
  go_ret
  exact ⟨rfl, B11.out⟩
end Go.Proofs.Ytpanefmemabckaa.GenLives
