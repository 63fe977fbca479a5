/- putHalf, of the program and of the reference: a half's bytes behind others. -/
import Derived.Test.YtpanefmemabckaaGenMath
import Derived.Deep.DeepCutAuto
import Derived.Deep.RegionHeld3
import Derived.Maps.OwnOps
import Derived.Maps.Views
import Derived.Deep.QuietTactic
import Derived.BigQuiet
namespace Go.Proofs.Ytpanefmemabckaa.GenHalf
open Go.RowKit Go.Proofs.Ytpanefmemabckaa.NumA Go.Proofs.Ytpanefmemabckaa.NumMath Go.Proofs.Ytpanefmemabckaa.Bytes Go.Proofs.Ytpanefmemabckaa.GenS Go.Proofs.Ytpanefmemabckaa.GenRep Go.Proofs.Ytpanefmemabckaa.GenBlk Go.Proofs.Ytpanefmemabckaa.GenPure Go.Proofs.Ytpanefmemabckaa.GenMath Go.Proofs.Ytpanefmemabckaa.GenPuts Go.Proofs.YtpanefmemabckaaW.PrintWords Go.Proofs.YtpanefmemabckaaW.PrintLast
open Go.Proofs.Ytpanefmemabckaa.GenZero (heap_new blk_kept blk_drew1)
set_option linter.unusedSimpArgs false
set_option linter.unusedVariables false

theorem Grew.trans {w0 W W1 W2 W3 : World} {v v1 v2 : Value} {l1 l2 : List Nat} (h : Grew w0 W W1 v v1 l1) (hb : Below W1.heap.size W1 W2) (k : Grew w0 W2 W3 v1 v2 l2) : Grew w0 W W3 v v2 l2 := by
  obtain ⟨_, _, hg, hat⟩ := h
  obtain ⟨kr, kb, kg, kat⟩ := k
  refine ⟨kr, kb, ⟨kg.os.trans (hb.os.trans hg.os), kg.tape.trans (hb.tape.trans hg.tape), kg.output.trans (hb.output.trans hg.output), Nat.le_trans hg.size (Nat.le_trans hb.size kg.size), fun b hlt hne => ?_⟩, ?_⟩
  · have h1 : b < W1.heap.size := Nat.lt_of_lt_of_le hlt hg.size
    refine ((kg.block b (Nat.lt_of_lt_of_le h1 hb.size) (fun e => ?_)).trans (hb.block b h1)).trans (hg.block b hlt hne)
    rcases hat with hat | ⟨c, hc, hle⟩
    · exact hne (e.trans hat)
    · rw [hc] at e; injection e with e; omega
  · rcases kat with kat | ⟨c, hc, hle⟩
    · rw [kat]; exact hat
    · exact .inr ⟨c, hc, Nat.le_trans (Nat.le_trans hg.size hb.size) hle⟩
theorem Grew.refl {w0 W : World} {v : Value} {l : List Nat} (h : RowR kB 5 W w0.heap.size v (ofN l)) (hb : Below w0.heap.size w0 W) : Grew w0 W W v v l := ⟨h, hb, World.grownBy.refl W _, .inl rfl⟩
theorem Grew.up {w0 W W1 : World} {v v' : Value} {l : List Nat} (hb : Below W.heap.size W W1) (h : Grew w0 W1 W1 v v' l) : Grew w0 W W1 v v' l :=
  ⟨h.r, h.b, grown_of_below hb _, h.a.imp id (fun ⟨b, h1, h2⟩ => ⟨b, h1, Nat.le_trans hb.size h2⟩)⟩
/-- another block stays where the row grew -/
theorem Grew.blk {w0 W W1 : World} {v v' : Value} {l l0 : List Nat} (h : Grew w0 W W1 v v' l) {p t : Nat} {cs : Array Value} (hb : W.heap[p]? = some (.cells cs t)) (ht : 5 ≠ t) (ho : RowR kB 5 W w0.heap.size v (ofN l0)) : W1.heap[p]? = some (.cells cs t) :=
  blk_grown hb h.g (Kd.R_ne ho hb ht)
theorem heldH {W : World} {p : Nat} {k : Int} {s t : Value} (h : W.heap[p]? = some (halfO k s t)) : W.cell? ⟨p, 0, none⟩ = some (.int .u32 k) ∧ W.cell? ⟨p, 1, none⟩ = some s ∧ W.cell? ⟨p, 2, none⟩ = some t := ⟨blk_cell h 0, blk_cell h 1, blk_cell h 2⟩
abbrev seenO (x : Seen) : Obj := .cells #[.int .u32 x.f0, .int .u64 x.f1] 111
abbrev cliO (x : Cli) : Obj := .cells #[.int .u32 x.f0, .int .u32 x.f1, .int .u64 x.f2] 114
theorem heldS {W : World} {p : Nat} {x : Seen} (h : W.heap[p]? = some (seenO x)) : W.cell? ⟨p, 0, none⟩ = some (.int .u32 x.f0) ∧ W.cell? ⟨p, 1, none⟩ = some (.int .u64 x.f1) := ⟨blk_cell h 0, blk_cell h 1⟩
theorem heldC {W : World} {p : Nat} {x : Cli} (h : W.heap[p]? = some (cliO x)) : W.cell? ⟨p, 0, none⟩ = some (.int .u32 x.f0) ∧ W.cell? ⟨p, 1, none⟩ = some (.int .u32 x.f1) ∧ W.cell? ⟨p, 2, none⟩ = some (.int .u64 x.f2) := ⟨blk_cell h 0, blk_cell h 1, blk_cell h 2⟩
theorem seenB_snoc (l : List Seen) (i : Nat) (h : i < l.length) : seenB (l.take (i + 1)) = seenB (l.take i) ++ le 4 l[i].f0.toNat ++ le 8 l[i].f1.toNat := by
  rw [List.take_succ_eq_append_getElem h, seenB_append]
  simp [seenB]
theorem cliB_snoc (l : List Cli) (i : Nat) (h : i < l.length) : cliB (l.take (i + 1)) = cliB (l.take i) ++ le 4 l[i].f0.toNat ++ le 4 l[i].f1.toNat ++ le 8 l[i].f2.toNat := by
  rw [List.take_succ_eq_append_getElem h, cliB_append]
  simp [cliB]
theorem take_len {α : Type} (l : List α) (i : Nat) : (l.take i).length ≤ l.length := by rw [List.length_take]; omega

set_option maxRecDepth 100000 in
set_option maxHeartbeats 8000000 in
theorem putHalf_calls {w0 W : World} {v : Value} {l : List Nat} (k : Int) (sv sc : Value) (view : List Seen) (cl : List Cli) (HO : RowR kB 5 W w0.heap.size v (ofN l)) (HB : Below w0.heap.size w0 W)
    (hv : RowC kS w0 sv view) (hc : RowC kC w0 sc cl) (hk : 0 ≤ k ∧ k < 4294967296) (os : ∀ x ∈ view, okS x) (oc : ∀ x ∈ cl, okC x) (lv : view.length ≤ 10000) (lc : cl.length ≤ 10000) (hL : l.length ≤ 300000) :
    Calls Try.prog 65 #[v, .agg #[.int .u32 k, sv, sc]] W fun e w' => ∃ v', e = .returned v' ∧ Grew w0 W w' v v' (l ++ halfB k view cl) := by
  obtain ⟨A1, n1, rfl, hv1, hv2⟩ := hv
  obtain ⟨A2, n2, rfl, hc1, hc2⟩ := hc
  have CV := Aside0.mk hv2
  have CC := Aside0.mk hc2
  have OS := Aside0.mk os
  have OC := Aside0.mk oc
  have LV := Aside0.mk lv
  have LC := Aside0.mk lc
  have LL := Aside0.mk hL
  have HK := Aside0.mk hk
  obtain ⟨HH, hHH⟩ : ∃ H, H = halfO k (.slice A1 view.length n1) (.slice A2 cl.length n2) := ⟨_, rfl⟩
  have P := heap_new W (halfO k (.slice A1 view.length n1) (.slice A2 cl.length n2))
  have G0 := Aside0.mk (Grew.up (below_al W (halfO k (.slice A1 view.length n1) (.slice A2 cl.length n2))) (Grew.refl (Kd.R_alloc HO _) (HB.alloc HB.size _)))
  obtain ⟨p, hp⟩ : ∃ p, p = W.heap.size := ⟨_, rfl⟩
  rw [← hp] at P
  have PB := Aside0.mk P
  have EP := Aside0.mk hp
  clear hv1 hv2 hc1 hc2 os oc lv lc hL hk P hp HH hHH HO HB
  go_enter Try.func65, Try.ntmps65
  go_upto_region 1 with fail
  change Code.wp _ _ _ _ (W.alloc (halfO k (.slice A1 view.length n1) (.slice A2 cl.length n2)))
  rw [← EP.out]
  generalize W.alloc (halfO k (.slice A1 view.length n1) (.slice A2 cl.length n2)) = W1 at G0 PB ⊢
  clear EP
  have wk : IntKind.u64.wrap k = k := by have := HK.out; rw [IntKind.wrap_u64]; omega
  have wv : IntKind.u64.wrap (view.length : Int) = (view.length : Int) := by have := LV.out; rw [IntKind.wrap_u64]; omega
  have wc : IntKind.u64.wrap (cl.length : Int) = (cl.length : Int) := by have := LC.out; rw [IntKind.wrap_u64]; omega
  have WC := Aside0.mk wc
  have WK := Aside0.mk wk
  have WV := Aside0.mk wv
  have D0 := Aside0.mk (below_of_drew W1)
  have P0 := Aside0.mk (blk_drew1 PB.out)
  have R0 := Aside0.mk (Kd.R_drew G0.out.r)
  have B0 := Aside0.mk (below_drew1 G0.out.b)
  have HS0 := heldH P0.out
  go_region_held3 (fun w' => w'.cell? ⟨p, 0, none⟩ = some (.int .u32 k) ∧ w'.cell? ⟨p, 1, none⟩ = some (.slice A1 view.length n1) ∧ w'.cell? ⟨p, 2, none⟩ = some (.slice A2 cl.length n2))
    (first | exact HS0 | with_reducible exact heldH P1.out | with_reducible exact heldH P2.out)
    (first
      | (go_at_call 84; (with_reducible refine (put4 (l := (l ++ le 4 k.toNat)) (view.length : Int) (by omega) (by have := LV.out; omega) (by have := LL.out; simp only [List.length_append, le_length]; omega) G1.out.r G1.out.b).mono ?_); rintro e wb ⟨v2, rfl, h⟩; have P2 := Aside0.mk (Grew.blk h P1.out (by decide) G1.out.r); have G2 := Aside0.mk h; clear h)
      | (go_at_call 84; (with_reducible refine (put4 (l := l) k HK.out.1 HK.out.2 (by have := LL.out; omega) R0.out B0.out).mono ?_); rintro e wa ⟨v1, rfl, h⟩; have P1 := Aside0.mk (Grew.blk h P0.out (by decide) R0.out); have G1 := Aside0.mk h; clear h))
  have Z := Aside0.mk (Grew.trans (Grew.trans G0.out D0.out G1.out) (Below.refl _ _) G2.out)
  clear G0 G1 G2 P0 P1 R0 B0 HS0 D0 PB wk wv wc
  go_upto_region 2 with fail
  obtain ⟨c0, c1, c2⟩ := heldH P2.out
  obtain ⟨La, hLa⟩ : ∃ L, L = (l ++ le 4 k.toNat ++ le 4 ((view.length : Nat) : Int).toNat) := ⟨_, rfl⟩
  rw [← hLa] at Z
  have EL := Aside0.mk hLa
  have LLa := Aside0.mk (show La.length ≤ 300008 from by rw [hLa]; have := LL.out; simp only [List.length_append, le_length]; omega)
  clear hLa
  go_wp2_with fail
  clear c0 c1 c2
  go_loopw [0, 22] (fun v0 v22 wr => ∃ i : Nat, i ≤ view.length ∧ v22 = .int .i64 i ∧ Aside0 (Grew w0 W wr v v0 (La ++ seenB (view.take i))) ∧ Aside0 (wr.heap[p]? = some (halfO k (.slice A1 view.length n1) (.slice A2 cl.length n2)))) (fun _ v22 _ => view.length - (intOf v22).toNat)
  case atStart => exact ⟨0, by omega, rfl, ⟨by rw [List.take_zero]; simpa [seenB] using Z.out⟩, P2⟩
  case round =>
    obtain ⟨i, hi, rfl, HG, HP⟩ := hrel
    have lv := LV.out
    by_cases hlt : i < view.length
    · have hcr := Kd.C_below CV.out HG.out.b
      obtain ⟨ad, hA, k0, k1⟩ := at_T111 hcr (i : Int) (by omega) (by omega)
      subst hA
      have e1 : rd_T111 view i = view[i] := by simp [rd_T111, hlt]
      rw [e1] at k0 k1
      rw [show ((i : Int)).toNat = i from by omega] at k0 k1
      obtain ⟨x, hx⟩ : ∃ x, x = view[i] := ⟨_, rfl⟩
      have OX := Aside0.mk (show (0 ≤ x.f0 ∧ x.f0 < 4294967296) ∧ (0 ≤ x.f1 ∧ x.f1 < 18446744073709551616) from by rw [hx]; exact OS.out _ (List.getElem_mem _))
      have EX := Aside0.mk hx
      rw [← hx] at k0 k1
      have SN := Aside0.mk (seenB_snoc view i hlt)
      clear hcr e1 hx P2 Z
      obtain ⟨q, hq⟩ : ∃ q, q = wr.heap.size := ⟨_, rfl⟩
      have Q := heap_new wr (seenO x)
      rw [← hq] at Q
      have Q0 := Aside0.mk (blk_drew1 Q)
      have EQ := Aside0.mk hq
      have D0 := Aside0.mk (below_drew1 (below_al wr (seenO x)))
      have P0 := Aside0.mk (blk_drew1 (blk_alloc HP.out (seenO x)))
      have R0 := Aside0.mk (Kd.R_drew (Kd.R_alloc HG.out.r (seenO x)))
      have B0 := Aside0.mk (below_drew1 (HG.out.b.alloc HG.out.b.size (seenO x)))
      clear Q hq
      go_upto_region 5 with fail
      change Code.wp _ _ _ _ (wr.alloc (seenO x))
      rw [← EQ.out]
      generalize wr.alloc (seenO x) = wx at Q0 D0 P0 R0 B0 ⊢
      clear k0 k1
      have LS := Aside0.mk (show (La ++ seenB (view.take i)).length ≤ 800000 from by have := LLa.out; have := take_len view i; simp only [List.length_append, seenB_length]; omega)
      have wx0 : IntKind.u64.wrap x.f0 = x.f0 := by have := OX.out.1; rw [IntKind.wrap_u64]; omega
      have HS0 := heldS Q0.out
      go_region_held3 (fun w' => w'.cell? ⟨q, 0, none⟩ = some (.int .u32 x.f0) ∧ w'.cell? ⟨q, 1, none⟩ = some (.int .u64 x.f1))
        (first | exact HS0 | with_reducible exact heldS Q1.out | with_reducible exact heldS Q2.out)
        (first
          | (go_at_call 84; (with_reducible refine (put8 (l := La ++ seenB (view.take i) ++ le 4 x.f0.toNat) x.f1 OX.out.2.1 OX.out.2.2 (by have := LS.out; rw [List.length_append, le_length]; omega) G1.out.r G1.out.b).mono ?_); rintro e wb ⟨v2, rfl, h⟩; have P2 := Aside0.mk (Grew.blk h P1.out (by decide) G1.out.r); have Q2 := Aside0.mk (Grew.blk h Q1.out (by decide) G1.out.r); have G2 := Aside0.mk h; clear h)
          | (go_at_call 84; (with_reducible refine (put4 (l := La ++ seenB (view.take i)) x.f0 OX.out.1.1 OX.out.1.2 (by have := LS.out; omega) R0.out B0.out).mono ?_); rintro e wa ⟨v1, rfl, h⟩; have P1 := Aside0.mk (Grew.blk h P0.out (by decide) R0.out); have Q1 := Aside0.mk (Grew.blk h Q0.out (by decide) R0.out); have G1 := Aside0.mk h; clear h))
      have Z := Aside0.mk (Grew.trans (Grew.trans HG.out D0.out G1.out) (Below.refl _ _) G2.out)
      clear HS0 wx0 EQ Q0 Q1 Q2 P0 P1 R0 B0 D0 G1 G2 HP
      go_wp2_with fail
      go_roundw
      case rel => exact ⟨i + 1, by omega, by go_num, ⟨by rw [SN.out, ← EX.out, ← List.append_assoc, ← List.append_assoc]; exact Z.out⟩, P2⟩
      case measure => simp [intOf]; omega
    · obtain rfl : i = view.length := by omega
      clear P2 Z
      rw [List.take_of_length_le (Nat.le_refl _)] at HG
      obtain ⟨Lb, hLb⟩ : ∃ L, L = La ++ seenB view := ⟨_, rfl⟩
      rw [← hLb] at HG
      have EB := Aside0.mk hLb
      have LLb := Aside0.mk (show Lb.length ≤ 420008 from by rw [hLb]; have := LLa.out; simp only [List.length_append, seenB_length]; omega)
      clear hLb
      obtain ⟨c0, c1, c2⟩ := heldH HP.out
      have wc := WC.out
      go_wp2_with fail
      refine (put4 (l := Lb) (cl.length : Int) (by omega) (by have := LC.out; omega) (by have := LLb.out; omega) HG.out.r HG.out.b).mono ?_
      rintro e wp ⟨v3, rfl, h⟩
      have P3 := Aside0.mk (Grew.blk h HP.out (by decide) HG.out.r)
      have G3 := Aside0.mk (Grew.trans HG.out (Below.refl _ _) h)
      clear h HG HP c0 c1 c2 wc
      obtain ⟨c0, c1, c2⟩ := heldH P3.out
      obtain ⟨Lc, hLc⟩ : ∃ L, L = Lb ++ le 4 ((cl.length : Nat) : Int).toNat := ⟨_, rfl⟩
      rw [← hLc] at G3
      have EC := Aside0.mk hLc
      have LLc := Aside0.mk (show Lc.length ≤ 420012 from by rw [hLc]; have := LLb.out; simp only [List.length_append, le_length]; omega)
      clear hLc
      go_wp2_with fail
      clear c0 c1 c2 lv
      go_loopw [0, 44] (fun v0 v44 wr => ∃ i : Nat, i ≤ cl.length ∧ v44 = .int .i64 i ∧ Aside0 (Grew w0 W wr v v0 (Lc ++ cliB (cl.take i)))) (fun _ v44 _ => cl.length - (intOf v44).toNat)
      case atStart => exact ⟨0, by omega, rfl, ⟨by rw [List.take_zero]; simpa [cliB] using G3.out⟩⟩
      case round =>
        obtain ⟨i, hi, rfl, HG⟩ := hrel
        have lc := LC.out
        by_cases hlt : i < cl.length
        · have hcr := Kd.C_below CC.out HG.out.b
          obtain ⟨ad, hA, k0, k1, k2⟩ := at_T114 hcr (i : Int) (by omega) (by omega)
          subst hA
          have e1 : rd_T114 cl i = cl[i] := by simp [rd_T114, hlt]
          rw [e1] at k0 k1 k2
          rw [show ((i : Int)).toNat = i from by omega] at k0 k1 k2
          obtain ⟨x, hx⟩ : ∃ x, x = cl[i] := ⟨_, rfl⟩
          have OX := Aside0.mk (show (0 ≤ x.f0 ∧ x.f0 < 4294967296) ∧ (0 ≤ x.f1 ∧ x.f1 < 4294967296) ∧ (0 ≤ x.f2 ∧ x.f2 < 18446744073709551616) from by rw [hx]; exact OC.out _ (List.getElem_mem _))
          have EX := Aside0.mk hx
          rw [← hx] at k0 k1 k2
          have SN := Aside0.mk (cliB_snoc cl i hlt)
          clear hcr e1 hx P3 G3
          obtain ⟨q, hq⟩ : ∃ q, q = wr.heap.size := ⟨_, rfl⟩
          have Q := heap_new wr (cliO x)
          rw [← hq] at Q
          have Q0 := Aside0.mk (blk_drew1 Q)
          have EQ := Aside0.mk hq
          have D0 := Aside0.mk (below_drew1 (below_al wr (cliO x)))
          have R0 := Aside0.mk (Kd.R_drew (Kd.R_alloc HG.out.r (cliO x)))
          have B0 := Aside0.mk (below_drew1 (HG.out.b.alloc HG.out.b.size (cliO x)))
          clear Q hq
          go_upto_region 11 with fail
          change Code.wp _ _ _ _ (wr.alloc (cliO x))
          rw [← EQ.out]
          generalize wr.alloc (cliO x) = wx at Q0 D0 R0 B0 ⊢
          clear k0 k1 k2
          have LS := Aside0.mk (show (Lc ++ cliB (cl.take i)).length ≤ 800000 from by have := LLc.out; have := take_len cl i; simp only [List.length_append, cliB_length]; omega)
          have wx0 : IntKind.u64.wrap x.f0 = x.f0 := by have := OX.out.1; rw [IntKind.wrap_u64]; omega
          have wx1 : IntKind.u64.wrap x.f1 = x.f1 := by have := OX.out.2.1; rw [IntKind.wrap_u64]; omega
          have HS0 := heldC Q0.out
          go_region_held3 (fun w' => w'.cell? ⟨q, 0, none⟩ = some (.int .u32 x.f0) ∧ w'.cell? ⟨q, 1, none⟩ = some (.int .u32 x.f1) ∧ w'.cell? ⟨q, 2, none⟩ = some (.int .u64 x.f2))
            (first | exact HS0 | with_reducible exact heldC Q1.out | with_reducible exact heldC Q2.out | with_reducible exact heldC Q3.out)
            (first
              | (go_at_call 84; (with_reducible refine (put8 (l := Lc ++ cliB (cl.take i) ++ le 4 x.f0.toNat ++ le 4 x.f1.toNat) x.f2 OX.out.2.2.1 OX.out.2.2.2 (by have := LS.out; rw [List.length_append, List.length_append, le_length, le_length]; omega) G2.out.r G2.out.b).mono ?_); rintro e wc ⟨v3, rfl, h⟩; have Q3 := Aside0.mk (Grew.blk h Q2.out (by decide) G2.out.r); have G3 := Aside0.mk h; clear h)
              | (go_at_call 84; (with_reducible refine (put4 (l := Lc ++ cliB (cl.take i) ++ le 4 x.f0.toNat) x.f1 OX.out.2.1.1 OX.out.2.1.2 (by have := LS.out; rw [List.length_append, le_length]; omega) G1.out.r G1.out.b).mono ?_); rintro e wb ⟨v2, rfl, h⟩; have Q2 := Aside0.mk (Grew.blk h Q1.out (by decide) G1.out.r); have G2 := Aside0.mk h; clear h)
              | (go_at_call 84; (with_reducible refine (put4 (l := Lc ++ cliB (cl.take i)) x.f0 OX.out.1.1 OX.out.1.2 (by have := LS.out; omega) R0.out B0.out).mono ?_); rintro e wa ⟨v1, rfl, h⟩; have Q1 := Aside0.mk (Grew.blk h Q0.out (by decide) R0.out); have G1 := Aside0.mk h; clear h))
          have Z := Aside0.mk (Grew.trans (Grew.trans (Grew.trans HG.out D0.out G1.out) (Below.refl _ _) G2.out) (Below.refl _ _) G3.out)
          clear HS0 wx0 wx1 EQ Q0 Q1 Q2 Q3 R0 B0 D0 G1 G2 G3
          go_wp2_with fail
          go_roundw
          case rel => exact ⟨i + 1, by omega, by go_num, ⟨by rw [SN.out, ← EX.out, ← List.append_assoc, ← List.append_assoc, ← List.append_assoc]; exact Z.out⟩⟩
          case measure => simp [intOf]; omega
        · obtain rfl : i = cl.length := by omega
          rw [List.take_of_length_le (Nat.le_refl _)] at HG
          clear P3 G3
          go_wp2_with fail
          go_ret
          refine ⟨_, rfl, ?_⟩
          have h := HG.out
          rw [EC.out, EB.out, EL.out] at h
          simp only [List.append_assoc] at h
          exact h
theorem seen_at {W : World} {A : Option Addr} {l : List Seen} (h : Kd.C kS W A l.length l) (i : Nat) (hlt : i < l.length) : ∃ ad, A = some ad := by
  obtain ⟨ad, hA, _⟩ := at_T111 h (i : Int) (by omega) (by omega)
  exact ⟨ad, hA⟩
theorem seen_cells {W : World} {ad : Addr} {l : List Seen} (h : Kd.C kS W (some ad) l.length l) (i : Nat) (hlt : i < l.length) : W.cell? (ad.add (i * 2)) = some (.int .u32 l[i].f0) ∧ W.cell? ⟨(ad.add (i * 2)).block, (ad.add (i * 2)).off + 1, none⟩ = some (.int .u64 l[i].f1) := by
  obtain ⟨ad', hA, k0, k1⟩ := at_T111 h (i : Int) (by omega) (by omega)
  injection hA with hA
  subst hA
  have e1 : rd_T111 l i = l[i] := by simp [rd_T111, hlt]
  rw [e1] at k0 k1
  exact ⟨k0, k1⟩
theorem cli_at {W : World} {A : Option Addr} {l : List Cli} (h : Kd.C kC W A l.length l) (i : Nat) (hlt : i < l.length) : ∃ ad, A = some ad := by
  obtain ⟨ad, hA, _⟩ := at_T114 h (i : Int) (by omega) (by omega)
  exact ⟨ad, hA⟩
theorem cli_cells {W : World} {ad : Addr} {l : List Cli} (h : Kd.C kC W (some ad) l.length l) (i : Nat) (hlt : i < l.length) : W.cell? (ad.add (i * 3)) = some (.int .u32 l[i].f0) ∧ W.cell? ⟨(ad.add (i * 3)).block, (ad.add (i * 3)).off + 1, none⟩ = some (.int .u32 l[i].f1) ∧ W.cell? ⟨(ad.add (i * 3)).block, (ad.add (i * 3)).off + 2, none⟩ = some (.int .u64 l[i].f2) := by
  obtain ⟨ad', hA, k0, k1, k2⟩ := at_T114 h (i : Int) (by omega) (by omega)
  injection hA with hA
  subst hA
  have e1 : rd_T114 l i = l[i] := by simp [rd_T114, hlt]
  rw [e1] at k0 k1 k2
  exact ⟨k0, k1, k2⟩
set_option maxRecDepth 100000 in
set_option maxHeartbeats 8000000 in
theorem refputHalf_calls {w0 W : World} {v : Value} {l : List Nat} (k : Int) (sv sc : Value) (view : List Seen) (cl : List Cli) (HO : RowR kB 5 W w0.heap.size v (ofN l)) (HB : Below w0.heap.size w0 W)
    (hv : RowC kS w0 sv view) (hc : RowC kC w0 sc cl) (hk : 0 ≤ k ∧ k < 4294967296) (os : ∀ x ∈ view, okS x) (oc : ∀ x ∈ cl, okC x) (lv : view.length ≤ 10000) (lc : cl.length ≤ 10000) (hL : l.length ≤ 300000) :
    Calls Try.prog 66 #[v, .agg #[.int .u32 k, sv, sc]] W fun e w' => ∃ v', e = .returned v' ∧ Grew w0 W w' v v' (l ++ halfB k view cl) := by
  obtain ⟨A1, n1, rfl, hv1, hv2⟩ := hv
  obtain ⟨A2, n2, rfl, hc1, hc2⟩ := hc
  have CV := Aside0.mk hv2
  have CC := Aside0.mk hc2
  have OS := Aside0.mk os
  have OC := Aside0.mk oc
  have LV := Aside0.mk lv
  have LC := Aside0.mk lc
  have LL := Aside0.mk hL
  have HK := Aside0.mk hk
  obtain ⟨HH, hHH⟩ : ∃ H, H = halfO k (.slice A1 view.length n1) (.slice A2 cl.length n2) := ⟨_, rfl⟩
  have P := heap_new W (halfO k (.slice A1 view.length n1) (.slice A2 cl.length n2))
  have G0 := Aside0.mk (Grew.up (below_al W (halfO k (.slice A1 view.length n1) (.slice A2 cl.length n2))) (Grew.refl (Kd.R_alloc HO _) (HB.alloc HB.size _)))
  obtain ⟨p, hp⟩ : ∃ p, p = W.heap.size := ⟨_, rfl⟩
  rw [← hp] at P
  have PB := Aside0.mk P
  have EP := Aside0.mk hp
  clear hv1 hv2 hc1 hc2 os oc lv lc hL hk P hp HH hHH HO HB
  go_enter Try.func66, Try.ntmps66
  go_upto_region 1 with fail
  change Code.wp _ _ _ _ (W.alloc (halfO k (.slice A1 view.length n1) (.slice A2 cl.length n2)))
  rw [← EP.out]
  generalize W.alloc (halfO k (.slice A1 view.length n1) (.slice A2 cl.length n2)) = W1 at G0 PB ⊢
  clear EP
  have wk : IntKind.u64.wrap k = k := by have := HK.out; rw [IntKind.wrap_u64]; omega
  have wv : IntKind.u64.wrap (view.length : Int) = (view.length : Int) := by have := LV.out; rw [IntKind.wrap_u64]; omega
  have wc : IntKind.u64.wrap (cl.length : Int) = (cl.length : Int) := by have := LC.out; rw [IntKind.wrap_u64]; omega
  have WC := Aside0.mk wc
  have WK := Aside0.mk wk
  have WV := Aside0.mk wv
  obtain ⟨c0, c1, c2⟩ := heldH PB.out
  go_wp2_with fail
  refine (refput4 k HK.out.1 HK.out.2 (by have := LL.out; omega) G0.out.r G0.out.b).mono ?_
  rintro e wa ⟨v1, rfl, h⟩
  have P1 := Aside0.mk (Grew.blk h PB.out (by decide) G0.out.r)
  have G1 := Aside0.mk (Grew.trans G0.out (Below.refl _ _) h)
  clear h
  clear c0 c1 c2
  obtain ⟨c0, c1, c2⟩ := heldH P1.out
  go_wp2_with fail
  refine (refput4 (l := (l ++ le 4 k.toNat)) (view.length : Int) (by omega) (by have := LV.out; omega) (by have := LL.out; simp only [List.length_append, le_length]; omega) G1.out.r G1.out.b).mono ?_
  rintro e wb ⟨v2, rfl, h⟩
  have P2 := Aside0.mk (Grew.blk h P1.out (by decide) G1.out.r)
  have G2 := Aside0.mk (Grew.trans G1.out (Below.refl _ _) h)
  clear h
  clear c0 c1 c2 G0 G1 PB P1
  obtain ⟨La, hLa⟩ : ∃ L, L = (l ++ le 4 k.toNat ++ le 4 ((view.length : Nat) : Int).toNat) := ⟨_, rfl⟩
  rw [← hLa] at G2
  have EL := Aside0.mk hLa
  have LLa := Aside0.mk (show La.length ≤ 300008 from by rw [hLa]; have := LL.out; simp only [List.length_append, le_length]; omega)
  clear hLa wk wv wc
  go_wp2_with fail
  go_loopw [0, 5] (fun v0 v5 wr => ∃ i : Nat, i ≤ view.length ∧ v5 = .int .i64 i ∧ Aside0 (Grew w0 W wr v v0 (La ++ seenB (view.take i))) ∧ Aside0 (wr.heap[p]? = some (halfO k (.slice A1 view.length n1) (.slice A2 cl.length n2)))) (fun _ v5 _ => view.length - (intOf v5).toNat)
  case atStart => exact ⟨0, by omega, rfl, ⟨by rw [List.take_zero]; simpa [seenB] using G2.out⟩, P2⟩
  case round =>
    obtain ⟨i, hi, rfl, HG, HP⟩ := hrel
    have lv := LV.out
    obtain ⟨c0, c1, c2⟩ := heldH HP.out
    by_cases hlt : i < view.length
    · obtain ⟨ad, rfl⟩ := seen_at CV.out i hlt
      obtain ⟨k0, k1⟩ := seen_cells (Kd.C_below CV.out HG.out.b) i hlt
      obtain ⟨x, hx⟩ : ∃ x, x = view[i] := ⟨_, rfl⟩
      have OX := Aside0.mk (show (0 ≤ x.f0 ∧ x.f0 < 4294967296) ∧ (0 ≤ x.f1 ∧ x.f1 < 18446744073709551616) from by rw [hx]; exact OS.out _ (List.getElem_mem _))
      have EX := Aside0.mk hx
      rw [← hx] at k0 k1
      have SN := Aside0.mk (seenB_snoc view i hlt)
      have LS := Aside0.mk (show (La ++ seenB (view.take i)).length ≤ 800000 from by have := LLa.out; have := take_len view i; simp only [List.length_append, seenB_length]; omega)
      have wx0 : IntKind.u64.wrap x.f0 = x.f0 := by have := OX.out.1; rw [IntKind.wrap_u64]; omega
      clear hx P2 G2
      go_wp2_with fail
      refine (refput4 x.f0 OX.out.1.1 OX.out.1.2 (by have := LS.out; omega) HG.out.r HG.out.b).mono ?_
      rintro e wa ⟨v1, rfl, h⟩
      have P1 := Aside0.mk (Grew.blk h HP.out (by decide) HG.out.r)
      have G1 := Aside0.mk (Grew.trans HG.out (Below.refl _ _) h)
      clear h
      clear c0 c1 c2 k0 k1 wx0
      obtain ⟨c0, c1, c2⟩ := heldH P1.out
      obtain ⟨k0, k1⟩ := seen_cells (Kd.C_below CV.out G1.out.b) i hlt
      rw [← EX.out] at k0 k1
      go_wp2_with fail
      refine (refput8 x.f1 OX.out.2.1 OX.out.2.2 (by have := LS.out; rw [List.length_append, le_length]; omega) G1.out.r G1.out.b).mono ?_
      rintro e wb ⟨v2, rfl, h⟩
      have P2 := Aside0.mk (Grew.blk h P1.out (by decide) G1.out.r)
      have G2 := Aside0.mk (Grew.trans G1.out (Below.refl _ _) h)
      clear h
      clear c0 c1 c2 k0 k1 G1 P1 HG HP
      go_wp2_with fail
      go_roundw
      case rel => exact ⟨i + 1, by omega, by go_num, ⟨by rw [SN.out, ← EX.out, ← List.append_assoc, ← List.append_assoc]; exact G2.out⟩, P2⟩
      case measure => simp [intOf]; omega
    · obtain rfl : i = view.length := by omega
      clear P2 G2
      rw [List.take_of_length_le (Nat.le_refl _)] at HG
      obtain ⟨Lb, hLb⟩ : ∃ L, L = La ++ seenB view := ⟨_, rfl⟩
      rw [← hLb] at HG
      have EB := Aside0.mk hLb
      have LLb := Aside0.mk (show Lb.length ≤ 420008 from by rw [hLb]; have := LLa.out; simp only [List.length_append, seenB_length]; omega)
      clear hLb
      have wc := WC.out
      go_wp2_with fail
      refine (refput4 (cl.length : Int) (by omega) (by have := LC.out; omega) (by have := LLb.out; omega) HG.out.r HG.out.b).mono ?_
      rintro e wp ⟨v3, rfl, h⟩
      have P3 := Aside0.mk (Grew.blk h HP.out (by decide) HG.out.r)
      have G3 := Aside0.mk (Grew.trans HG.out (Below.refl _ _) h)
      clear h
      clear HG HP c0 c1 c2 wc
      obtain ⟨Lc, hLc⟩ : ∃ L, L = Lb ++ le 4 ((cl.length : Nat) : Int).toNat := ⟨_, rfl⟩
      rw [← hLc] at G3
      have EC := Aside0.mk hLc
      have LLc := Aside0.mk (show Lc.length ≤ 420012 from by rw [hLc]; have := LLb.out; simp only [List.length_append, le_length]; omega)
      clear hLc lv
      go_wp2_with fail
      go_loopw [0, 6] (fun v0 v6 wr => ∃ i : Nat, i ≤ cl.length ∧ v6 = .int .i64 i ∧ Aside0 (Grew w0 W wr v v0 (Lc ++ cliB (cl.take i))) ∧ Aside0 (wr.heap[p]? = some (halfO k (.slice A1 view.length n1) (.slice A2 cl.length n2)))) (fun _ v6 _ => cl.length - (intOf v6).toNat)
      case atStart => exact ⟨0, by omega, rfl, ⟨by rw [List.take_zero]; simpa [cliB] using G3.out⟩, P3⟩
      case round =>
        obtain ⟨i, hi, rfl, HG, HP⟩ := hrel
        have lc := LC.out
        obtain ⟨c0, c1, c2⟩ := heldH HP.out
        by_cases hlt : i < cl.length
        · obtain ⟨ad, rfl⟩ := cli_at CC.out i hlt
          obtain ⟨k0, k1, k2⟩ := cli_cells (Kd.C_below CC.out HG.out.b) i hlt
          obtain ⟨x, hx⟩ : ∃ x, x = cl[i] := ⟨_, rfl⟩
          have OX := Aside0.mk (show (0 ≤ x.f0 ∧ x.f0 < 4294967296) ∧ (0 ≤ x.f1 ∧ x.f1 < 4294967296) ∧ (0 ≤ x.f2 ∧ x.f2 < 18446744073709551616) from by rw [hx]; exact OC.out _ (List.getElem_mem _))
          have EX := Aside0.mk hx
          rw [← hx] at k0 k1 k2
          have SN := Aside0.mk (cliB_snoc cl i hlt)
          have LS := Aside0.mk (show (Lc ++ cliB (cl.take i)).length ≤ 800000 from by have := LLc.out; have := take_len cl i; simp only [List.length_append, cliB_length]; omega)
          have wx0 : IntKind.u64.wrap x.f0 = x.f0 := by have := OX.out.1; rw [IntKind.wrap_u64]; omega
          have wx1 : IntKind.u64.wrap x.f1 = x.f1 := by have := OX.out.2.1; rw [IntKind.wrap_u64]; omega
          clear hx P3 G3
          go_wp2_with fail
          refine (refput4 x.f0 OX.out.1.1 OX.out.1.2 (by have := LS.out; omega) HG.out.r HG.out.b).mono ?_
          rintro e wa ⟨v1, rfl, h⟩
          have P1 := Aside0.mk (Grew.blk h HP.out (by decide) HG.out.r)
          have G1 := Aside0.mk (Grew.trans HG.out (Below.refl _ _) h)
          clear h
          clear c0 c1 c2 k0 k1 k2
          obtain ⟨c0, c1, c2⟩ := heldH P1.out
          obtain ⟨k0, k1, k2⟩ := cli_cells (Kd.C_below CC.out G1.out.b) i hlt
          rw [← EX.out] at k0 k1 k2
          go_wp2_with fail
          refine (refput4 x.f1 OX.out.2.1.1 OX.out.2.1.2 (by have := LS.out; rw [List.length_append, le_length]; omega) G1.out.r G1.out.b).mono ?_
          rintro e wb ⟨v2, rfl, h⟩
          have P2 := Aside0.mk (Grew.blk h P1.out (by decide) G1.out.r)
          have G2 := Aside0.mk (Grew.trans G1.out (Below.refl _ _) h)
          clear h
          clear c0 c1 c2 k0 k1 k2
          obtain ⟨c0, c1, c2⟩ := heldH P2.out
          obtain ⟨k0, k1, k2⟩ := cli_cells (Kd.C_below CC.out G2.out.b) i hlt
          rw [← EX.out] at k0 k1 k2
          go_wp2_with fail
          refine (refput8 x.f2 OX.out.2.2.1 OX.out.2.2.2 (by have := LS.out; rw [List.length_append, List.length_append, le_length, le_length]; omega) G2.out.r G2.out.b).mono ?_
          rintro e wc ⟨v3, rfl, h⟩
          have P3 := Aside0.mk (Grew.blk h P2.out (by decide) G2.out.r)
          have G3 := Aside0.mk (Grew.trans G2.out (Below.refl _ _) h)
          clear h
          clear c0 c1 c2 k0 k1 k2 G1 P1 G2 P2 HG HP wx0 wx1
          go_wp2_with fail
          go_roundw
          case rel => exact ⟨i + 1, by omega, by go_num, ⟨by rw [SN.out, ← EX.out, ← List.append_assoc, ← List.append_assoc, ← List.append_assoc]; exact G3.out⟩, P3⟩
          case measure => simp [intOf]; omega
        · obtain rfl : i = cl.length := by omega
          rw [List.take_of_length_le (Nat.le_refl _)] at HG
          clear P3 G3
          go_wp2_with fail
          go_ret
          refine ⟨_, rfl, ?_⟩
          have h := HG.out
          rw [EC.out, EB.out, EL.out] at h
          simp only [List.append_assoc] at h
          exact h
end Go.Proofs.Ytpanefmemabckaa.GenHalf
namespace Go.Proofs.Ytpanefmemabckaa.GenMay
open Go.RowKit Go.Proofs.Ytpanefmemabckaa.NumA Go.Proofs.Ytpanefmemabckaa.GenS Go.Proofs.Ytpanefmemabckaa.GenRep Go.Proofs.Ytpanefmemabckaa.GenBlk Go.Proofs.Ytpanefmemabckaa.GenPure Go.Proofs.Ytpanefmemabckaa.GenMath Go.Proofs.Ytpanefmemabckaa.GenHalf Go.Proofs.YtpanefmemabckaaW.PrintWords Go.Proofs.YtpanefmemabckaaW.PrintLast
open Go.Maps
open Go.Proofs.Ytpanefmemabckaa.GenZero (heap_new blk_kept blk_drew1)
set_option linter.unusedSimpArgs false
set_option linter.unusedVariables false

set_option maxRecDepth 100000 in
set_option maxHeartbeats 4000000 in
theorem rising_calls {W : World} {sv : Value} {view : List Seen} (hv : RowC kS W sv view) (lv : view.length ≤ 1000000) :
    Calls Try.prog 88 #[sv] W fun e w' => e = .returned (.bool (rise 0 view)) ∧ Below W.heap.size W w' := by
  obtain ⟨A1, n1, rfl, _, hv2⟩ := hv
  have CV := Aside0.mk hv2
  have LV := Aside0.mk lv
  clear hv2
  go_enter Try.func88, Try.ntmps88
  go_wp2_with fail
  go_loopw [3, 8] (fun v3 v8 wr => ∃ (i : Nat) (last : Int), i ≤ view.length ∧ v8 = .int .i64 i ∧ v3 = .int .u32 last ∧ Aside0 (rise 0 view = rise last (view.drop i)) ∧ Aside0 (Below W.heap.size W wr)) (fun _ v8 _ => view.length - (intOf v8).toNat)
  case atStart => exact ⟨0, 0, by omega, rfl, rfl, ⟨by rw [List.drop_zero]⟩, ⟨Below.refl _ _⟩⟩
  case round =>
    obtain ⟨i, last, hi, rfl, rfl, HE, HB⟩ := hrel
    by_cases hlt : i < view.length
    · obtain ⟨ad, rfl⟩ := seen_at CV.out i hlt
      obtain ⟨k0, k1⟩ := seen_cells (Kd.C_below CV.out HB.out) i hlt
      obtain ⟨x, hx⟩ : ∃ x, x = view[i] := ⟨_, rfl⟩
      rw [← hx] at k0 k1
      have he := HE.out
      rw [List.drop_eq_getElem_cons hlt, ← hx, rise] at he
      have B1 := Aside0.mk (HB.out.alloc HB.out.size (seenO x))
      clear hx HE HB
      by_cases hl : x.f0 ≤ last
      · rw [if_pos hl] at he
        have hl' : decide (x.f0 ≤ last) = true := decide_eq_true hl
        have HE := Aside0.mk he
        clear hl he
        go_wp2_with fail
        go_ret
        exact ⟨by rw [HE.out]; rfl, B1.out⟩
      · rw [if_neg hl] at he
        have hl' : decide (x.f0 ≤ last) = false := decide_eq_false hl
        have HE := Aside0.mk he
        clear hl he
        go_wp2_with fail
        go_roundw
        case rel => exact ⟨i + 1, x.f0, by omega, by go_num, rfl, HE, B1⟩
        case measure => simp [intOf]; omega
    · obtain rfl : i = view.length := by omega
      have he := HE.out
      rw [List.drop_length, rise] at he
      have HE' := Aside0.mk he
      clear he HE
      go_wp2_with fail
      go_ret
      exact ⟨by rw [HE'.out]; rfl, HB.out⟩
/-- the map of the numbers that were met -/
def MapOf (D : DataW Unit) (m : List Int) : Prop := Maps.IsMap D ∧ ∀ x : Int, ∀ z, D.atKey (.int .u32 x) z = if x ∈ m then .lit (.int .i64 1) else z
theorem mapOf_nil : MapOf (.map []) [] := ⟨⟨[], rfl⟩, fun x z => by rw [if_neg (by simp)]; rfl⟩
theorem mapOf_put {D : DataW Unit} {m : List Int} (h : MapOf D m) (y : Int) : MapOf (D.put (.int .u32 y) (.lit (.int .i64 1))) (y :: m) := by
  refine ⟨Maps.IsMap.put h.1 _ _, fun x z => ?_⟩
  by_cases e : x = y
  · subst e
    rw [Maps.atKey_put_same h.1 (by trivial), if_pos List.mem_cons_self]
  · rw [Maps.atKey_put_other (fun he => e (by injection he)), h.2]
    by_cases hm : x ∈ m
    · rw [if_pos hm, if_pos (List.mem_cons_of_mem _ hm)]
    · rw [if_neg hm, if_neg (fun h => (List.mem_cons.1 h).elim e hm)]
theorem mapOf_c {D : DataW Unit} {m : List Int} (h : MapOf D m) {x c : Int} (hat : D.atKey (.int .u32 x) (.lit (.int .i64 0)) = .lit (.int .i64 c)) : c = if x ∈ m then 1 else 0 := by
  rw [h.2] at hat
  split at hat
  · next hm => rw [if_pos hm]; injection hat with hat; injection hat with _ hat; exact hat.symm
  · next hm => rw [if_neg hm]; injection hat with hat; injection hat with _ hat; exact hat.symm
theorem zeroI (w : World) : (zeroValue 3).run Try.prog w = .ok (.int .i64 0) w := by kernel_rfl
theorem u32_wf {x : Int} (h : 0 ≤ x ∧ x < 4294967296) : (Lit.int .u32 x).wf = true := by
  unfold Lit.wf
  rw [Bool.and_eq_true]
  exact ⟨decide_eq_true h.1, decide_eq_true (by show x ≤ 4294967295; omega)⟩
set_option maxRecDepth 100000 in
set_option maxHeartbeats 8000000 in
theorem half_calls {W : World} (k : Int) (sv sc : Value) (view : List Seen) (cl : List Cli) (hv : RowC kS W sv view) (hc : RowC kC W sc cl) (lv : view.length ≤ 1000000) (lc : cl.length ≤ 1000000) (oc : ∀ x ∈ cl, okC x) :
    Calls Try.prog 73 #[.agg #[.int .u32 k, sv, sc]] W fun e w' => e = .returned (.bool (mayH k view cl)) ∧ Below W.heap.size W w' := by
  obtain ⟨A1, n1, rfl, hv1, hv2⟩ := hv
  obtain ⟨A2, n2, rfl, _, hc2⟩ := hc
  have RV := Aside0.mk (show RowC kS W (.slice A1 view.length n1) view from ⟨A1, n1, rfl, hv1, hv2⟩)
  have CC := Aside0.mk hc2
  have OC := Aside0.mk oc
  have LV := Aside0.mk lv
  have LC := Aside0.mk lc
  have P := Aside0.mk (heap_new W (halfO k (.slice A1 view.length n1) (.slice A2 cl.length n2)))
  have B0 := Aside0.mk (below_al W (halfO k (.slice A1 view.length n1) (.slice A2 cl.length n2)))
  obtain ⟨p, hp⟩ : ∃ p, p = W.heap.size := ⟨_, rfl⟩
  rw [← hp] at P
  have EP := Aside0.mk hp
  clear hv1 hv2 hc2 oc hp
  have hmm := @run_makeMap Try.prog
  go_enter Try.func73, Try.ntmps73
  go_upto_region 1 with fail
  change Code.wp _ _ _ _ (W.alloc (halfO k (.slice A1 view.length n1) (.slice A2 cl.length n2)))
  rw [← EP.out]
  generalize W.alloc (halfO k (.slice A1 view.length n1) (.slice A2 cl.length n2)) = W1 at P B0 ⊢
  clear EP
  obtain ⟨c0, c1, c2⟩ := heldH P.out
  go_wp2_with fail
  refine (rising_calls (RV.out.below B0.out) LV.out).mono ?_
  rintro e w1 ⟨rfl, hb⟩
  replace P := Aside0.mk (blk_kept P.out hb)
  replace B0 := Aside0.mk (below_then B0.out B0.out.size hb)
  clear hb c0 c1 c2
  cases hr : rise 0 view with
  | false =>
    have HE := Aside0.mk (show mayH k view cl = false from by unfold mayH; rw [hr]; rfl)
    clear hr
    go_wp2_with fail
    go_ret
    exact ⟨by rw [HE.out]; rfl, B0.out⟩
  | true =>
    have HR := Aside0.mk hr
    clear hr
    obtain ⟨c0, c1, c2⟩ := heldH P.out
    by_cases h64 : 64 < cl.length
    · have HE := Aside0.mk (show mayH k view cl = false from by unfold mayH; rw [decide_eq_false (show ¬ cl.length ≤ 64 from by omega)]; simp)
      go_wp2_with fail
      go_ret
      exact ⟨by rw [HE.out]; rfl, B0.out⟩
    · by_cases hkz : k = 0 ∧ 0 < view.length + cl.length
      · have HE := Aside0.mk (show mayH k view cl = false from by unfold mayH; rw [decide_eq_true hkz.1, decide_eq_true hkz.2]; simp)
        obtain ⟨rfl, hpos⟩ := hkz
        go_wp2_with fail
        go_ret
        exact ⟨by rw [HE.out]; rfl, B0.out⟩
      · have HE := Aside0.mk (show mayH k view cl = clis [0] cl from by
          unfold mayH
          rw [HR.out, decide_eq_true (show cl.length ≤ 64 from by omega)]
          have : (decide (k = 0) && decide (0 < view.length + cl.length)) = false := by
            rw [Bool.eq_false_iff]
            intro h
            rw [Bool.and_eq_true] at h
            exact hkz ⟨of_decide_eq_true h.1, of_decide_eq_true h.2⟩
          rw [this]
          rfl)
        have HZ := Aside0.mk hkz
        have H64 := Aside0.mk h64
        clear hkz h64
        have ways : k ≠ 0 ∨ (k = 0 ∧ view.length ≤ 0 ∧ cl.length ≤ 0) := by
          have := HZ.out
          omega
        have h64' : cl.length ≤ 64 := by have := H64.out; omega
        have HM := Aside0.mk (World.ownsMap_made (H := Unit) w1 Try.prog 22 (plainElem Try.prog 3))
        have BM := Aside0.mk (B0.out.alloc B0.out.size (.map #[] 0))
        have PM := Aside0.mk (blk_alloc P.out (.map #[] 0))
        obtain ⟨w2, hrun, ho2, hg2⟩ := HM.out.update (val := .int .i64 1) (int_keyed Try.underlying22) Try.underlying118 (by unfold maxLen; omega) (keyOf_int_mk Try.underlying22 (a := 0) (by decide)) (plainElem_int Try.underlying3 (by decide))
        have B2 := Aside0.mk (BM.out.grown hg2 BM.out.size (fun j hj => by cases hj; exact B0.out.size))
        have P2 := Aside0.mk (blk_grown PM.out hg2 (fun e => by have := Option.some.inj e; have := blk_lt P.out; omega))
        have O2 := Aside0.mk ho2
        have SB := Aside0.mk B0.out.size
        have M2 := Aside0.mk (mapOf_put mapOf_nil 0)
        have HR2 := Aside0.mk hrun
        obtain ⟨b, hb⟩ : ∃ b, b = w1.heap.size := ⟨_, rfl⟩
        rw [← hb] at O2 SB
        have EB := Aside0.mk hb
        clear hrun ho2 hg2 hb
        rcases ways with hk0 | ⟨hk0, hz1, hz2⟩
        all_goals
          first
            | (have hk0' : (k == 0) = false := beq_eq_false_iff_ne.mpr hk0; clear hk0; go_upto_region 3 with fail; clear hk0')
            | (have hk0' : (k == 0) = true := beq_iff_eq.mpr hk0; clear hk0; go_upto_region 3 with fail; clear hk0' hz1 hz2)
        all_goals
          clear c0 c1 c2
          have hrun := HR2.out
          obtain ⟨c0, c1, c2⟩ := heldH P2.out
          go_wp2_with fail
          clear c0 c1 c2 hmm hrun
          rw [← EB.out]
          go_loopw [36] (fun v36 wr => ∃ (i n : Nat) (D : DataW Unit) (m : List Int), i ≤ cl.length ∧ v36 = .int .i64 i ∧ n ≤ i + 1 ∧ Aside0 (clis [0] cl = clis m (cl.drop i)) ∧ Aside0 (MapOf D m) ∧ Aside0 (wr.ownsMap Try.prog 22 (plainElem Try.prog 3) b n D) ∧ Aside0 (Below W.heap.size W wr)) (fun v36 _ => cl.length - (intOf v36).toNat)
          case atStart => exact ⟨0, 1, _, _, by omega, rfl, by omega, ⟨by rw [List.drop_zero]⟩, M2, O2, B2⟩
          case round =>
            obtain ⟨i, n, D, m, hi, rfl, hn, HC, HD, HO, HB⟩ := hrel
            by_cases hlt : i < cl.length
            · first
              | exact absurd hlt (by omega)
              | (
                    obtain ⟨ad, rfl⟩ := cli_at CC.out i hlt
                    obtain ⟨k0, k1, k2⟩ := cli_cells (Kd.C_below CC.out HB.out) i hlt
                    obtain ⟨x, hx⟩ : ∃ x, x = cl[i] := ⟨_, rfl⟩
                    have OX := Aside0.mk (show okC x from by rw [hx]; exact OC.out _ (List.getElem_mem _))
                    rw [← hx] at k0 k1 k2
                    have hc := HC.out
                    rw [List.drop_eq_getElem_cons hlt, ← hx, clis] at hc
                    have O1 := Aside0.mk (HO.out.kept (World.grownBy_alloc wr (cliO x) none) (by simp))
                    have B1 := Aside0.mk (HB.out.alloc HB.out.size (cliO x))
                    have Q := Aside0.mk (heap_new wr (cliO x))
                    have KY := Aside0.mk (keyOf_int_mk Try.underlying22 (u32_wf OX.out.1))
                    obtain ⟨q, hq⟩ : ∃ q, q = wr.heap.size := ⟨_, rfl⟩
                    rw [← hq] at Q
                    have EQ := Aside0.mk hq
                    clear hx hq HC
                    go_upto_region 7 with fail
                    change Code.wp _ _ _ _ (wr.alloc (cliO x))
                    rw [← EQ.out]
                    generalize wr.alloc (cliO x) = wx at O1 B1 Q ⊢
                    clear k0 k1 k2 EQ
                    obtain ⟨d0, d1, d2⟩ := heldC Q.out
                    by_cases hm : x.f0 ∈ m
                    · rw [if_pos (.inl hm)] at hc
                      have HE' := Aside0.mk hc
                      have HMm := Aside0.mk hm
                      clear hc hm
                      go_wp2_with ((at_lookup; refine wpList_lookup_own_int _ rfl _ _ 118 rfl 22 3 .i64 (int_keyed Try.underlying22) Try.underlying118 Try.underlying3 (zeroI _) b n _ rfl O1.out _ _ rfl KY.out ?_; intro c hat hwc; obtain rfl : c = 1 := by have h := mapOf_c HD.out hat; rw [if_pos HMm.out] at h; exact h))
                      go_ret
                      exact ⟨by rw [HE.out, HE'.out]; rfl, B1.out⟩
                    · have HMm := Aside0.mk hm
                      by_cases h1 : x.f1 = 0
                      · rw [if_pos (.inr h1)] at hc
                        have HE' := Aside0.mk hc
                        have h1' : (x.f1 == 0) = true := beq_iff_eq.mpr h1
                        clear hc hm h1
                        go_wp2_with ((at_lookup; refine wpList_lookup_own_int _ rfl _ _ 118 rfl 22 3 .i64 (int_keyed Try.underlying22) Try.underlying118 Try.underlying3 (zeroI _) b n _ rfl O1.out _ _ rfl KY.out ?_; intro c hat hwc; obtain rfl : c = 0 := by have h := mapOf_c HD.out hat; rw [if_neg HMm.out] at h; exact h))
                        go_ret
                        exact ⟨by rw [HE.out, HE'.out]; rfl, B1.out⟩
                      · rw [if_neg (by rintro (h | h); exact hm h; exact h1 h)] at hc
                        have HE' := Aside0.mk hc
                        have h1' : (x.f1 == 0) = false := beq_eq_false_iff_ne.mpr h1
                        clear hc hm h1
                        go_wp2_with (first
                          | (at_lookup; refine wpList_lookup_own_int _ rfl _ _ 118 rfl 22 3 .i64 (int_keyed Try.underlying22) Try.underlying118 Try.underlying3 (zeroI _) b n _ rfl O1.out _ _ rfl KY.out ?_; intro c hat hwc; obtain rfl : c = 0 := by have h := mapOf_c HD.out hat; rw [if_neg HMm.out] at h; exact h)
                          | (at_mapUpdate; refine wpList_mapUpdate_own _ rfl _ _ _ 118 rfl 22 3 (int_keyed Try.underlying22) Try.underlying118 _ b n _ rfl O1.out (by unfold maxLen; omega) _ _ _ rfl rfl KY.out (.lit (.int .i64 1)) [] (plainElem_int Try.underlying3 (by decide)) ?_; intro w4 hown hgrow; have O4 := Aside0.mk hown; have B4 := Aside0.mk (B1.out.grown hgrow B1.out.size (fun j hj => by cases hj; exact SB.out)); clear hown hgrow))
                        go_roundw
                        case rel => exact ⟨i + 1, n + 1, _, _, by omega, by go_num, by omega, HE', ⟨mapOf_put HD.out x.f0⟩, O4, B4⟩
                        case measure => simp [intOf]; omega)
            · obtain rfl : i = cl.length := by omega
              have hc := HC.out
              rw [List.drop_length, clis] at hc
              have HE' := Aside0.mk hc
              clear hc HC
              go_wp2_with fail
              go_ret
              exact ⟨by rw [HE.out, HE'.out]; rfl, HB.out⟩
set_option maxRecDepth 100000 in
set_option maxHeartbeats 8000000 in
theorem may_calls {W : World} {g : G} {s1 s2 s3 s4 s5 s6 : Value} (gc : GenC W g s1 s2 s3 s4 s5 s6) (gl : GenL g 400000) (gw : GenW g) :
    Calls Try.prog 39 #[genV g s1 s2 s3 s4 s5 s6] W fun e w' => e = .returned (.bool (mayB g)) ∧ Below W.heap.size W w' := by
  have q5 := gc.h5
  have q6 := gc.h6
  obtain ⟨A5, n5, rfl, -, -⟩ := q5
  obtain ⟨A6, n6, rfl, -, -⟩ := q6
  have GC := Aside0.mk gc
  have GL := Aside0.mk gl
  have GW := Aside0.mk gw
  have L5 := gl.h5
  have L6 := gl.h6
  have P := Aside0.mk (heap_new W (genO g s1 s2 s3 s4 (.slice A5 g.rq.length n5) (.slice A6 g.rp.length n6)))
  have B := Aside0.mk (below_al W (genO g s1 s2 s3 s4 (.slice A5 g.rq.length n5) (.slice A6 g.rp.length n6)))
  obtain ⟨p, hp⟩ : ∃ p, p = W.heap.size := ⟨_, rfl⟩
  rw [← hp] at P
  have EP := Aside0.mk hp
  clear hp gc gl gw
  go_enter Try.func39, Try.ntmps39
  go_upto_region 1 with fail
  change Code.wp _ _ _ _ (W.alloc (genO g s1 s2 s3 s4 (.slice A5 g.rq.length n5) (.slice A6 g.rp.length n6)))
  rw [← EP.out]
  generalize W.alloc (genO g s1 s2 s3 s4 (.slice A5 g.rq.length n5) (.slice A6 g.rp.length n6)) = W1 at P B ⊢
  clear EP
  obtain ⟨c0, c1, c2, c3, c4, c5, c6, c7, c8, c9, c10⟩ := heldG P.out
  go_wp2_with fail
  refine (half_calls g.k1 s1 s2 g.v1 g.c1 (GC.out.h1.below B.out) (GC.out.h2.below B.out) (Nat.le_trans GL.out.h1 (by decide)) (Nat.le_trans GL.out.h2 (by decide)) GW.out.c1).mono ?_
  rintro e w1 ⟨rfl, hb⟩
  replace P := Aside0.mk (blk_kept P.out hb)
  replace B := Aside0.mk (below_then B.out B.out.size hb)
  clear hb c0 c1 c2 c3 c4 c5 c6 c7 c8 c9 c10
  cases h1 : mayH g.k1 g.v1 g.c1 with
  | false =>
    have HE := Aside0.mk (show mayB g = false from by unfold mayB; rw [h1]; rfl)
    clear h1
    go_wp2_with fail
    go_ret
    exact ⟨by rw [HE.out]; rfl, B.out⟩
  | true =>
    have H1 := Aside0.mk h1
    clear h1
    obtain ⟨c0, c1, c2, c3, c4, c5, c6, c7, c8, c9, c10⟩ := heldG P.out
    go_wp2_with fail
    refine (half_calls g.k2 s3 s4 g.v2 g.c2 (GC.out.h3.below B.out) (GC.out.h4.below B.out) (Nat.le_trans GL.out.h3 (by decide)) (Nat.le_trans GL.out.h4 (by decide)) GW.out.c2).mono ?_
    rintro e w2 ⟨rfl, hb⟩
    replace P := Aside0.mk (blk_kept P.out hb)
    replace B := Aside0.mk (below_then B.out B.out.size hb)
    clear hb c0 c1 c2 c3 c4 c5 c6 c7 c8 c9 c10
    cases h2 : mayH g.k2 g.v2 g.c2 with
    | false =>
      have HE := Aside0.mk (show mayB g = false from by unfold mayB; rw [h2]; simp)
      clear h2
      go_wp2_with fail
      go_ret
      exact ⟨by rw [HE.out]; rfl, B.out⟩
    | true =>
      have H2 := Aside0.mk h2
      clear h2
      obtain ⟨c0, c1, c2, c3, c4, c5, c6, c7, c8, c9, c10⟩ := heldG P.out
      have wa : g.k1 = 0 ∨ (g.k1 ≠ 0 ∧ g.k1 = g.k2) ∨ (g.k1 ≠ 0 ∧ g.k1 ≠ g.k2) := by omega
      rcases wa with ha | ⟨ha, ha'⟩ | ⟨ha, ha'⟩
      rotate_left
      · have HE := Aside0.mk (show mayB g = false from by unfold mayB; rw [decide_eq_false ha, decide_eq_true ha']; simp)
        have e1 : (g.k1 == 0) = false := beq_eq_false_iff_ne.mpr ha
        have e2 : (g.k1 != g.k2) = false := by rw [ha']; simp
        clear ha ha'
        go_wp2_with fail
        go_ret
        exact ⟨by rw [HE.out]; rfl, B.out⟩
      rotate_left
      all_goals
        first
          | (have E1 := Aside0.mk (show (decide (g.k1 = 0) || !decide (g.k1 = g.k2)) = true from by rw [decide_eq_true ha]; rfl)
             have e1 : (g.k1 == 0) = true := beq_iff_eq.mpr ha
             have e2 : True := trivial
             clear ha)
          | (have E1 := Aside0.mk (show (decide (g.k1 = 0) || !decide (g.k1 = g.k2)) = true from by rw [decide_eq_false ha']; simp)
             have e1 : (g.k1 == 0) = false := beq_eq_false_iff_ne.mpr ha
             have e2 : (g.k1 != g.k2) = true := bne_iff_ne.mpr ha'
             clear ha ha')
      all_goals
        have wb : g.ls = true ∨ (g.ls = false ∧ g.su ≠ 0) ∨ (g.ls = false ∧ g.su = 0) := by
          cases g.ls
          · by_cases h : g.su = 0
            · exact .inr (.inr ⟨rfl, h⟩)
            · exact .inr (.inl ⟨rfl, h⟩)
          · exact .inl rfl
        rcases wb with hl | ⟨hl, hs⟩ | ⟨hl, hs⟩
        rotate_left
        · have HE := Aside0.mk (show mayB g = false from by unfold mayB; rw [hl, decide_eq_false hs]; simp)
          rw [hl] at c8
          have e4 : (g.su == 0) = false := beq_eq_false_iff_ne.mpr hs
          clear hl hs
          go_wp2_with fail
          go_ret
          exact ⟨by rw [HE.out]; rfl, B.out⟩
        rotate_left
        all_goals
          first
            | (have E2 := Aside0.mk (show (g.ls || decide (g.su = 0)) = true from by rw [hl]; rfl)
               rw [hl] at c8
               have e4 : True := trivial
               clear hl)
            | (have E2 := Aside0.mk (show (g.ls || decide (g.su = 0)) = true from by rw [decide_eq_true hs]; simp)
               rw [hl] at c8
               have e4 : (g.su == 0) = true := beq_iff_eq.mpr hs
               clear hl hs)
        all_goals
          by_cases hw : g.wi ≤ 1
          · by_cases hq : g.rq.length ≤ 16384
            · by_cases hp : g.rp.length ≤ 16384
              · have HE := Aside0.mk (show mayB g = true from by unfold mayB; rw [H1.out, H2.out, E1.out, E2.out, decide_eq_true hw, decide_eq_true hq, decide_eq_true hp]; rfl)
                have e6 : decide ((g.rq.length : Int) ≤ 16384) = true := decide_eq_true (by omega)
                have e7 : decide ((g.rp.length : Int) ≤ 16384) = true := decide_eq_true (by omega)
                have e5 : decide (g.wi ≤ 1) = true := decide_eq_true hw
                clear hw
                go_wp2_with fail
                go_ret
                exact ⟨by rw [HE.out]; rfl, B.out⟩
              · have HE := Aside0.mk (show mayB g = false from by unfold mayB; rw [decide_eq_false hp]; simp)
                have e6 : decide ((g.rq.length : Int) ≤ 16384) = true := decide_eq_true (by omega)
                have e7 : decide ((g.rp.length : Int) ≤ 16384) = false := decide_eq_false (by omega)
                have e5 : decide (g.wi ≤ 1) = true := decide_eq_true hw
                clear hw
                go_wp2_with fail
                go_ret
                exact ⟨by rw [HE.out]; rfl, B.out⟩
            · have HE := Aside0.mk (show mayB g = false from by unfold mayB; rw [decide_eq_false hq]; simp)
              have e6 : decide ((g.rq.length : Int) ≤ 16384) = false := decide_eq_false (by omega)
              have e5 : decide (g.wi ≤ 1) = true := decide_eq_true hw
              clear hw
              go_wp2_with fail
              go_ret
              exact ⟨by rw [HE.out]; rfl, B.out⟩
          · have HE := Aside0.mk (show mayB g = false from by unfold mayB; rw [decide_eq_false hw]; simp)
            have e5 : decide (g.wi ≤ 1) = false := decide_eq_false hw
            clear hw
            go_wp2_with fail
            go_ret
            exact ⟨by rw [HE.out]; rfl, B.out⟩
end Go.Proofs.Ytpanefmemabckaa.GenMay
namespace Go.Proofs.Ytpanefmemabckaa.GenMayR
open Go.RowKit Go.Proofs.Ytpanefmemabckaa.NumA Go.Proofs.Ytpanefmemabckaa.GenS Go.Proofs.Ytpanefmemabckaa.GenRep Go.Proofs.Ytpanefmemabckaa.GenBlk Go.Proofs.Ytpanefmemabckaa.GenPure Go.Proofs.Ytpanefmemabckaa.GenMath Go.Proofs.Ytpanefmemabckaa.GenHalf Go.Proofs.Ytpanefmemabckaa.GenMay Go.Proofs.YtpanefmemabckaaW.PrintWords Go.Proofs.YtpanefmemabckaaW.PrintLast
open Go.Proofs.Ytpanefmemabckaa.GenZero (heap_new blk_kept blk_drew1)
set_option linter.unusedSimpArgs false
set_option linter.unusedVariables false

/-- the number of what stands ahead of place i -/
def prev (view : List Seen) (i : Nat) : Int := if h : 0 < i ∧ i - 1 < view.length then (view[i - 1]'h.2).f0 else 0
set_option maxRecDepth 100000 in
set_option maxHeartbeats 4000000 in
theorem view_calls {W : World} {sv : Value} {view : List Seen} (hv : RowC kS W sv view) (lv : view.length ≤ 1000000) (os : ∀ x ∈ view, okS x) :
    Calls Try.prog 89 #[sv] W fun e w' => e = .returned (.bool (rise 0 view)) ∧ Below W.heap.size W w' := by
  obtain ⟨A1, n1, rfl, _, hv2⟩ := hv
  have CV := Aside0.mk hv2
  have LV := Aside0.mk lv
  have OS := Aside0.mk os
  clear hv2 os
  go_enter Try.func89, Try.ntmps89
  go_wp2_with fail
  go_loopw [3] (fun v3 wr => ∃ (i : Nat), i ≤ view.length ∧ v3 = .int .i64 i ∧ Aside0 (rise 0 view = rise (prev view i) (view.drop i)) ∧ Aside0 (Below W.heap.size W wr)) (fun v3 _ => view.length - (intOf v3).toNat)
  case atStart => exact ⟨0, by omega, rfl, ⟨by rw [List.drop_zero]; rfl⟩, ⟨Below.refl _ _⟩⟩
  case round =>
    obtain ⟨i, hi, rfl, HE, HB⟩ := hrel
    by_cases hlt : i < view.length
    · obtain ⟨ad, rfl⟩ := seen_at CV.out i hlt
      have HB1 := Aside0.mk (below_drew1 HB.out)
      obtain ⟨k0, k1⟩ := seen_cells (Kd.C_below CV.out HB.out) i hlt
      obtain ⟨x, hx⟩ : ∃ x, x = view[i] := ⟨_, rfl⟩
      have OX := Aside0.mk (show (0 ≤ x.f0 ∧ x.f0 < 4294967296) ∧ (0 ≤ x.f1 ∧ x.f1 < 18446744073709551616) from by rw [hx]; exact OS.out _ (List.getElem_mem _))
      have he := HE.out
      rw [List.drop_eq_getElem_cons hlt, ← hx, rise] at he
      have EP := Aside0.mk (show prev view (i + 1) = x.f0 from by unfold prev; rw [dif_pos ⟨by omega, by simpa using hlt⟩, hx]; rfl)
      rw [← hx] at k0 k1
      clear HE
      have hI0 : (0 : Int) ≤ (i : Int) := by omega
      have hI1 : (i : Int) < (view.length : Int) := by omega
      by_cases h0 : i = 0
      · have hp : prev view i = 0 := by rw [h0]; rfl
        rw [hp] at he
        have hg : decide (0 < i) = false := decide_eq_false (by omega)
        clear h0
        by_cases hz : x.f0 = 0
        · rw [if_pos (by omega)] at he
          have HE := Aside0.mk he
          have hz' : (x.f0 == 0) = true := beq_iff_eq.mpr hz
          clear he hz hp hx k1
          go_upto_region 4 with fail
          go_quiet (fail)
          go_wp2_with fail
          go_ret
          exact ⟨by rw [HE.out]; rfl, pw_below_drewN HB.out _⟩
        · rw [if_neg (by have := OX.out.1.1; omega)] at he
          have HE := Aside0.mk he
          have hz' : (x.f0 == 0) = false := beq_eq_false_iff_ne.mpr hz
          clear he hz hp hx k1
          go_upto_region 4 with fail
          go_quiet (fail)
          go_wp2_with fail
          go_roundw
          case rel => exact ⟨i + 1, by omega, by go_num, ⟨by rw [EP.out]; exact HE.out⟩, ⟨pw_below_drewN HB.out _⟩⟩
          case measure => simp [intOf]; omega
      · obtain ⟨j, hj⟩ : ∃ j, i = j + 1 := ⟨i - 1, by omega⟩
        obtain ⟨y, hy⟩ : ∃ y, y = view[j] := ⟨_, rfl⟩
        have OY := Aside0.mk (show 0 ≤ y.f0 from by rw [hy]; exact (OS.out _ (List.getElem_mem _)).1.1)
        have hp : prev view i = y.f0 := by subst hj; unfold prev; rw [dif_pos ⟨by omega, by simp; omega⟩, hy]; rfl
        rw [hp] at he
        obtain ⟨l0, l1⟩ := seen_cells (Kd.C_below CV.out HB.out) j (by omega)
        rw [← hy, show j = i - 1 from by omega] at l0
        have hg : decide (0 < i) = true := decide_eq_true (by omega)
        have hwr : IntKind.i64.wrap ((i : Int) - 1) = (i : Int) - 1 := by rw [IntKind.wrap_i64]; have := LV.out; omega
        have hI2 : (0 : Int) ≤ (i : Int) - 1 := by omega
        have hI3 : (1 : Int) ≤ (i : Int) := by omega
        have hI4 : (i : Int) - 1 < (view.length : Int) := by omega
        have hI5 : (i : Int) < (view.length : Int) + 1 := by omega
        clear hp hx hy h0 l1 k1 hj
        by_cases hz : x.f0 = 0
        · rw [if_pos (by have := OY.out; omega)] at he
          have HE := Aside0.mk he
          have hz' : (x.f0 == 0) = true := beq_iff_eq.mpr hz
          clear he hz
          go_upto_region 4 with fail
          go_quiet (fail)
          go_wp2_with fail
          go_ret
          exact ⟨by rw [HE.out]; rfl, pw_below_drewN HB.out _⟩
        · have hz' : (x.f0 == 0) = false := beq_eq_false_iff_ne.mpr hz
          by_cases hl : x.f0 ≤ y.f0
          · rw [if_pos hl] at he
            have HE := Aside0.mk he
            have hl' : decide (x.f0 ≤ y.f0) = true := decide_eq_true hl
            clear he hz hl
            go_upto_region 4 with fail
            go_quiet (fail)
            go_wp2_with fail
            go_ret
            exact ⟨by rw [HE.out]; rfl, pw_below_drewN HB.out _⟩
          · rw [if_neg hl] at he
            have HE := Aside0.mk he
            have hl' : decide (x.f0 ≤ y.f0) = false := decide_eq_false hl
            clear he hz hl
            go_upto_region 4 with fail
            go_quiet (fail)
            go_wp2_with fail
            go_roundw
            case rel => exact ⟨i + 1, by omega, by go_num, ⟨by rw [EP.out]; exact HE.out⟩, ⟨pw_below_drewN HB.out _⟩⟩
            case measure => simp [intOf]; omega
    · obtain rfl : i = view.length := by omega
      have he := HE.out
      rw [List.drop_length, rise] at he
      have HE' := Aside0.mk he
      clear he HE
      go_wp2_with fail
      go_ret
      exact ⟨by rw [HE'.out]; rfl, HB.out⟩
set_option maxRecDepth 100000 in
set_option maxHeartbeats 8000000 in
theorem refhalf_calls {W : World} (k : Int) (sv sc : Value) (view : List Seen) (cl : List Cli) (hv : RowC kS W sv view) (hc : RowC kC W sc cl) (lv : view.length ≤ 1000000) (lc : cl.length ≤ 1000000) (os : ∀ x ∈ view, okS x) (oc : ∀ x ∈ cl, okC x) :
    Calls Try.prog 74 #[.agg #[.int .u32 k, sv, sc]] W fun e w' => e = .returned (.bool (mayH k view cl)) ∧ Below W.heap.size W w' := by
  obtain ⟨A1, n1, rfl, hv1, hv2⟩ := hv
  obtain ⟨A2, n2, rfl, _, hc2⟩ := hc
  have RV := Aside0.mk (show RowC kS W (.slice A1 view.length n1) view from ⟨A1, n1, rfl, hv1, hv2⟩)
  have CC := Aside0.mk hc2
  have OS := Aside0.mk os
  have OC := Aside0.mk oc
  have LV := Aside0.mk lv
  have LC := Aside0.mk lc
  have P := Aside0.mk (heap_new W (halfO k (.slice A1 view.length n1) (.slice A2 cl.length n2)))
  have B0 := Aside0.mk (below_al W (halfO k (.slice A1 view.length n1) (.slice A2 cl.length n2)))
  obtain ⟨p, hp⟩ : ∃ p, p = W.heap.size := ⟨_, rfl⟩
  rw [← hp] at P
  have EP := Aside0.mk hp
  clear hv1 hv2 hc2 os oc hp
  go_enter Try.func74, Try.ntmps74
  go_upto_region 1 with fail
  change Code.wp _ _ _ _ (W.alloc (halfO k (.slice A1 view.length n1) (.slice A2 cl.length n2)))
  rw [← EP.out]
  generalize W.alloc (halfO k (.slice A1 view.length n1) (.slice A2 cl.length n2)) = W1 at P B0 ⊢
  clear EP
  obtain ⟨c0, c1, c2⟩ := heldH P.out
  by_cases hkz : k = 0 ∧ 0 < view.length + cl.length
  · have HE := Aside0.mk (show mayH k view cl = false from by unfold mayH; rw [decide_eq_true hkz.1, decide_eq_true hkz.2]; simp)
    obtain ⟨rfl, hpos⟩ := hkz
    go_wp2_with fail
    go_ret
    exact ⟨by rw [HE.out]; rfl, B0.out⟩
  · have HZ := Aside0.mk hkz
    have ways : k ≠ 0 ∨ (k = 0 ∧ view.length ≤ 0 ∧ cl.length ≤ 0) := by omega
    have hz3 : (decide (k = 0) && decide (0 < view.length + cl.length)) = false := by
      rw [Bool.eq_false_iff]
      intro h
      rw [Bool.and_eq_true] at h
      exact hkz ⟨of_decide_eq_true h.1, of_decide_eq_true h.2⟩
    have HZ3 := Aside0.mk hz3
    clear hkz hz3
    rcases ways with hk0 | ⟨hk0, hz1, hz2⟩
    all_goals
      first
        | (have hk0' : (k == 0) = false := beq_eq_false_iff_ne.mpr hk0; clear hk0)
        | (have hk0' : (k == 0) = true := beq_iff_eq.mpr hk0; clear hk0)
    all_goals
      go_wp2_with fail
      refine (view_calls (RV.out.below B0.out) LV.out OS.out).mono ?_
      rintro e w1 ⟨rfl, hb⟩
      replace P := Aside0.mk (blk_kept P.out hb)
      replace B0 := Aside0.mk (below_then B0.out B0.out.size hb)
      clear hb c0 c1 c2
      cases hr : rise 0 view with
      | false =>
        have HE := Aside0.mk (show mayH k view cl = false from by unfold mayH; rw [hr]; rfl)
        clear hr
        go_wp2_with fail
        go_ret
        exact ⟨by rw [HE.out]; rfl, B0.out⟩
      | true =>
        have HR := Aside0.mk hr
        clear hr
        obtain ⟨c0, c1, c2⟩ := heldH P.out
        by_cases h64 : 64 < cl.length
        · have HE := Aside0.mk (show mayH k view cl = false from by unfold mayH; rw [decide_eq_false (show ¬ cl.length ≤ 64 from by omega)]; simp)
          first
            | (exfalso; omega)
            | (go_wp2_with fail
               go_ret
               exact ⟨by rw [HE.out]; rfl, B0.out⟩)
        · have h64' : cl.length ≤ 64 := by omega
          have HE := Aside0.mk (show mayH k view cl = clis [0] cl from by
            unfold mayH
            rw [HR.out, decide_eq_true h64', HZ3.out]
            rfl)
          have M0 := Aside0.mk (met_zero cl)
          clear h64
          go_upto_region 3 with fail
          clear c0 c1 c2 hk0'
          try clear hz1 hz2
          go_wp2_with fail
          go_loopw [3] (fun v3 wr => ∃ (i : Nat) (m : List Int), i ≤ cl.length ∧ v3 = .int .i64 i ∧ Aside0 (clis [0] cl = clis m (cl.drop i)) ∧ Aside0 (GenMath.Met cl i m) ∧ Aside0 (wr.heap[p]? = some (halfO k (.slice A1 view.length n1) (.slice A2 cl.length n2))) ∧ Aside0 (Below W.heap.size W wr)) (fun v3 _ => cl.length - (intOf v3).toNat)
          case atStart => exact ⟨0, [0], by omega, rfl, ⟨by rw [List.drop_zero]⟩, M0, P, B0⟩
          case round =>
            obtain ⟨i, m, hi, rfl, HC, HM, HP, HB⟩ := hrel
            obtain ⟨c0, c1, c2⟩ := heldH HP.out
            by_cases hlt : i < cl.length
            · first
              | exact absurd hlt (by omega)
              | (
                    obtain ⟨ad, rfl⟩ := cli_at CC.out i hlt
                    obtain ⟨k0, k1, k2⟩ := cli_cells (Kd.C_below CC.out HB.out) i hlt
                    obtain ⟨x, hx⟩ : ∃ x, x = cl[i] := ⟨_, rfl⟩
                    have EX := Aside0.mk (show cl[i]? = some x from by rw [List.getElem?_eq_getElem hlt, hx])
                    have EX2 := Aside0.mk hx
                    rw [← hx] at k0 k1 k2
                    have hc := HC.out
                    rw [List.drop_eq_getElem_cons hlt, ← hx, clis] at hc
                    have HC1 := Aside0.mk hc
                    clear hc HC hx P M0 k2
                    by_cases h0 : x.f0 = 0
                    · have HE' := Aside0.mk (show clis [0] cl = false from by rw [HC1.out, if_pos (.inl ((HM.out x.f0).2 (.inl h0)))])
                      have h0' : (x.f0 == 0) = true := beq_iff_eq.mpr h0
                      clear h0
                      go_wp2_with fail
                      go_ret
                      exact ⟨by rw [HE.out, HE'.out]; rfl, HB.out⟩
                    · have h0' : (x.f0 == 0) = false := beq_eq_false_iff_ne.mpr h0
                      have H0 := Aside0.mk h0
                      clear h0
                      by_cases h1 : x.f1 = 0
                      · have HE' := Aside0.mk (show clis [0] cl = false from by rw [HC1.out, if_pos (.inr h1)])
                        have h1' : (x.f1 == 0) = true := beq_iff_eq.mpr h1
                        clear h1
                        go_wp2_with fail
                        go_ret
                        exact ⟨by rw [HE.out, HE'.out]; rfl, HB.out⟩
                      · have h1' : (x.f1 == 0) = false := beq_eq_false_iff_ne.mpr h1
                        have H1 := Aside0.mk h1
                        clear h1
                        go_upto_region 8 with fail
                        clear c0 c1 c2 k0 k1 h0' h1'
                        go_wp2_with fail
                        obtain ⟨wo, hwo⟩ : ∃ wo : World, wo = wr := ⟨_, rfl⟩
                        rw [← hwo] at HP HB ⊢
                        clear hwo
                        go_loopw [4] (fun v4 wr => ∃ (j : Nat), j ≤ i ∧ v4 = .int .i64 j ∧ Aside0 (∀ (q : Nat) (y : Cli), q < j → cl[q]? = some y → y.f0 ≠ x.f0) ∧ Aside0 (wr.heap[p]? = some (halfO k (.slice A1 view.length n1) (.slice (some ad) cl.length n2))) ∧ Aside0 (Below W.heap.size W wr)) (fun v4 _ => i - (intOf v4).toNat)
                        case atStart => exact ⟨0, by omega, rfl, ⟨fun q y h => by omega⟩, HP, HB⟩
                        case round =>
                          obtain ⟨j, hj, rfl, HQ, HP', HB'⟩ := hrel
                          clear HP HB
                          by_cases hji : j < i
                          · obtain ⟨c0, c1, c2⟩ := heldH HP'.out
                            obtain ⟨k0, k1, _⟩ := cli_cells (Kd.C_below CC.out HB'.out) i hlt
                            obtain ⟨l0, l1, _⟩ := cli_cells (Kd.C_below CC.out HB'.out) j (by omega)
                            rw [← EX2.out] at k0
                            obtain ⟨y, hy⟩ : ∃ y, y = cl[j] := ⟨_, rfl⟩
                            rw [← hy] at l0
                            have EY := Aside0.mk (show cl[j]? = some y from by rw [List.getElem?_eq_getElem (by omega), hy])
                            have hI0 : (0 : Int) ≤ (i : Int) := by omega
                            have hI1 : (i : Int) < (cl.length : Int) := by omega
                            have hJ0 : (0 : Int) ≤ (j : Int) := by omega
                            have hJ1 : (j : Int) < (cl.length : Int) := by omega
                            clear hy k1 l1
                            go_upto_region 11 with fail
                            by_cases he : y.f0 = x.f0
                            · have HE' := Aside0.mk (show clis [0] cl = false from by rw [HC1.out, if_pos (.inl ((HM.out x.f0).2 (.inr ⟨j, y, hji, EY.out, he⟩)))])
                              have he' : (y.f0 == x.f0) = true := beq_iff_eq.mpr he
                              clear he
                              go_quiet (fail)
                              go_wp2_with fail
                              go_ret
                              exact ⟨by rw [HE.out, HE'.out]; rfl, pw_below_drewN HB'.out _⟩
                            · have he' : (y.f0 == x.f0) = false := beq_eq_false_iff_ne.mpr he
                              have HN := Aside0.mk he
                              clear he
                              go_quiet (fail)
                              go_wp2_with fail
                              go_roundw
                              case rel =>
                                refine ⟨j + 1, by omega, by go_num, ⟨fun q z hq hz => ?_⟩, ⟨blk_kept HP'.out (pw_below_drewN (Below.refl _ _) _)⟩, ⟨pw_below_drewN HB'.out _⟩⟩
                                by_cases hqj : q = j
                                · subst hqj
                                  rw [EY.out] at hz
                                  injection hz with hz
                                  subst hz
                                  exact HN.out
                                · exact HQ.out q z (by omega) hz
                              case measure => simp [intOf]; omega
                          · obtain rfl : j = i := by omega
                            have HE' := Aside0.mk (show clis [0] cl = clis (x.f0 :: m) (cl.drop (j + 1)) from by
                              rw [HC1.out, if_neg]
                              rintro (h | h)
                              · rcases (HM.out x.f0).1 h with h | ⟨q, y, hq, hy, he⟩
                                · exact H0.out h
                                · exact HQ.out q y hq hy he
                              · exact H1.out h)
                            have HM' := Aside0.mk (met_step HM.out EX.out)
                            clear HQ HC1
                            go_wp2_with fail
                            go_roundw
                            case rel => exact ⟨j + 1, _, by omega, by go_num, HE', HM', HP', HB'⟩
                            case measure => simp [intOf]; omega)
            · obtain rfl : i = cl.length := by omega
              have hc := HC.out
              rw [List.drop_length, clis] at hc
              have HE' := Aside0.mk hc
              clear hc HC
              go_wp2_with fail
              go_ret
              exact ⟨by rw [HE.out, HE'.out]; rfl, HB.out⟩
set_option maxRecDepth 100000 in
set_option maxHeartbeats 8000000 in
theorem refmay_calls {W : World} {g : G} {s1 s2 s3 s4 s5 s6 : Value} (gc : GenC W g s1 s2 s3 s4 s5 s6) (gl : GenL g 400000) (gw : GenW g) :
    Calls Try.prog 40 #[genV g s1 s2 s3 s4 s5 s6] W fun e w' => e = .returned (.bool (mayB g)) ∧ Below W.heap.size W w' := by
  have q5 := gc.h5
  have q6 := gc.h6
  obtain ⟨A5, n5, rfl, -, -⟩ := q5
  obtain ⟨A6, n6, rfl, -, -⟩ := q6
  have GC := Aside0.mk gc
  have GL := Aside0.mk gl
  have GW := Aside0.mk gw
  have L5 := gl.h5
  have L6 := gl.h6
  have P := Aside0.mk (heap_new W (genO g s1 s2 s3 s4 (.slice A5 g.rq.length n5) (.slice A6 g.rp.length n6)))
  have B := Aside0.mk (below_al W (genO g s1 s2 s3 s4 (.slice A5 g.rq.length n5) (.slice A6 g.rp.length n6)))
  obtain ⟨p, hp⟩ : ∃ p, p = W.heap.size := ⟨_, rfl⟩
  rw [← hp] at P
  have EP := Aside0.mk hp
  clear hp gc gl gw
  go_enter Try.func40, Try.ntmps40
  go_upto_region 1 with fail
  change Code.wp _ _ _ _ (W.alloc (genO g s1 s2 s3 s4 (.slice A5 g.rq.length n5) (.slice A6 g.rp.length n6)))
  rw [← EP.out]
  generalize W.alloc (genO g s1 s2 s3 s4 (.slice A5 g.rq.length n5) (.slice A6 g.rp.length n6)) = W1 at P B ⊢
  clear EP
  obtain ⟨c0, c1, c2, c3, c4, c5, c6, c7, c8, c9, c10⟩ := heldG P.out
  go_wp2_with fail
  refine (refhalf_calls g.k1 s1 s2 g.v1 g.c1 (GC.out.h1.below B.out) (GC.out.h2.below B.out) (Nat.le_trans GL.out.h1 (by decide)) (Nat.le_trans GL.out.h2 (by decide)) GW.out.v1 GW.out.c1).mono ?_
  rintro e w1 ⟨rfl, hb⟩
  replace P := Aside0.mk (blk_kept P.out hb)
  replace B := Aside0.mk (below_then B.out B.out.size hb)
  clear hb c0 c1 c2 c3 c4 c5 c6 c7 c8 c9 c10
  cases h1 : mayH g.k1 g.v1 g.c1 with
  | false =>
    have HE := Aside0.mk (show mayB g = false from by unfold mayB; rw [h1]; rfl)
    clear h1
    go_wp2_with fail
    go_ret
    exact ⟨by rw [HE.out]; rfl, B.out⟩
  | true =>
    have H1 := Aside0.mk h1
    clear h1
    obtain ⟨c0, c1, c2, c3, c4, c5, c6, c7, c8, c9, c10⟩ := heldG P.out
    go_wp2_with fail
    refine (refhalf_calls g.k2 s3 s4 g.v2 g.c2 (GC.out.h3.below B.out) (GC.out.h4.below B.out) (Nat.le_trans GL.out.h3 (by decide)) (Nat.le_trans GL.out.h4 (by decide)) GW.out.v2 GW.out.c2).mono ?_
    rintro e w2 ⟨rfl, hb⟩
    replace P := Aside0.mk (blk_kept P.out hb)
    replace B := Aside0.mk (below_then B.out B.out.size hb)
    clear hb c0 c1 c2 c3 c4 c5 c6 c7 c8 c9 c10
    cases h2 : mayH g.k2 g.v2 g.c2 with
    | false =>
      have HE := Aside0.mk (show mayB g = false from by unfold mayB; rw [h2]; simp)
      clear h2
      go_wp2_with fail
      go_ret
      exact ⟨by rw [HE.out]; rfl, B.out⟩
    | true =>
      have H2 := Aside0.mk h2
      clear h2
      obtain ⟨c0, c1, c2, c3, c4, c5, c6, c7, c8, c9, c10⟩ := heldG P.out
      have wa : (g.k1 = g.k2 ∧ g.k1 ≠ 0) ∨ g.k1 ≠ g.k2 ∨ (g.k1 = g.k2 ∧ g.k1 = 0) := by omega
      rcases wa with ⟨ha, ha'⟩ | ha | ⟨ha, ha'⟩
      · have HE := Aside0.mk (show mayB g = false from by unfold mayB; rw [decide_eq_false ha', decide_eq_true ha]; simp)
        have e1 : (g.k1 == g.k2) = true := beq_iff_eq.mpr ha
        have e2 : (g.k1 != 0) = true := bne_iff_ne.mpr ha'
        clear ha ha'
        go_wp2_with fail
        go_ret
        exact ⟨by rw [HE.out]; rfl, B.out⟩
      all_goals
        first
          | (have E1 := Aside0.mk (show (decide (g.k1 = 0) || !decide (g.k1 = g.k2)) = true from by rw [decide_eq_true ha']; rfl)
             have e1 : (g.k1 == g.k2) = true := beq_iff_eq.mpr ha
             have e2 : (g.k1 != 0) = false := by rw [ha']; rfl
             clear ha ha')
          | (have E1 := Aside0.mk (show (decide (g.k1 = 0) || !decide (g.k1 = g.k2)) = true from by rw [decide_eq_false ha]; simp)
             have e1 : (g.k1 == g.k2) = false := beq_eq_false_iff_ne.mpr ha
             have e2 : True := trivial
             clear ha)
      all_goals
        have wb : g.ls = true ∨ (g.ls = false ∧ g.su ≠ 0) ∨ (g.ls = false ∧ g.su = 0) := by
          cases g.ls
          · by_cases h : g.su = 0
            · exact .inr (.inr ⟨rfl, h⟩)
            · exact .inr (.inl ⟨rfl, h⟩)
          · exact .inl rfl
        rcases wb with hl | ⟨hl, hs⟩ | ⟨hl, hs⟩
        rotate_left
        · have HE := Aside0.mk (show mayB g = false from by unfold mayB; rw [hl, decide_eq_false hs]; simp)
          rw [hl] at c8
          have e4 : (g.su == 0) = false := beq_eq_false_iff_ne.mpr hs
          clear hl hs
          go_wp2_with fail
          go_ret
          exact ⟨by rw [HE.out]; rfl, B.out⟩
        rotate_left
        all_goals
          first
            | (have E2 := Aside0.mk (show (g.ls || decide (g.su = 0)) = true from by rw [hl]; rfl)
               rw [hl] at c8
               have e4 : True := trivial
               clear hl)
            | (have E2 := Aside0.mk (show (g.ls || decide (g.su = 0)) = true from by rw [decide_eq_true hs]; simp)
               rw [hl] at c8
               have e4 : (g.su == 0) = true := beq_iff_eq.mpr hs
               clear hl hs)
        all_goals
          have wc : 1 < g.wi ∨ g.wi = 0 ∨ g.wi = 1 := by have := GW.out.wi.1; omega
          rcases wc with hw | hw | hw
          · have HE := Aside0.mk (show mayB g = false from by unfold mayB; rw [decide_eq_false (show ¬ g.wi ≤ 1 from by omega)]; simp)
            have e5 : (g.wi == 0) = false := beq_eq_false_iff_ne.mpr (by omega)
            have e6 : (g.wi == 1) = false := beq_eq_false_iff_ne.mpr (by omega)
            clear hw
            go_wp2_with fail
            go_ret
            exact ⟨by rw [HE.out]; rfl, B.out⟩
          all_goals
            have EW := Aside0.mk (show decide (g.wi ≤ 1) = true from decide_eq_true (by omega))
            first
              | (have e5 : (g.wi == 0) = true := beq_iff_eq.mpr hw
                 clear hw)
              | (have e5 : (g.wi == 0) = false := beq_eq_false_iff_ne.mpr (by omega)
                 have e6 : (g.wi == 1) = true := beq_iff_eq.mpr hw
                 clear hw)
            by_cases hq : g.rq.length ≤ 16384
            · have e7 : decide ((g.rq.length : Int) ≤ 16384) = true := decide_eq_true (by omega)
              by_cases hp : g.rp.length ≤ 16384
              · have HE := Aside0.mk (show mayB g = true from by unfold mayB; rw [H1.out, H2.out, E1.out, E2.out, EW.out, decide_eq_true hq, decide_eq_true hp]; rfl)
                have e8 : decide ((g.rp.length : Int) ≤ 16384) = true := decide_eq_true (by omega)
                go_wp2_with fail
                go_ret
                exact ⟨by rw [HE.out]; rfl, B.out⟩
              · have HE := Aside0.mk (show mayB g = false from by unfold mayB; rw [decide_eq_false hp]; simp)
                have e8 : decide ((g.rp.length : Int) ≤ 16384) = false := decide_eq_false (by omega)
                go_wp2_with fail
                go_ret
                exact ⟨by rw [HE.out]; rfl, B.out⟩
            · have HE := Aside0.mk (show mayB g = false from by unfold mayB; rw [decide_eq_false hq]; simp)
              have e7 : decide ((g.rq.length : Int) ≤ 16384) = false := decide_eq_false (by omega)
              go_wp2_with fail
              go_ret
              exact ⟨by rw [HE.out]; rfl, B.out⟩
end Go.Proofs.Ytpanefmemabckaa.GenMayR
namespace Go.Proofs.Ytpanefmemabckaa.GenTrue
open Go.RowKit Go.Proofs.Ytpanefmemabckaa.NumA Go.Proofs.Ytpanefmemabckaa.Bytes Go.Proofs.Ytpanefmemabckaa.GenS Go.Proofs.Ytpanefmemabckaa.GenRep Go.Proofs.Ytpanefmemabckaa.GenBlk Go.Proofs.Ytpanefmemabckaa.GenPure Go.Proofs.Ytpanefmemabckaa.GenMath Go.Proofs.Ytpanefmemabckaa.GenHalf Go.Proofs.YtpanefmemabckaaW.PrintWords Go.Proofs.YtpanefmemabckaaW.PrintLast
open Go.Proofs.Ytpanefmemabckaa.GenZero (heap_new blk_kept blk_drew1)
set_option linter.unusedSimpArgs false
set_option linter.unusedVariables false

theorem seen20 {w : World} {v v' : Value} {l : List Seen} (h : RowC kS w v l) (h' : RowC kS w v' l) (hl : l.length ≤ 1000000) : Calls Try.prog 90 #[v, v'] w fun e w' => e = .returned (.bool true) ∧ Below w.heap.size w w' := by
  obtain ⟨A1, c1, rfl, l1, r1⟩ := h
  obtain ⟨A2, c2, rfl, l2, r2⟩ := h'
  obtain ⟨b, hf, hb⟩ := seen_same l l hl (l.length + 1) (by omega)
  rw [hb.2 rfl] at hf
  exact (cardexref20_Same.calls _ A1 c1 l A2 c2 l _ w r1 l1 r2 l2 hf).mono fun _ _ ⟨e, h⟩ => ⟨e, by first | exact h | exact h.below⟩
theorem clients22 {w : World} {v v' : Value} {l : List Cli} (h : RowC kC w v l) (h' : RowC kC w v' l) (hl : l.length ≤ 1000000) : Calls Try.prog 91 #[v, v'] w fun e w' => e = .returned (.bool true) ∧ Below w.heap.size w w' := by
  obtain ⟨A1, c1, rfl, l1, r1⟩ := h
  obtain ⟨A2, c2, rfl, l2, r2⟩ := h'
  obtain ⟨b, hf, hb⟩ := clients_same l l hl (l.length + 1) (by omega)
  rw [hb.2 rfl] at hf
  exact (cardexref22_sameClients.calls _ A1 c1 l A2 c2 l _ w r1 l1 r2 l2 hf).mono fun _ _ ⟨e, h⟩ => ⟨e, by first | exact h | exact h.below⟩
theorem bytes00 {w : World} {v v' : Value} {l : List Int} (h : RowC kB w v l) (h' : RowC kB w v' l) : Calls Try.prog 41 #[v, v'] w fun e w' => e = .returned (.bool true) ∧ Below w.heap.size w w' := by
  obtain ⟨A1, c1, rfl, l1, r1⟩ := h
  obtain ⟨A2, c2, rfl, l2, r2⟩ := h'
  have hf : cardexref00_Same.f l l = some true := congrArg some (by simp)
  exact (cardexref00_Same.calls A1 c1 l A2 c2 l _ w r1 l1 r2 l2 hf).mono fun _ _ ⟨e, h⟩ => ⟨e, by first | exact h | exact h.below⟩
theorem bytesEq {w : World} {v v' : Value} {l : List Int} (h : RowC kB w v l) (h' : RowC kB w v' l) : Calls Try.prog 77 #[v, v'] w fun e w' => e = .returned (.bool true) ∧ Below w.heap.size w w' := by
  obtain ⟨A1, c1, rfl, l1, r1⟩ := h
  obtain ⟨A2, c2, rfl, l2, r2⟩ := h'
  have hf : bytes_Equal.f l l = some true := congrArg some (by simp)
  exact (bytes_Equal.calls A1 c1 l A2 c2 l _ w r1 l1 r2 l2 hf).mono fun _ _ ⟨e, h⟩ => ⟨e, by first | exact h | exact h.below⟩
set_option maxRecDepth 100000 in
set_option maxHeartbeats 4000000 in
theorem eqS {w : World} {v v' : Value} {l : List Seen} (h : RowC kS w v l) (h' : RowC kS w v' l) (hl : l.length ≤ 1000000) : Calls Try.prog 92 #[v, v'] w fun e w' => e = .returned (.bool true) ∧ Below w.heap.size w w' := by
  obtain ⟨A1, c1, rfl, l1, r1⟩ := h
  obtain ⟨A2, c2, rfl, l2, r2⟩ := h'
  have R1 := Aside0.mk r1
  have R2 := Aside0.mk r2
  have HL := Aside0.mk hl
  clear r1 r2 l1 l2 hl
  go_enter Try.func92, Try.ntmps92
  go_wp2_with fail
  go_loopw [13] (fun v13 wr => ∃ i : Nat, i ≤ l.length ∧ v13 = .int .i64 i ∧ Aside0 (Below w.heap.size w wr)) (fun v13 _ => l.length - (intOf v13).toNat)
  case atStart => exact ⟨0, by omega, rfl, ⟨Below.refl _ _⟩⟩
  case round =>
    obtain ⟨i, hi, rfl, HB⟩ := hrel
    have hl9 := HL.out
    by_cases hlt : i < l.length
    · obtain ⟨a1, ha1⟩ := seen_at (Kd.C_below R1.out HB.out) i hlt
      obtain ⟨a2, ha2⟩ := seen_at (Kd.C_below R2.out HB.out) i hlt
      subst ha1 ha2
      obtain ⟨k0, k1⟩ := seen_cells (Kd.C_below R1.out HB.out) i hlt
      obtain ⟨j0, j1⟩ := seen_cells (Kd.C_below R2.out HB.out) i hlt
      have hI0 : (0 : Int) ≤ (i : Int) := by omega
      have hI1 : (i : Int) < (l.length : Int) := by omega
      go_upto_region 6 with fail
      go_quiet (fail)
      go_wp2_with fail
      go_roundw
      case rel => exact ⟨i + 1, by omega, by go_num, ⟨pw_below_drewN HB.out _⟩⟩
      case measure => simp [intOf]; omega
    · obtain rfl : i = l.length := by omega
      go_wp2_with fail
      go_ret
      exact ⟨rfl, HB.out⟩
set_option maxRecDepth 100000 in
set_option maxHeartbeats 4000000 in
theorem eqC {w : World} {v v' : Value} {l : List Cli} (h : RowC kC w v l) (h' : RowC kC w v' l) (hl : l.length ≤ 1000000) : Calls Try.prog 93 #[v, v'] w fun e w' => e = .returned (.bool true) ∧ Below w.heap.size w w' := by
  obtain ⟨A1, c1, rfl, l1, r1⟩ := h
  obtain ⟨A2, c2, rfl, l2, r2⟩ := h'
  have R1 := Aside0.mk r1
  have R2 := Aside0.mk r2
  have HL := Aside0.mk hl
  clear r1 r2 l1 l2 hl
  go_enter Try.func93, Try.ntmps93
  go_wp2_with fail
  go_loopw [13] (fun v13 wr => ∃ i : Nat, i ≤ l.length ∧ v13 = .int .i64 i ∧ Aside0 (Below w.heap.size w wr)) (fun v13 _ => l.length - (intOf v13).toNat)
  case atStart => exact ⟨0, by omega, rfl, ⟨Below.refl _ _⟩⟩
  case round =>
    obtain ⟨i, hi, rfl, HB⟩ := hrel
    have hl9 := HL.out
    by_cases hlt : i < l.length
    · obtain ⟨a1, ha1⟩ := cli_at (Kd.C_below R1.out HB.out) i hlt
      obtain ⟨a2, ha2⟩ := cli_at (Kd.C_below R2.out HB.out) i hlt
      subst ha1 ha2
      obtain ⟨k0, k1, k2⟩ := cli_cells (Kd.C_below R1.out HB.out) i hlt
      obtain ⟨j0, j1, j2⟩ := cli_cells (Kd.C_below R2.out HB.out) i hlt
      have hI0 : (0 : Int) ≤ (i : Int) := by omega
      have hI1 : (i : Int) < (l.length : Int) := by omega
      go_upto_region 6 with fail
      go_quiet (fail)
      go_wp2_with fail
      go_roundw
      case rel => exact ⟨i + 1, by omega, by go_num, ⟨pw_below_drewN HB.out _⟩⟩
      case measure => simp [intOf]; omega
    · obtain rfl : i = l.length := by omega
      go_wp2_with fail
      go_ret
      exact ⟨rfl, HB.out⟩
set_option maxRecDepth 100000 in
set_option maxHeartbeats 4000000 in
theorem refhalf {w : World} {k : Int} {s1 s2 t1 t2 : Value} {l : List Seen} {m : List Cli} (h1 : RowC kS w s1 l) (h2 : RowC kC w s2 m) (h3 : RowC kS w t1 l) (h4 : RowC kC w t2 m) (hl : l.length ≤ 1000000) (hm : m.length ≤ 1000000) :
    Calls Try.prog 75 #[.agg #[.int .u32 k, s1, s2], .agg #[.int .u32 k, t1, t2]] w fun e w' => e = .returned (.bool true) ∧ Below w.heap.size w w' := by
  obtain ⟨A1, n1, rfl, l1, r1⟩ := h1
  obtain ⟨A2, n2, rfl, l2, r2⟩ := h2
  obtain ⟨A3, n3, rfl, l3, r3⟩ := h3
  obtain ⟨A4, n4, rfl, l4, r4⟩ := h4
  have H1 := Aside0.mk (show RowC kS w (.slice A1 l.length n1) l from ⟨A1, n1, rfl, l1, r1⟩)
  have H2 := Aside0.mk (show RowC kC w (.slice A2 m.length n2) m from ⟨A2, n2, rfl, l2, r2⟩)
  have H3 := Aside0.mk (show RowC kS w (.slice A3 l.length n3) l from ⟨A3, n3, rfl, l3, r3⟩)
  have H4 := Aside0.mk (show RowC kC w (.slice A4 m.length n4) m from ⟨A4, n4, rfl, l4, r4⟩)
  have HL := Aside0.mk hl
  have HM := Aside0.mk hm
  clear l1 r1 l2 r2 l3 r3 l4 r4 hl hm
  have hp := blk_alloc (heap_new w (halfO k (.slice A1 l.length n1) (.slice A2 m.length n2))) (halfO k (.slice A3 l.length n3) (.slice A4 m.length n4))
  have hq := heap_new (w.alloc (halfO k (.slice A1 l.length n1) (.slice A2 m.length n2))) (halfO k (.slice A3 l.length n3) (.slice A4 m.length n4))
  have hB : Below w.heap.size w ((w.alloc (halfO k (.slice A1 l.length n1) (.slice A2 m.length n2))).alloc (halfO k (.slice A3 l.length n3) (.slice A4 m.length n4))) := ((Below.refl _ _).alloc (Nat.le_refl _) _).alloc (by simp) _
  rw [show (w.alloc (halfO k (.slice A1 l.length n1) (.slice A2 m.length n2))).heap.size = w.heap.size + 1 from by simp] at hq
  obtain ⟨p, hp'⟩ : ∃ p, p = w.heap.size := ⟨_, rfl⟩
  rw [← hp'] at hp hq
  have P := Aside0.mk hp
  have Q := Aside0.mk hq
  have B := Aside0.mk hB
  have EP := Aside0.mk hp'
  clear hp hq hB hp'
  go_enter Try.func75, Try.ntmps75
  go_upto_region 1 with fail
  change Code.wp _ _ _ _ ((w.alloc (halfO k (.slice A1 l.length n1) (.slice A2 m.length n2))).alloc (halfO k (.slice A3 l.length n3) (.slice A4 m.length n4)))
  rw [← EP.out]
  generalize (w.alloc (halfO k (.slice A1 l.length n1) (.slice A2 m.length n2))).alloc (halfO k (.slice A3 l.length n3) (.slice A4 m.length n4)) = w1 at P Q B ⊢
  clear EP
  obtain ⟨c0, c1, c2⟩ := heldH P.out
  obtain ⟨d0, d1, d2⟩ := heldH Q.out
  go_wp2_with fail
  refine (seen20 (H1.out.below B.out) (H3.out.below B.out) HL.out).mono ?_
  rintro e w2 ⟨rfl, hb⟩
  replace P := Aside0.mk (blk_kept P.out hb)
  replace Q := Aside0.mk (blk_kept Q.out hb)
  replace B := Aside0.mk (below_then B.out B.out.size hb)
  clear hb c0 c1 c2 d0 d1 d2
  obtain ⟨c0, c1, c2⟩ := heldH P.out
  obtain ⟨d0, d1, d2⟩ := heldH Q.out
  go_wp2_with fail
  refine (clients22 (H2.out.below B.out) (H4.out.below B.out) HM.out).mono ?_
  rintro e w2 ⟨rfl, hb⟩
  replace P := Aside0.mk (blk_kept P.out hb)
  replace Q := Aside0.mk (blk_kept Q.out hb)
  replace B := Aside0.mk (below_then B.out B.out.size hb)
  clear hb c0 c1 c2 d0 d1 d2
  obtain ⟨c0, c1, c2⟩ := heldH P.out
  obtain ⟨d0, d1, d2⟩ := heldH Q.out
  go_wp2_with fail
  go_ret
  exact ⟨rfl, B.out⟩
set_option maxRecDepth 100000 in
set_option maxHeartbeats 4000000 in
theorem halves {w : World} {k : Int} {s1 s2 t1 t2 : Value} {l : List Seen} {m : List Cli} (h1 : RowC kS w s1 l) (h2 : RowC kC w s2 m) (h3 : RowC kS w t1 l) (h4 : RowC kC w t2 m) (hl : l.length ≤ 1000000) (hm : m.length ≤ 1000000) :
    Calls Try.prog 76 #[.agg #[.int .u32 k, s1, s2], .agg #[.int .u32 k, t1, t2]] w fun e w' => e = .returned (.bool true) ∧ Below w.heap.size w w' := by
  obtain ⟨A1, n1, rfl, l1, r1⟩ := h1
  obtain ⟨A2, n2, rfl, l2, r2⟩ := h2
  obtain ⟨A3, n3, rfl, l3, r3⟩ := h3
  obtain ⟨A4, n4, rfl, l4, r4⟩ := h4
  have H1 := Aside0.mk (show RowC kS w (.slice A1 l.length n1) l from ⟨A1, n1, rfl, l1, r1⟩)
  have H2 := Aside0.mk (show RowC kC w (.slice A2 m.length n2) m from ⟨A2, n2, rfl, l2, r2⟩)
  have H3 := Aside0.mk (show RowC kS w (.slice A3 l.length n3) l from ⟨A3, n3, rfl, l3, r3⟩)
  have H4 := Aside0.mk (show RowC kC w (.slice A4 m.length n4) m from ⟨A4, n4, rfl, l4, r4⟩)
  have HL := Aside0.mk hl
  have HM := Aside0.mk hm
  clear l1 r1 l2 r2 l3 r3 l4 r4 hl hm
  have hp := blk_alloc (heap_new w (halfO k (.slice A1 l.length n1) (.slice A2 m.length n2))) (halfO k (.slice A3 l.length n3) (.slice A4 m.length n4))
  have hq := heap_new (w.alloc (halfO k (.slice A1 l.length n1) (.slice A2 m.length n2))) (halfO k (.slice A3 l.length n3) (.slice A4 m.length n4))
  have hB : Below w.heap.size w ((w.alloc (halfO k (.slice A1 l.length n1) (.slice A2 m.length n2))).alloc (halfO k (.slice A3 l.length n3) (.slice A4 m.length n4))) := ((Below.refl _ _).alloc (Nat.le_refl _) _).alloc (by simp) _
  rw [show (w.alloc (halfO k (.slice A1 l.length n1) (.slice A2 m.length n2))).heap.size = w.heap.size + 1 from by simp] at hq
  obtain ⟨p, hp'⟩ : ∃ p, p = w.heap.size := ⟨_, rfl⟩
  rw [← hp'] at hp hq
  have P := Aside0.mk hp
  have Q := Aside0.mk hq
  have B := Aside0.mk hB
  have EP := Aside0.mk hp'
  clear hp hq hB hp'
  go_enter Try.func76, Try.ntmps76
  go_upto_region 1 with fail
  change Code.wp _ _ _ _ ((w.alloc (halfO k (.slice A1 l.length n1) (.slice A2 m.length n2))).alloc (halfO k (.slice A3 l.length n3) (.slice A4 m.length n4)))
  rw [← EP.out]
  generalize (w.alloc (halfO k (.slice A1 l.length n1) (.slice A2 m.length n2))).alloc (halfO k (.slice A3 l.length n3) (.slice A4 m.length n4)) = w1 at P Q B ⊢
  clear EP
  obtain ⟨c0, c1, c2⟩ := heldH P.out
  obtain ⟨d0, d1, d2⟩ := heldH Q.out
  go_wp2_with fail
  refine (eqS (H1.out.below B.out) (H3.out.below B.out) HL.out).mono ?_
  rintro e w2 ⟨rfl, hb⟩
  replace P := Aside0.mk (blk_kept P.out hb)
  replace Q := Aside0.mk (blk_kept Q.out hb)
  replace B := Aside0.mk (below_then B.out B.out.size hb)
  clear hb c0 c1 c2 d0 d1 d2
  obtain ⟨c0, c1, c2⟩ := heldH P.out
  obtain ⟨d0, d1, d2⟩ := heldH Q.out
  go_wp2_with fail
  refine (eqC (H2.out.below B.out) (H4.out.below B.out) HM.out).mono ?_
  rintro e w2 ⟨rfl, hb⟩
  replace P := Aside0.mk (blk_kept P.out hb)
  replace Q := Aside0.mk (blk_kept Q.out hb)
  replace B := Aside0.mk (below_then B.out B.out.size hb)
  clear hb c0 c1 c2 d0 d1 d2
  obtain ⟨c0, c1, c2⟩ := heldH P.out
  obtain ⟨d0, d1, d2⟩ := heldH Q.out
  go_wp2_with fail
  go_ret
  exact ⟨rfl, B.out⟩
set_option maxRecDepth 100000 in
set_option maxHeartbeats 4000000 in
theorem refsame {w : World} {g : G} {s1 s2 s3 s4 s5 s6 t1 t2 t3 t4 t5 t6 : Value} (hg : GenC w g s1 s2 s3 s4 s5 s6) (hh : GenC w g t1 t2 t3 t4 t5 t6) (hl : GenL g 1000000) :
    Calls Try.prog 42 #[genV g s1 s2 s3 s4 s5 s6, genV g t1 t2 t3 t4 t5 t6] w fun e w' => e = .returned (.bool true) ∧ Below w.heap.size w w' := by
  obtain ⟨⟨A1, n1, rfl, l1, r1⟩, ⟨A2, n2, rfl, l2, r2⟩, ⟨A3, n3, rfl, l3, r3⟩, ⟨A4, n4, rfl, l4, r4⟩, ⟨A5, n5, rfl, l5, r5⟩, ⟨A6, n6, rfl, l6, r6⟩⟩ := hg
  obtain ⟨⟨B1, m1, rfl, x1, y1⟩, ⟨B2, m2, rfl, x2, y2⟩, ⟨B3, m3, rfl, x3, y3⟩, ⟨B4, m4, rfl, x4, y4⟩, ⟨B5, m5, rfl, x5, y5⟩, ⟨B6, m6, rfl, x6, y6⟩⟩ := hh
  have H1 := Aside0.mk (show RowC kS w (.slice A1 g.v1.length n1) g.v1 from ⟨A1, n1, rfl, l1, r1⟩)
  have H2 := Aside0.mk (show RowC kC w (.slice A2 g.c1.length n2) g.c1 from ⟨A2, n2, rfl, l2, r2⟩)
  have H3 := Aside0.mk (show RowC kS w (.slice A3 g.v2.length n3) g.v2 from ⟨A3, n3, rfl, l3, r3⟩)
  have H4 := Aside0.mk (show RowC kC w (.slice A4 g.c2.length n4) g.c2 from ⟨A4, n4, rfl, l4, r4⟩)
  have H5 := Aside0.mk (show RowC kB w (.slice A5 g.rq.length n5) g.rq from ⟨A5, n5, rfl, l5, r5⟩)
  have H6 := Aside0.mk (show RowC kB w (.slice A6 g.rp.length n6) g.rp from ⟨A6, n6, rfl, l6, r6⟩)
  have J1 := Aside0.mk (show RowC kS w (.slice B1 g.v1.length m1) g.v1 from ⟨B1, m1, rfl, x1, y1⟩)
  have J2 := Aside0.mk (show RowC kC w (.slice B2 g.c1.length m2) g.c1 from ⟨B2, m2, rfl, x2, y2⟩)
  have J3 := Aside0.mk (show RowC kS w (.slice B3 g.v2.length m3) g.v2 from ⟨B3, m3, rfl, x3, y3⟩)
  have J4 := Aside0.mk (show RowC kC w (.slice B4 g.c2.length m4) g.c2 from ⟨B4, m4, rfl, x4, y4⟩)
  have J5 := Aside0.mk (show RowC kB w (.slice B5 g.rq.length m5) g.rq from ⟨B5, m5, rfl, x5, y5⟩)
  have J6 := Aside0.mk (show RowC kB w (.slice B6 g.rp.length m6) g.rp from ⟨B6, m6, rfl, x6, y6⟩)
  have GL := Aside0.mk hl
  clear hl l1 r1 x1 y1 l2 r2 x2 y2 l3 r3 x3 y3 l4 r4 x4 y4 l5 r5 x5 y5 l6 r6 x6 y6
  have hp := blk_alloc (heap_new w (genO g (.slice A1 g.v1.length n1) (.slice A2 g.c1.length n2) (.slice A3 g.v2.length n3) (.slice A4 g.c2.length n4) (.slice A5 g.rq.length n5) (.slice A6 g.rp.length n6))) (genO g (.slice B1 g.v1.length m1) (.slice B2 g.c1.length m2) (.slice B3 g.v2.length m3) (.slice B4 g.c2.length m4) (.slice B5 g.rq.length m5) (.slice B6 g.rp.length m6))
  have hq := heap_new (w.alloc (genO g (.slice A1 g.v1.length n1) (.slice A2 g.c1.length n2) (.slice A3 g.v2.length n3) (.slice A4 g.c2.length n4) (.slice A5 g.rq.length n5) (.slice A6 g.rp.length n6))) (genO g (.slice B1 g.v1.length m1) (.slice B2 g.c1.length m2) (.slice B3 g.v2.length m3) (.slice B4 g.c2.length m4) (.slice B5 g.rq.length m5) (.slice B6 g.rp.length m6))
  have hB : Below w.heap.size w ((w.alloc (genO g (.slice A1 g.v1.length n1) (.slice A2 g.c1.length n2) (.slice A3 g.v2.length n3) (.slice A4 g.c2.length n4) (.slice A5 g.rq.length n5) (.slice A6 g.rp.length n6))).alloc (genO g (.slice B1 g.v1.length m1) (.slice B2 g.c1.length m2) (.slice B3 g.v2.length m3) (.slice B4 g.c2.length m4) (.slice B5 g.rq.length m5) (.slice B6 g.rp.length m6))) := ((Below.refl _ _).alloc (Nat.le_refl _) _).alloc (by simp) _
  rw [show (w.alloc (genO g (.slice A1 g.v1.length n1) (.slice A2 g.c1.length n2) (.slice A3 g.v2.length n3) (.slice A4 g.c2.length n4) (.slice A5 g.rq.length n5) (.slice A6 g.rp.length n6))).heap.size = w.heap.size + 1 from by simp] at hq
  obtain ⟨p, hp'⟩ : ∃ p, p = w.heap.size := ⟨_, rfl⟩
  rw [← hp'] at hp hq
  have P := Aside0.mk hp
  have Q := Aside0.mk hq
  have B := Aside0.mk hB
  have EP := Aside0.mk hp'
  clear hp hq hB hp'
  go_enter Try.func42, Try.ntmps42
  go_upto_region 1 with fail
  change Code.wp _ _ _ _ ((w.alloc (genO g (.slice A1 g.v1.length n1) (.slice A2 g.c1.length n2) (.slice A3 g.v2.length n3) (.slice A4 g.c2.length n4) (.slice A5 g.rq.length n5) (.slice A6 g.rp.length n6))).alloc (genO g (.slice B1 g.v1.length m1) (.slice B2 g.c1.length m2) (.slice B3 g.v2.length m3) (.slice B4 g.c2.length m4) (.slice B5 g.rq.length m5) (.slice B6 g.rp.length m6)))
  rw [← EP.out]
  generalize (w.alloc (genO g (.slice A1 g.v1.length n1) (.slice A2 g.c1.length n2) (.slice A3 g.v2.length n3) (.slice A4 g.c2.length n4) (.slice A5 g.rq.length n5) (.slice A6 g.rp.length n6))).alloc (genO g (.slice B1 g.v1.length m1) (.slice B2 g.c1.length m2) (.slice B3 g.v2.length m3) (.slice B4 g.c2.length m4) (.slice B5 g.rq.length m5) (.slice B6 g.rp.length m6)) = w1 at P Q B ⊢
  clear EP
  obtain ⟨c0, c1, c2, c3, c4, c5, c6, c7, c8, c9, c10⟩ := heldG P.out
  obtain ⟨d0, d1, d2, d3, d4, d5, d6, d7, d8, d9, d10⟩ := heldG Q.out
  go_wp2_with fail
  refine (refhalf (H1.out.below B.out) (H2.out.below B.out) (J1.out.below B.out) (J2.out.below B.out) GL.out.h1 GL.out.h2).mono ?_
  rintro e w2 ⟨rfl, hb⟩
  replace P := Aside0.mk (blk_kept P.out hb)
  replace Q := Aside0.mk (blk_kept Q.out hb)
  replace B := Aside0.mk (below_then B.out B.out.size hb)
  clear hb c0 c1 c2 c3 c4 c5 c6 c7 c8 c9 c10 d0 d1 d2 d3 d4 d5 d6 d7 d8 d9 d10
  obtain ⟨c0, c1, c2, c3, c4, c5, c6, c7, c8, c9, c10⟩ := heldG P.out
  obtain ⟨d0, d1, d2, d3, d4, d5, d6, d7, d8, d9, d10⟩ := heldG Q.out
  go_wp2_with fail
  refine (refhalf (H3.out.below B.out) (H4.out.below B.out) (J3.out.below B.out) (J4.out.below B.out) GL.out.h3 GL.out.h4).mono ?_
  rintro e w2 ⟨rfl, hb⟩
  replace P := Aside0.mk (blk_kept P.out hb)
  replace Q := Aside0.mk (blk_kept Q.out hb)
  replace B := Aside0.mk (below_then B.out B.out.size hb)
  clear hb c0 c1 c2 c3 c4 c5 c6 c7 c8 c9 c10 d0 d1 d2 d3 d4 d5 d6 d7 d8 d9 d10
  obtain ⟨c0, c1, c2, c3, c4, c5, c6, c7, c8, c9, c10⟩ := heldG P.out
  obtain ⟨d0, d1, d2, d3, d4, d5, d6, d7, d8, d9, d10⟩ := heldG Q.out
  go_wp2_with fail
  refine (bytes00 (H5.out.below B.out) (J5.out.below B.out)).mono ?_
  rintro e w2 ⟨rfl, hb⟩
  replace P := Aside0.mk (blk_kept P.out hb)
  replace Q := Aside0.mk (blk_kept Q.out hb)
  replace B := Aside0.mk (below_then B.out B.out.size hb)
  clear hb c0 c1 c2 c3 c4 c5 c6 c7 c8 c9 c10 d0 d1 d2 d3 d4 d5 d6 d7 d8 d9 d10
  obtain ⟨c0, c1, c2, c3, c4, c5, c6, c7, c8, c9, c10⟩ := heldG P.out
  obtain ⟨d0, d1, d2, d3, d4, d5, d6, d7, d8, d9, d10⟩ := heldG Q.out
  go_wp2_with fail
  refine (bytes00 (H6.out.below B.out) (J6.out.below B.out)).mono ?_
  rintro e w2 ⟨rfl, hb⟩
  replace P := Aside0.mk (blk_kept P.out hb)
  replace Q := Aside0.mk (blk_kept Q.out hb)
  replace B := Aside0.mk (below_then B.out B.out.size hb)
  clear hb c0 c1 c2 c3 c4 c5 c6 c7 c8 c9 c10 d0 d1 d2 d3 d4 d5 d6 d7 d8 d9 d10
  obtain ⟨c0, c1, c2, c3, c4, c5, c6, c7, c8, c9, c10⟩ := heldG P.out
  obtain ⟨d0, d1, d2, d3, d4, d5, d6, d7, d8, d9, d10⟩ := heldG Q.out
  go_wp2_with fail
  go_ret
  exact ⟨rfl, B.out⟩
set_option maxRecDepth 100000 in
set_option maxHeartbeats 4000000 in
theorem gensame {w : World} {g : G} {s1 s2 s3 s4 s5 s6 t1 t2 t3 t4 t5 t6 : Value} (hg : GenC w g s1 s2 s3 s4 s5 s6) (hh : GenC w g t1 t2 t3 t4 t5 t6) (hl : GenL g 1000000) :
    Calls Try.prog 43 #[genV g s1 s2 s3 s4 s5 s6, genV g t1 t2 t3 t4 t5 t6] w fun e w' => e = .returned (.bool true) ∧ Below w.heap.size w w' := by
  obtain ⟨⟨A1, n1, rfl, l1, r1⟩, ⟨A2, n2, rfl, l2, r2⟩, ⟨A3, n3, rfl, l3, r3⟩, ⟨A4, n4, rfl, l4, r4⟩, ⟨A5, n5, rfl, l5, r5⟩, ⟨A6, n6, rfl, l6, r6⟩⟩ := hg
  obtain ⟨⟨B1, m1, rfl, x1, y1⟩, ⟨B2, m2, rfl, x2, y2⟩, ⟨B3, m3, rfl, x3, y3⟩, ⟨B4, m4, rfl, x4, y4⟩, ⟨B5, m5, rfl, x5, y5⟩, ⟨B6, m6, rfl, x6, y6⟩⟩ := hh
  have H1 := Aside0.mk (show RowC kS w (.slice A1 g.v1.length n1) g.v1 from ⟨A1, n1, rfl, l1, r1⟩)
  have H2 := Aside0.mk (show RowC kC w (.slice A2 g.c1.length n2) g.c1 from ⟨A2, n2, rfl, l2, r2⟩)
  have H3 := Aside0.mk (show RowC kS w (.slice A3 g.v2.length n3) g.v2 from ⟨A3, n3, rfl, l3, r3⟩)
  have H4 := Aside0.mk (show RowC kC w (.slice A4 g.c2.length n4) g.c2 from ⟨A4, n4, rfl, l4, r4⟩)
  have H5 := Aside0.mk (show RowC kB w (.slice A5 g.rq.length n5) g.rq from ⟨A5, n5, rfl, l5, r5⟩)
  have H6 := Aside0.mk (show RowC kB w (.slice A6 g.rp.length n6) g.rp from ⟨A6, n6, rfl, l6, r6⟩)
  have J1 := Aside0.mk (show RowC kS w (.slice B1 g.v1.length m1) g.v1 from ⟨B1, m1, rfl, x1, y1⟩)
  have J2 := Aside0.mk (show RowC kC w (.slice B2 g.c1.length m2) g.c1 from ⟨B2, m2, rfl, x2, y2⟩)
  have J3 := Aside0.mk (show RowC kS w (.slice B3 g.v2.length m3) g.v2 from ⟨B3, m3, rfl, x3, y3⟩)
  have J4 := Aside0.mk (show RowC kC w (.slice B4 g.c2.length m4) g.c2 from ⟨B4, m4, rfl, x4, y4⟩)
  have J5 := Aside0.mk (show RowC kB w (.slice B5 g.rq.length m5) g.rq from ⟨B5, m5, rfl, x5, y5⟩)
  have J6 := Aside0.mk (show RowC kB w (.slice B6 g.rp.length m6) g.rp from ⟨B6, m6, rfl, x6, y6⟩)
  have GL := Aside0.mk hl
  clear hl l1 r1 x1 y1 l2 r2 x2 y2 l3 r3 x3 y3 l4 r4 x4 y4 l5 r5 x5 y5 l6 r6 x6 y6
  have hp := blk_alloc (heap_new w (genO g (.slice A1 g.v1.length n1) (.slice A2 g.c1.length n2) (.slice A3 g.v2.length n3) (.slice A4 g.c2.length n4) (.slice A5 g.rq.length n5) (.slice A6 g.rp.length n6))) (genO g (.slice B1 g.v1.length m1) (.slice B2 g.c1.length m2) (.slice B3 g.v2.length m3) (.slice B4 g.c2.length m4) (.slice B5 g.rq.length m5) (.slice B6 g.rp.length m6))
  have hq := heap_new (w.alloc (genO g (.slice A1 g.v1.length n1) (.slice A2 g.c1.length n2) (.slice A3 g.v2.length n3) (.slice A4 g.c2.length n4) (.slice A5 g.rq.length n5) (.slice A6 g.rp.length n6))) (genO g (.slice B1 g.v1.length m1) (.slice B2 g.c1.length m2) (.slice B3 g.v2.length m3) (.slice B4 g.c2.length m4) (.slice B5 g.rq.length m5) (.slice B6 g.rp.length m6))
  have hB : Below w.heap.size w ((w.alloc (genO g (.slice A1 g.v1.length n1) (.slice A2 g.c1.length n2) (.slice A3 g.v2.length n3) (.slice A4 g.c2.length n4) (.slice A5 g.rq.length n5) (.slice A6 g.rp.length n6))).alloc (genO g (.slice B1 g.v1.length m1) (.slice B2 g.c1.length m2) (.slice B3 g.v2.length m3) (.slice B4 g.c2.length m4) (.slice B5 g.rq.length m5) (.slice B6 g.rp.length m6))) := ((Below.refl _ _).alloc (Nat.le_refl _) _).alloc (by simp) _
  rw [show (w.alloc (genO g (.slice A1 g.v1.length n1) (.slice A2 g.c1.length n2) (.slice A3 g.v2.length n3) (.slice A4 g.c2.length n4) (.slice A5 g.rq.length n5) (.slice A6 g.rp.length n6))).heap.size = w.heap.size + 1 from by simp] at hq
  obtain ⟨p, hp'⟩ : ∃ p, p = w.heap.size := ⟨_, rfl⟩
  rw [← hp'] at hp hq
  have P := Aside0.mk hp
  have Q := Aside0.mk hq
  have B := Aside0.mk hB
  have EP := Aside0.mk hp'
  clear hp hq hB hp'
  go_enter Try.func43, Try.ntmps43
  go_upto_region 1 with fail
  change Code.wp _ _ _ _ ((w.alloc (genO g (.slice A1 g.v1.length n1) (.slice A2 g.c1.length n2) (.slice A3 g.v2.length n3) (.slice A4 g.c2.length n4) (.slice A5 g.rq.length n5) (.slice A6 g.rp.length n6))).alloc (genO g (.slice B1 g.v1.length m1) (.slice B2 g.c1.length m2) (.slice B3 g.v2.length m3) (.slice B4 g.c2.length m4) (.slice B5 g.rq.length m5) (.slice B6 g.rp.length m6)))
  rw [← EP.out]
  generalize (w.alloc (genO g (.slice A1 g.v1.length n1) (.slice A2 g.c1.length n2) (.slice A3 g.v2.length n3) (.slice A4 g.c2.length n4) (.slice A5 g.rq.length n5) (.slice A6 g.rp.length n6))).alloc (genO g (.slice B1 g.v1.length m1) (.slice B2 g.c1.length m2) (.slice B3 g.v2.length m3) (.slice B4 g.c2.length m4) (.slice B5 g.rq.length m5) (.slice B6 g.rp.length m6)) = w1 at P Q B ⊢
  clear EP
  obtain ⟨c0, c1, c2, c3, c4, c5, c6, c7, c8, c9, c10⟩ := heldG P.out
  obtain ⟨d0, d1, d2, d3, d4, d5, d6, d7, d8, d9, d10⟩ := heldG Q.out
  go_wp2_with fail
  refine (halves (H1.out.below B.out) (H2.out.below B.out) (J1.out.below B.out) (J2.out.below B.out) GL.out.h1 GL.out.h2).mono ?_
  rintro e w2 ⟨rfl, hb⟩
  replace P := Aside0.mk (blk_kept P.out hb)
  replace Q := Aside0.mk (blk_kept Q.out hb)
  replace B := Aside0.mk (below_then B.out B.out.size hb)
  clear hb c0 c1 c2 c3 c4 c5 c6 c7 c8 c9 c10 d0 d1 d2 d3 d4 d5 d6 d7 d8 d9 d10
  obtain ⟨c0, c1, c2, c3, c4, c5, c6, c7, c8, c9, c10⟩ := heldG P.out
  obtain ⟨d0, d1, d2, d3, d4, d5, d6, d7, d8, d9, d10⟩ := heldG Q.out
  go_wp2_with fail
  refine (halves (H3.out.below B.out) (H4.out.below B.out) (J3.out.below B.out) (J4.out.below B.out) GL.out.h3 GL.out.h4).mono ?_
  rintro e w2 ⟨rfl, hb⟩
  replace P := Aside0.mk (blk_kept P.out hb)
  replace Q := Aside0.mk (blk_kept Q.out hb)
  replace B := Aside0.mk (below_then B.out B.out.size hb)
  clear hb c0 c1 c2 c3 c4 c5 c6 c7 c8 c9 c10 d0 d1 d2 d3 d4 d5 d6 d7 d8 d9 d10
  obtain ⟨c0, c1, c2, c3, c4, c5, c6, c7, c8, c9, c10⟩ := heldG P.out
  obtain ⟨d0, d1, d2, d3, d4, d5, d6, d7, d8, d9, d10⟩ := heldG Q.out
  go_wp2_with fail
  refine (bytesEq (H5.out.below B.out) (J5.out.below B.out)).mono ?_
  rintro e w2 ⟨rfl, hb⟩
  replace P := Aside0.mk (blk_kept P.out hb)
  replace Q := Aside0.mk (blk_kept Q.out hb)
  replace B := Aside0.mk (below_then B.out B.out.size hb)
  clear hb c0 c1 c2 c3 c4 c5 c6 c7 c8 c9 c10 d0 d1 d2 d3 d4 d5 d6 d7 d8 d9 d10
  obtain ⟨c0, c1, c2, c3, c4, c5, c6, c7, c8, c9, c10⟩ := heldG P.out
  obtain ⟨d0, d1, d2, d3, d4, d5, d6, d7, d8, d9, d10⟩ := heldG Q.out
  go_wp2_with fail
  refine (bytesEq (H6.out.below B.out) (J6.out.below B.out)).mono ?_
  rintro e w2 ⟨rfl, hb⟩
  replace P := Aside0.mk (blk_kept P.out hb)
  replace Q := Aside0.mk (blk_kept Q.out hb)
  replace B := Aside0.mk (below_then B.out B.out.size hb)
  clear hb c0 c1 c2 c3 c4 c5 c6 c7 c8 c9 c10 d0 d1 d2 d3 d4 d5 d6 d7 d8 d9 d10
  obtain ⟨c0, c1, c2, c3, c4, c5, c6, c7, c8, c9, c10⟩ := heldG P.out
  obtain ⟨d0, d1, d2, d3, d4, d5, d6, d7, d8, d9, d10⟩ := heldG Q.out
  go_wp2_with fail
  go_ret
  exact ⟨rfl, B.out⟩
end Go.Proofs.Ytpanefmemabckaa.GenTrue
