/- PolicyWiped: the walk. -/
import Derived.Test.YtpanefmemabckaaPolicyLives
import Derived.Test.YtpanefmemabckaaWWords
import Derived.Deep.DeepCutAuto
namespace Go.Proofs.Ytpanefmemabckaa.PolicyWiped
set_option linter.unusedSimpArgs false
open Go.RowKit Go.Proofs.Ytpanefmemabckaa.PolicyDo Go.Proofs.Ytpanefmemabckaa.PolicyLives
open Go.Proofs.YtpanefmemabckaaW.PrintWords (Aside0 below_step blk_frozen blk_set)

/-- a block that holds a step -/
def stepO (ph p : Int) (sw : Bool) : Obj := .cells #[.int .u8 ph, .int .u32 p, .bool sw] 38

theorem store_dev {W : World} {g : Nat} {k t o : Int} {b : Bool} (h : W.heap[g]? = some (devO k t o b)) (k' t' o' : Int) (b' : Bool) :
    ((((W.setCell ⟨g, 0, none⟩ (.int .u32 k')).setCell ⟨g, 1, none⟩ (.int .u32 t')).setCell ⟨g, 2, none⟩ (.int .u32 o')).setCell ⟨g, 3, none⟩ (.bool b')).heap[g]? = some (devO k' t' o' b') := by
  unfold devO at h
  exact blk_set (blk_set (blk_set (blk_set h 0 _) 1 _) 2 _) 3 _
theorem store_far {W : World} {g j : Nat} {x : Obj} (h : W.heap[j]? = some x) (hne : j ≠ g) (u0 u1 u2 u3 : Value) :
    ((((W.setCell ⟨g, 0, none⟩ u0).setCell ⟨g, 1, none⟩ u1).setCell ⟨g, 2, none⟩ u2).setCell ⟨g, 3, none⟩ u3).heap[j]? = some x := by
  rw [Below.heap_setCell _ _ _ _ hne, Below.heap_setCell _ _ _ _ hne, Below.heap_setCell _ _ _ _ hne, Below.heap_setCell _ _ _ _ hne]
  exact h
theorem store_below {B : Nat} {w W : World} {g : Nat} (h : Below B w W) (hg : B ≤ g) (u0 u1 u2 u3 : Value) :
    Below B w ((((W.setCell ⟨g, 0, none⟩ u0).setCell ⟨g, 1, none⟩ u1).setCell ⟨g, 2, none⟩ u2).setCell ⟨g, 3, none⟩ u3) :=
  ((((h.setCell (p := ⟨g, 0, none⟩) hg u0).setCell (p := ⟨g, 1, none⟩) hg u1).setCell (p := ⟨g, 2, none⟩) hg u2).setCell (p := ⟨g, 3, none⟩) hg u3)

/-- what Do answers, way by way -/
inductive DoR : Int → Int → Int → Bool → Int → Int → Int → Int → Int → Int → Bool → Int → Int → Bool → Bool → Bool → Prop
  | wiped (k t o p f : Int) : DoR k t o true 3 p f 0 0 0 false 1 0 false false true
  | wipe (k t o ph p f : Int) (h : ph ≠ 3) : DoR k t o true ph p f k t o true 1 0 true false false
  | asked (k t o p f : Int) (h : t ≠ 0) : DoR k t o false 1 p f k t o false 1 t false false false
  | ask (k o p f : Int) : DoR k 0 o false 1 p f k f o false 1 f false true false
  | take (k t o f : Int) (h : t ≠ 0) : DoR k t o false 2 t f f 0 t false 1 f false true false
  | took (k t o f : Int) (hn : t = 0 ∨ o ≠ t) (ho : o ≠ 0) : DoR k t o false 2 o f k t o false 1 k false false false
  | key (k t o p f : Int) (hn : t = 0 ∨ p ≠ t) (hm : o = 0 ∨ p ≠ o) : DoR k t o false 2 p f k t o false 3 0 false false false
  | other (k t o ph p f : Int) (h1 : ph ≠ 1) (h2 : ph ≠ 2) : DoR k t o false ph p f k t o false 4 0 false false false

set_option maxRecDepth 100000 in
theorem do_any (k t o : Int) (b : Bool) (ph p f : Int) (w : World) :
    Calls Try.prog 16 #[.agg #[.int .u32 k, .int .u32 t, .int .u32 o, .bool b], .int .u8 ph, .int .u32 p, .int .u32 f] w fun e w' => ∃ k' t' o' b' s q rw used drop,
      e = .returned (.tuple #[devV k' t' o' b', repV s q rw, .bool used, .bool drop]) ∧ DoR k t o b ph p f k' t' o' b' s q rw used drop ∧ Below w.heap.size w w' := by
  cases b with
  | true =>
    by_cases h3 : ph = 3
    · subst h3
      exact (do_wiped k t o p f w).mono fun e w' h => ⟨_, _, _, _, _, _, _, _, _, h.1, .wiped .., h.2⟩
    · exact (do_wipe k t o ph p f w h3).mono fun e w' h => ⟨_, _, _, _, _, _, _, _, _, h.1, .wipe _ _ _ _ _ _ h3, h.2⟩
  | false =>
    by_cases h1 : ph = 1
    · subst h1
      by_cases ht : t = 0
      · subst ht
        exact (do_ask k o p f w).mono fun e w' h => ⟨_, _, _, _, _, _, _, _, _, h.1, .ask .., h.2⟩
      · exact (do_asked k t o p f w ht).mono fun e w' h => ⟨_, _, _, _, _, _, _, _, _, h.1, .asked _ _ _ _ _ ht, h.2⟩
    · by_cases h2 : ph = 2
      · subst h2
        by_cases hn : t ≠ 0 ∧ p = t
        · obtain ⟨ht, rfl⟩ := hn
          exact (do_take k p o f w ht).mono fun e w' h => ⟨_, _, _, _, _, _, _, _, _, h.1, .take _ _ _ _ ht, h.2⟩
        · have hn' : t = 0 ∨ p ≠ t := by
            by_cases h0 : t = 0
            · exact .inl h0
            · exact .inr fun e => hn ⟨h0, e⟩
          by_cases hm : o ≠ 0 ∧ p = o
          · obtain ⟨ho, rfl⟩ := hm
            exact (do_took k t p f w hn' ho).mono fun e w' h => ⟨_, _, _, _, _, _, _, _, _, h.1, .took _ _ _ _ hn' ho, h.2⟩
          · have hm' : o = 0 ∨ p ≠ o := by
              by_cases h0 : o = 0
              · exact .inl h0
              · exact .inr fun e => hm ⟨h0, e⟩
            exact (do_key k t o p f w hn' hm').mono fun e w' h => ⟨_, _, _, _, _, _, _, _, _, h.1, .key _ _ _ _ _ hn' hm', h.2⟩
      · exact (do_other k t o ph p f w h1 h2).mono fun e w' h => ⟨_, _, _, _, _, _, _, _, _, h.1, .other _ _ _ _ _ _ h1 h2, h.2⟩

set_option maxRecDepth 100000 in
set_option maxHeartbeats 40000000 in
theorem walk (k0 t0 o0 : Int) (b0 : Bool) (A : Option Addr) (n c : Nat) (w : World)
    (hst : ∀ i : Nat, i < n → ∃ ad ph p sw, A = some ad ∧ w.cell? (ad.add (i * 3)) = some (.int .u8 ph) ∧ w.cell? ⟨(ad.add (i * 3)).block, (ad.add (i * 3)).off + 1, none⟩ = some (.int .u32 p) ∧ w.cell? ⟨(ad.add (i * 3)).block, (ad.add (i * 3)).off + 2, none⟩ = some (.bool sw)) :
    Calls Try.prog 4 #[devV k0 t0 o0 b0, .slice A n c] w fun e w' => e = .returned (.bool true) ∧ Below w.heap.size w w' := by
  have HST := Aside0.mk hst
  clear hst
  go_enter Try.func4, Try.ntmps4
  go_wp2_with fail
  have hd := heap_alloc_new w (devO k0 t0 o0 b0)
  have hB : Below w.heap.size w (w.alloc (devO k0 t0 o0 b0)) := (Below.refl _ _).alloc (Nat.le_refl _) _
  unfold devO at hd hB
  generalize w.alloc _ = W0 at hd hB ⊢
  obtain ⟨g, hg⟩ : ∃ g, g = w.heap.size := ⟨_, rfl⟩
  rw [← hg] at hd ⊢
  have HG := Aside0.mk hg
  have HD := Aside0.mk hd
  have HB := Aside0.mk hB
  clear hg hd hB
  go_loopw [5, 6, 7] (fun v5 v6 v7 wr => ∃ (i : Nat) (k t o : Int) (b : Bool), i ≤ n ∧ v5 = .bool b ∧ v6 = .int .u32 k ∧ v7 = .int .i64 i ∧ Aside0 (wr.heap[g]? = some (devO k t o b)) ∧ Aside0 (Below w.heap.size w wr)) (fun _ _ v7 _ => n - (intOf v7).toNat)
  case atStart => exact ⟨0, k0, t0, o0, b0, by omega, rfl, rfl, rfl, HD, HB⟩
  case round =>
    clear HD HB
    obtain ⟨i, k, t, o, b, hi, rfl, rfl, rfl, HD, HB⟩ := hrel
    by_cases hlt : i < n ∧ i < 60
    · obtain ⟨hlt, h60⟩ := hlt
      have q1 : (i : Int) < (n : Int) := by omega
      have q2 : (i : Int) < 60 := by omega
      obtain ⟨ad, ph, p, sw, rfl, s0, s1, s2⟩ := HST.out i hlt
      replace s0 := (HB.out.cell (World.block_lt_of_cell? w _ s0)).trans s0
      replace s1 := (HB.out.cell (World.block_lt_of_cell? w _ s1)).trans s1
      replace s2 := (HB.out.cell (World.block_lt_of_cell? w _ s2)).trans s2
      go_upto_region 7 with (fail)
      have hgg := Aside0.mk (blk_lt HD.out)
      have S1 := Aside0.mk (heap_alloc_new wr (stepO ph p sw))
      have D1 := Aside0.mk (blk_alloc HD.out (stepO ph p sw))
      have B1 := Aside0.mk (HB.out.alloc HB.out.size (stepO ph p sw))
      unfold stepO at S1 D1 B1
      generalize wr.alloc _ = W1 at S1 D1 B1 ⊢
      generalize wr.heap.size = g8 at S1 hgg ⊢
      clear HD HB s0 s1 s2
      have a0 := blk_cell S1.out 2
      simp only [List.getElem?_toArray, List.getElem?_cons_zero, List.getElem?_cons_succ] at a0
      go_upto_if 35 with fail
      clear a0
      go_cut [5] (fun v5 wc => v5 = .bool (b || sw) ∧ Aside0 (wc.heap[g8]? = some (stepO ph p sw)) ∧ Aside0 (wc.heap[g]? = some (devO k t o (b || sw))) ∧ Aside0 (Below w.heap.size w wc))
      case first =>
        cases sw with
        | false =>
          go_wp2_with fail
          go_meet
          case rel => exact ⟨by simp, S1, by simpa using D1, B1⟩
        | true =>
          have d0 := blk_cell D1.out 0
          have d1 := blk_cell D1.out 1
          have d2 := blk_cell D1.out 2
          have d3 := blk_cell D1.out 3
          unfold devO at d0 d1 d2 d3
          simp only [List.getElem?_toArray, List.getElem?_cons_zero, List.getElem?_cons_succ] at d0 d1 d2 d3
          go_wp2_with fail
          refine (wipe_calls _ _ _ _ _).mono ?_
          rintro e W2 ⟨rfl, hb⟩
          have S2 := Aside0.mk (blk_kept S1.out hb)
          have D2 := Aside0.mk (blk_kept D1.out hb)
          have B2 := Aside0.mk (B1.out.trans (hb.mono B1.out.size))
          clear hb S1 B1 d0 d1 d2 d3
          have d0 := blk_cell D2.out 0
          have d1 := blk_cell D2.out 1
          have d2 := blk_cell D2.out 2
          have d3 := blk_cell D2.out 3
          unfold devO at d0 d1 d2 d3
          simp only [List.getElem?_toArray, List.getElem?_cons_zero, List.getElem?_cons_succ] at d0 d1 d2 d3
          have f0 := blk_frozen D2.out 0
          have f1 := blk_frozen D2.out 1
          have f2 := blk_frozen D2.out 2
          have f3 := blk_frozen D2.out 3
          go_wp2_with fail
          go_meet
          case rel =>
            have hne : g8 ≠ g := by have := hgg.out; omega
            exact ⟨by simp, ⟨(store_far S2.out hne _ _ _ _)⟩, ⟨by rw [Bool.or_true]; exact store_dev D2.out _ _ _ _⟩, ⟨store_below B2.out (by rw [HG.out]; exact Nat.le_refl _) _ _ _ _⟩⟩
      case rest =>
        clear D1 S1 B1
        obtain ⟨rfl, S2, D2, B2⟩ := hcut
        obtain ⟨b2, hb2⟩ : ∃ b2, b2 = (b || sw) := ⟨_, rfl⟩
        rw [← hb2] at D2 ⊢
        clear hb2
        have d0 := blk_cell D2.out 0
        have d1 := blk_cell D2.out 1
        have d2 := blk_cell D2.out 2
        have d3 := blk_cell D2.out 3
        unfold devO at d0 d1 d2 d3
        simp only [List.getElem?_toArray, List.getElem?_cons_zero, List.getElem?_cons_succ] at d0 d1 d2 d3
        go_upto_region 12 with (fail)
        have hs8 := blk_lt S2.out
        have hsg := blk_lt D2.out
        have hBW := B2.out.size
        have S3 := Aside0.mk (blk_alloc S2.out (devO k t o b2))
        have D3 := Aside0.mk (blk_alloc D2.out (devO k t o b2))
        have A3 := Aside0.mk (heap_alloc_new wc (devO k t o b2))
        have B3 := Aside0.mk (B2.out.alloc B2.out.size (devO k t o b2))
        obtain ⟨g10, h10⟩ : ∃ x, x = wc.heap.size := ⟨_, rfl⟩
        rw [← h10] at A3 ⊢
        have N10 := Aside0.mk (show g10 ≠ g ∧ g8 ≠ g by have := hgg.out; omega)
        unfold stepO at S3
        unfold devO at S3 D3 A3 B3
        generalize wc.alloc _ = W3 at S3 D3 A3 B3 ⊢
        clear S2 D2 B2 d0 d1 d2 d3 hs8 hsg hBW h10
        have d0 := blk_cell D3.out 0
        have d1 := blk_cell D3.out 1
        have d2 := blk_cell D3.out 2
        have d3 := blk_cell D3.out 3
        have s0 := blk_cell S3.out 0
        have s1 := blk_cell S3.out 1
        simp only [List.getElem?_toArray, List.getElem?_cons_zero, List.getElem?_cons_succ] at d0 d1 d2 d3 s0 s1
        go_upto_region 13 with (go_at_call 16; refine (do_any _ _ _ _ _ _ _ _).mono ?_; rintro e W4 ⟨k', t', o', b', s, q, rw, used, drop, rfl, hr, hb⟩)
        have S5 := Aside0.mk (blk_alloc (blk_alloc (blk_kept S3.out hb) (devO k' t' o' b')) (repO s q rw))
        have D5 := Aside0.mk (blk_alloc (blk_alloc (blk_kept D3.out hb) (devO k' t' o' b')) (repO s q rw))
        have A5 := Aside0.mk (blk_alloc (blk_alloc (blk_kept A3.out hb) (devO k' t' o' b')) (repO s q rw))
        have T5 := Two.mk_ (B3.out.trans (hb.mono B3.out.size)) (devO k' t' o' b') (repO s q rw)
        have N12 := Aside0.mk (show W4.heap.size + 1 ≠ g by have h1 := blk_lt D3.out; have h2 := hb.size; omega)
        have E5 := Aside0.mk T5.dev
        have R5 := Aside0.mk T5.rep
        have B5 := Aside0.mk T5.bel
        obtain ⟨g11, h11⟩ : ∃ x, x = W4.heap.size := ⟨_, rfl⟩
        obtain ⟨g12, h12⟩ : ∃ x, x = W4.heap.size + 1 := ⟨_, rfl⟩
        rw [← h12] at R5 N12 ⊢
        rw [← h11] at E5 ⊢
        unfold devO at S5 D5 A5 E5 R5 B5
        unfold repO at S5 D5 A5 E5 R5 B5
        generalize (W4.alloc _).alloc _ = W5 at S5 D5 A5 E5 R5 B5 ⊢
        clear S3 D3 A3 B3 T5 hb h11 h12 d0 d1 d2 d3 s0 s1
        have e0 := blk_cell E5.out 0
        have e1 := blk_cell E5.out 1
        have e2 := blk_cell E5.out 2
        have e3 := blk_cell E5.out 3
        have d0 := blk_cell D5.out 0
        have d1 := blk_cell D5.out 1
        have d2 := blk_cell D5.out 2
        have d3 := blk_cell D5.out 3
        have f0 := blk_frozen D5.out 0
        have f1 := blk_frozen D5.out 1
        have f2 := blk_frozen D5.out 2
        have f3 := blk_frozen D5.out 3
        simp only [List.getElem?_toArray, List.getElem?_cons_zero, List.getElem?_cons_succ] at e0 e1 e2 e3 d0 d1 d2 d3
        go_upto_region 14 with (fail)
        have S6 := Aside0.mk (store_far S5.out N10.out.2 (.int .u32 k') (.int .u32 t') (.int .u32 o') (.bool b'))
        have A6 := Aside0.mk (store_far A5.out N10.out.1 (.int .u32 k') (.int .u32 t') (.int .u32 o') (.bool b'))
        have R6 := Aside0.mk (store_far R5.out N12.out (.int .u32 k') (.int .u32 t') (.int .u32 o') (.bool b'))
        have D6 := Aside0.mk (store_dev (k := k) (t := t) (o := o) (b := b2) D5.out k' t' o' b')
        have B6 := Aside0.mk (store_below B5.out (show w.heap.size ≤ g by rw [HG.out]; exact Nat.le_refl _) (.int .u32 k') (.int .u32 t') (.int .u32 o') (.bool b'))
        generalize World.setCell _ _ _ = W6 at S6 A6 R6 D6 B6 ⊢
        clear S5 A5 R5 D5 E5 B5 e0 e1 e2 e3 d0 d1 d2 d3 f0 f1 f2 f3 N12 N10
        have s0 := blk_cell S6.out 0
        have s1 := blk_cell S6.out 1
        have a0 := blk_cell A6.out 0
        have a1 := blk_cell A6.out 1
        have a2 := blk_cell A6.out 2
        have a3 := blk_cell A6.out 3
        have r10 := blk_cell R6.out 10
        have r11 := blk_cell R6.out 11
        have d6 := D6.out
        unfold devO at d6
        have d0 := blk_cell d6 0
        have d1 := blk_cell d6 1
        have d2 := blk_cell d6 2
        have d3 := blk_cell d6 3
        simp only [List.getElem?_toArray, List.getElem?_cons_zero, List.getElem?_cons_succ] at s0 s1 a0 a1 a2 a3 r10 r11 d0 d1 d2 d3
        clear d6 S6 A6 R6
        have fne : (((i : Int) + 1) == 0) = false := beq_eq_false_iff_ne.mpr (by omega)
        have fnn : (((i : Int) + 1) != 0) = true := bne_iff_ne.mpr (by omega)
        cases hr with
        | wiped k t o p =>
          go_wp2_with fail
          refine (gate_no _ _ _ _ _ (by first | exact .inl rfl | exact .inl (by assumption) | (right; omega))).mono ?_
          rintro e W7 ⟨rfl, hb7⟩
          have d7 := blk_kept D6.out hb7
          have B7 := Aside0.mk (B6.out.trans (hb7.mono B6.out.size))
          have D7 := Aside0.mk d7
          unfold devO at d7
          have x0 := blk_cell d7 0
          have x1 := blk_cell d7 1
          have x2 := blk_cell d7 2
          have x3 := blk_cell d7 3
          simp only [List.getElem?_toArray, List.getElem?_cons_zero, List.getElem?_cons_succ] at x0 x1 x2 x3
          clear d7 hb7 D6 B6 s0 s1 a0 a1 a2 a3 r10 r11 d0 d1 d2 d3
          go_wp2_with fail
          refine (gate_no _ _ _ _ _ (by first | exact .inl rfl | exact .inl (by assumption) | (right; omega))).mono ?_
          rintro e W8 ⟨rfl, hb8⟩
          have d8 := blk_kept D7.out hb8
          have B8 := Aside0.mk (B7.out.trans (hb8.mono B7.out.size))
          have D8 := Aside0.mk d8
          unfold devO at d8
          have z0 := blk_cell d8 0
          simp only [List.getElem?_toArray, List.getElem?_cons_zero, List.getElem?_cons_succ] at z0
          clear d8 hb8 D7 B7 x0 x1 x2 x3
          go_wp2_with fail
          go_roundw
          case rel => exact ⟨i + 1, 0, 0, 0, false, by omega, rfl, rfl, by go_num, D8, B8⟩
          case measure => simp [intOf]; omega
        | wipe k t o ph p h =>
          have h' : (ph == 3) = false := beq_eq_false_iff_ne.mpr h
          go_wp2_with fail
          refine (gate_wipe _ _ _ _ _).mono ?_
          rintro e W7 ⟨rfl, hb7⟩
          have d7 := blk_kept D6.out hb7
          have B7 := Aside0.mk (B6.out.trans (hb7.mono B6.out.size))
          have D7 := Aside0.mk d7
          unfold devO at d7
          have x0 := blk_cell d7 0
          have x1 := blk_cell d7 1
          have x2 := blk_cell d7 2
          have x3 := blk_cell d7 3
          simp only [List.getElem?_toArray, List.getElem?_cons_zero, List.getElem?_cons_succ] at x0 x1 x2 x3
          clear d7 hb7 D6 B6 s0 s1 a0 a1 a2 a3 r10 r11 d0 d1 d2 d3
          go_wp2_with fail
          refine (gate_wipe _ _ _ _ _).mono ?_
          rintro e W8 ⟨rfl, hb8⟩
          have d8 := blk_kept D7.out hb8
          have B8 := Aside0.mk (B7.out.trans (hb8.mono B7.out.size))
          have D8 := Aside0.mk d8
          unfold devO at d8
          have z0 := blk_cell d8 0
          simp only [List.getElem?_toArray, List.getElem?_cons_zero, List.getElem?_cons_succ] at z0
          clear d8 hb8 D7 B7 x0 x1 x2 x3
          go_wp2_with fail
          go_roundw
          case rel => exact ⟨i + 1, k, t, o, true, by omega, rfl, rfl, by go_num, D8, B8⟩
          case measure => simp [intOf]; omega
        | asked k t o p h =>
          by_cases hk : k = 0
          · subst hk
            go_wp2_with fail
            refine (gate_no _ _ _ _ _ (by first | exact .inl rfl | exact .inl (by assumption) | (right; omega))).mono ?_
            rintro e W7 ⟨rfl, hb7⟩
            have d7 := blk_kept D6.out hb7
            have B7 := Aside0.mk (B6.out.trans (hb7.mono B6.out.size))
            have D7 := Aside0.mk d7
            unfold devO at d7
            have x0 := blk_cell d7 0
            have x1 := blk_cell d7 1
            have x2 := blk_cell d7 2
            have x3 := blk_cell d7 3
            simp only [List.getElem?_toArray, List.getElem?_cons_zero, List.getElem?_cons_succ] at x0 x1 x2 x3
            clear d7 hb7 D6 B6 s0 s1 a0 a1 a2 a3 r10 r11 d0 d1 d2 d3
            go_wp2_with fail
            refine (gate_no _ _ _ _ _ (by first | exact .inl rfl | exact .inl (by assumption) | (right; omega))).mono ?_
            rintro e W8 ⟨rfl, hb8⟩
            have d8 := blk_kept D7.out hb8
            have B8 := Aside0.mk (B7.out.trans (hb8.mono B7.out.size))
            have D8 := Aside0.mk d8
            unfold devO at d8
            have z0 := blk_cell d8 0
            simp only [List.getElem?_toArray, List.getElem?_cons_zero, List.getElem?_cons_succ] at z0
            clear d8 hb8 D7 B7 x0 x1 x2 x3
            go_wp2_with fail
            go_roundw
            case rel => exact ⟨i + 1, 0, _, _, false, by omega, rfl, rfl, by go_num, D8, B8⟩
            case measure => simp [intOf]; omega
          · have hk' : (k == 0) = false := beq_eq_false_iff_ne.mpr hk
            have hk'' : (k != 0) = true := bne_iff_ne.mpr hk
            go_wp2_with fail
            refine (gate_yes _ _ _ _ (by first | assumption | omega)).mono ?_
            rintro e W7 ⟨rfl, hb7⟩
            have d7 := blk_kept D6.out hb7
            have B7 := Aside0.mk (B6.out.trans (hb7.mono B6.out.size))
            have D7 := Aside0.mk d7
            unfold devO at d7
            have x0 := blk_cell d7 0
            have x1 := blk_cell d7 1
            have x2 := blk_cell d7 2
            have x3 := blk_cell d7 3
            simp only [List.getElem?_toArray, List.getElem?_cons_zero, List.getElem?_cons_succ] at x0 x1 x2 x3
            clear d7 hb7 D6 B6 s0 s1 a0 a1 a2 a3 r10 r11 d0 d1 d2 d3
            go_wp2_with fail
            refine (gate_no _ _ _ _ _ (by first | exact .inl rfl | exact .inl (by assumption) | (right; omega))).mono ?_
            rintro e W8 ⟨rfl, hb8⟩
            have d8 := blk_kept D7.out hb8
            have B8 := Aside0.mk (B7.out.trans (hb8.mono B7.out.size))
            have D8 := Aside0.mk d8
            unfold devO at d8
            have z0 := blk_cell d8 0
            simp only [List.getElem?_toArray, List.getElem?_cons_zero, List.getElem?_cons_succ] at z0
            clear d8 hb8 D7 B7 x0 x1 x2 x3
            go_wp2_with fail
            go_roundw
            case rel => exact ⟨i + 1, k, _, _, false, by omega, rfl, rfl, by go_num, D8, B8⟩
            case measure => simp [intOf]; omega
        | ask k o p =>
          by_cases hk : k = 0
          · subst hk
            go_wp2_with fail
            refine (gate_no _ _ _ _ _ (by first | exact .inl rfl | exact .inl (by assumption) | (right; omega))).mono ?_
            rintro e W7 ⟨rfl, hb7⟩
            have d7 := blk_kept D6.out hb7
            have B7 := Aside0.mk (B6.out.trans (hb7.mono B6.out.size))
            have D7 := Aside0.mk d7
            unfold devO at d7
            have x0 := blk_cell d7 0
            have x1 := blk_cell d7 1
            have x2 := blk_cell d7 2
            have x3 := blk_cell d7 3
            simp only [List.getElem?_toArray, List.getElem?_cons_zero, List.getElem?_cons_succ] at x0 x1 x2 x3
            clear d7 hb7 D6 B6 s0 s1 a0 a1 a2 a3 r10 r11 d0 d1 d2 d3
            go_wp2_with fail
            refine (gate_no _ _ _ _ _ (by first | exact .inl rfl | exact .inl (by assumption) | (right; omega))).mono ?_
            rintro e W8 ⟨rfl, hb8⟩
            have d8 := blk_kept D7.out hb8
            have B8 := Aside0.mk (B7.out.trans (hb8.mono B7.out.size))
            have D8 := Aside0.mk d8
            unfold devO at d8
            have z0 := blk_cell d8 0
            simp only [List.getElem?_toArray, List.getElem?_cons_zero, List.getElem?_cons_succ] at z0
            clear d8 hb8 D7 B7 x0 x1 x2 x3
            go_wp2_with fail
            go_roundw
            case rel => exact ⟨i + 1, 0, _, _, false, by omega, rfl, rfl, by go_num, D8, B8⟩
            case measure => simp [intOf]; omega
          · have hk' : (k == 0) = false := beq_eq_false_iff_ne.mpr hk
            have hk'' : (k != 0) = true := bne_iff_ne.mpr hk
            go_wp2_with fail
            refine (gate_yes _ _ _ _ (by first | assumption | omega)).mono ?_
            rintro e W7 ⟨rfl, hb7⟩
            have d7 := blk_kept D6.out hb7
            have B7 := Aside0.mk (B6.out.trans (hb7.mono B6.out.size))
            have D7 := Aside0.mk d7
            unfold devO at d7
            have x0 := blk_cell d7 0
            have x1 := blk_cell d7 1
            have x2 := blk_cell d7 2
            have x3 := blk_cell d7 3
            simp only [List.getElem?_toArray, List.getElem?_cons_zero, List.getElem?_cons_succ] at x0 x1 x2 x3
            clear d7 hb7 D6 B6 s0 s1 a0 a1 a2 a3 r10 r11 d0 d1 d2 d3
            go_wp2_with fail
            refine (gate_no _ _ _ _ _ (by first | exact .inl rfl | exact .inl (by assumption) | (right; omega))).mono ?_
            rintro e W8 ⟨rfl, hb8⟩
            have d8 := blk_kept D7.out hb8
            have B8 := Aside0.mk (B7.out.trans (hb8.mono B7.out.size))
            have D8 := Aside0.mk d8
            unfold devO at d8
            have z0 := blk_cell d8 0
            simp only [List.getElem?_toArray, List.getElem?_cons_zero, List.getElem?_cons_succ] at z0
            clear d8 hb8 D7 B7 x0 x1 x2 x3
            go_wp2_with fail
            go_roundw
            case rel => exact ⟨i + 1, k, _, _, false, by omega, rfl, rfl, by go_num, D8, B8⟩
            case measure => simp [intOf]; omega
        | take k t o h =>
          have h' : (t != 0) = true := bne_iff_ne.mpr h
          go_wp2_with fail
          refine (gate_yes _ _ _ _ (by first | assumption | omega)).mono ?_
          rintro e W7 ⟨rfl, hb7⟩
          have d7 := blk_kept D6.out hb7
          have B7 := Aside0.mk (B6.out.trans (hb7.mono B6.out.size))
          have D7 := Aside0.mk d7
          unfold devO at d7
          have x0 := blk_cell d7 0
          have x1 := blk_cell d7 1
          have x2 := blk_cell d7 2
          have x3 := blk_cell d7 3
          simp only [List.getElem?_toArray, List.getElem?_cons_zero, List.getElem?_cons_succ] at x0 x1 x2 x3
          clear d7 hb7 D6 B6 s0 s1 a0 a1 a2 a3 r10 r11 d0 d1 d2 d3
          go_wp2_with fail
          refine (gate_no _ _ _ _ _ (by first | exact .inl rfl | exact .inl (by assumption) | (right; omega))).mono ?_
          rintro e W8 ⟨rfl, hb8⟩
          have d8 := blk_kept D7.out hb8
          have B8 := Aside0.mk (B7.out.trans (hb8.mono B7.out.size))
          have D8 := Aside0.mk d8
          unfold devO at d8
          have z0 := blk_cell d8 0
          simp only [List.getElem?_toArray, List.getElem?_cons_zero, List.getElem?_cons_succ] at z0
          clear d8 hb8 D7 B7 x0 x1 x2 x3
          go_wp2_with fail
          go_roundw
          case rel => exact ⟨i + 1, _, _, _, false, by omega, rfl, rfl, by go_num, D8, B8⟩
          case measure => simp [intOf]; omega
        | took k t o hn ho =>
          have hx : (t != 0) = false ∨ ((t != 0) = true ∧ (o == t) = false) := by
            by_cases h0 : t = 0
            · exact .inl (bne_eq_false_iff_eq.mpr h0)
            · exact .inr ⟨bne_iff_ne.mpr h0, beq_eq_false_iff_ne.mpr (hn.resolve_left h0)⟩
          rcases hx with hx | ⟨hx, hy⟩
          · by_cases hk : k = 0
            · subst hk
              go_wp2_with fail
              refine (gate_no _ _ _ _ _ (by first | exact .inl rfl | exact .inl (by assumption) | (right; omega))).mono ?_
              rintro e W7 ⟨rfl, hb7⟩
              have d7 := blk_kept D6.out hb7
              have B7 := Aside0.mk (B6.out.trans (hb7.mono B6.out.size))
              have D7 := Aside0.mk d7
              unfold devO at d7
              have x0 := blk_cell d7 0
              have x1 := blk_cell d7 1
              have x2 := blk_cell d7 2
              have x3 := blk_cell d7 3
              simp only [List.getElem?_toArray, List.getElem?_cons_zero, List.getElem?_cons_succ] at x0 x1 x2 x3
              clear d7 hb7 D6 B6 s0 s1 a0 a1 a2 a3 r10 r11 d0 d1 d2 d3
              go_wp2_with fail
              refine (gate_no _ _ _ _ _ (by first | exact .inl rfl | exact .inl (by assumption) | (right; omega))).mono ?_
              rintro e W8 ⟨rfl, hb8⟩
              have d8 := blk_kept D7.out hb8
              have B8 := Aside0.mk (B7.out.trans (hb8.mono B7.out.size))
              have D8 := Aside0.mk d8
              unfold devO at d8
              have z0 := blk_cell d8 0
              simp only [List.getElem?_toArray, List.getElem?_cons_zero, List.getElem?_cons_succ] at z0
              clear d8 hb8 D7 B7 x0 x1 x2 x3
              go_wp2_with fail
              go_roundw
              case rel => exact ⟨i + 1, 0, _, _, false, by omega, rfl, rfl, by go_num, D8, B8⟩
              case measure => simp [intOf]; omega
            · have hk' : (k == 0) = false := beq_eq_false_iff_ne.mpr hk
              have hk'' : (k != 0) = true := bne_iff_ne.mpr hk
              go_wp2_with fail
              refine (gate_yes _ _ _ _ (by first | assumption | omega)).mono ?_
              rintro e W7 ⟨rfl, hb7⟩
              have d7 := blk_kept D6.out hb7
              have B7 := Aside0.mk (B6.out.trans (hb7.mono B6.out.size))
              have D7 := Aside0.mk d7
              unfold devO at d7
              have x0 := blk_cell d7 0
              have x1 := blk_cell d7 1
              have x2 := blk_cell d7 2
              have x3 := blk_cell d7 3
              simp only [List.getElem?_toArray, List.getElem?_cons_zero, List.getElem?_cons_succ] at x0 x1 x2 x3
              clear d7 hb7 D6 B6 s0 s1 a0 a1 a2 a3 r10 r11 d0 d1 d2 d3
              go_wp2_with fail
              refine (gate_no _ _ _ _ _ (by first | exact .inl rfl | exact .inl (by assumption) | (right; omega))).mono ?_
              rintro e W8 ⟨rfl, hb8⟩
              have d8 := blk_kept D7.out hb8
              have B8 := Aside0.mk (B7.out.trans (hb8.mono B7.out.size))
              have D8 := Aside0.mk d8
              unfold devO at d8
              have z0 := blk_cell d8 0
              simp only [List.getElem?_toArray, List.getElem?_cons_zero, List.getElem?_cons_succ] at z0
              clear d8 hb8 D7 B7 x0 x1 x2 x3
              go_wp2_with fail
              go_roundw
              case rel => exact ⟨i + 1, k, _, _, false, by omega, rfl, rfl, by go_num, D8, B8⟩
              case measure => simp [intOf]; omega
          · by_cases hk : k = 0
            · subst hk
              go_wp2_with fail
              refine (gate_no _ _ _ _ _ (by first | exact .inl rfl | exact .inl (by assumption) | (right; omega))).mono ?_
              rintro e W7 ⟨rfl, hb7⟩
              have d7 := blk_kept D6.out hb7
              have B7 := Aside0.mk (B6.out.trans (hb7.mono B6.out.size))
              have D7 := Aside0.mk d7
              unfold devO at d7
              have x0 := blk_cell d7 0
              have x1 := blk_cell d7 1
              have x2 := blk_cell d7 2
              have x3 := blk_cell d7 3
              simp only [List.getElem?_toArray, List.getElem?_cons_zero, List.getElem?_cons_succ] at x0 x1 x2 x3
              clear d7 hb7 D6 B6 s0 s1 a0 a1 a2 a3 r10 r11 d0 d1 d2 d3
              go_wp2_with fail
              refine (gate_no _ _ _ _ _ (by first | exact .inl rfl | exact .inl (by assumption) | (right; omega))).mono ?_
              rintro e W8 ⟨rfl, hb8⟩
              have d8 := blk_kept D7.out hb8
              have B8 := Aside0.mk (B7.out.trans (hb8.mono B7.out.size))
              have D8 := Aside0.mk d8
              unfold devO at d8
              have z0 := blk_cell d8 0
              simp only [List.getElem?_toArray, List.getElem?_cons_zero, List.getElem?_cons_succ] at z0
              clear d8 hb8 D7 B7 x0 x1 x2 x3
              go_wp2_with fail
              go_roundw
              case rel => exact ⟨i + 1, 0, _, _, false, by omega, rfl, rfl, by go_num, D8, B8⟩
              case measure => simp [intOf]; omega
            · have hk' : (k == 0) = false := beq_eq_false_iff_ne.mpr hk
              have hk'' : (k != 0) = true := bne_iff_ne.mpr hk
              go_wp2_with fail
              refine (gate_yes _ _ _ _ (by first | assumption | omega)).mono ?_
              rintro e W7 ⟨rfl, hb7⟩
              have d7 := blk_kept D6.out hb7
              have B7 := Aside0.mk (B6.out.trans (hb7.mono B6.out.size))
              have D7 := Aside0.mk d7
              unfold devO at d7
              have x0 := blk_cell d7 0
              have x1 := blk_cell d7 1
              have x2 := blk_cell d7 2
              have x3 := blk_cell d7 3
              simp only [List.getElem?_toArray, List.getElem?_cons_zero, List.getElem?_cons_succ] at x0 x1 x2 x3
              clear d7 hb7 D6 B6 s0 s1 a0 a1 a2 a3 r10 r11 d0 d1 d2 d3
              go_wp2_with fail
              refine (gate_no _ _ _ _ _ (by first | exact .inl rfl | exact .inl (by assumption) | (right; omega))).mono ?_
              rintro e W8 ⟨rfl, hb8⟩
              have d8 := blk_kept D7.out hb8
              have B8 := Aside0.mk (B7.out.trans (hb8.mono B7.out.size))
              have D8 := Aside0.mk d8
              unfold devO at d8
              have z0 := blk_cell d8 0
              simp only [List.getElem?_toArray, List.getElem?_cons_zero, List.getElem?_cons_succ] at z0
              clear d8 hb8 D7 B7 x0 x1 x2 x3
              go_wp2_with fail
              go_roundw
              case rel => exact ⟨i + 1, k, _, _, false, by omega, rfl, rfl, by go_num, D8, B8⟩
              case measure => simp [intOf]; omega
        | key k t o p hn hm =>
          have hx : (t != 0) = false ∨ ((t != 0) = true ∧ (p == t) = false) := by
            by_cases h0 : t = 0
            · exact .inl (bne_eq_false_iff_eq.mpr h0)
            · exact .inr ⟨bne_iff_ne.mpr h0, beq_eq_false_iff_ne.mpr (hn.resolve_left h0)⟩
          rcases hx with hx | ⟨hx, hy⟩
          · by_cases hk : k = 0
            · subst hk
              go_wp2_with fail
              refine (gate_no _ _ _ _ _ (by first | exact .inl rfl | exact .inl (by assumption) | (right; omega))).mono ?_
              rintro e W7 ⟨rfl, hb7⟩
              have d7 := blk_kept D6.out hb7
              have B7 := Aside0.mk (B6.out.trans (hb7.mono B6.out.size))
              have D7 := Aside0.mk d7
              unfold devO at d7
              have x0 := blk_cell d7 0
              have x1 := blk_cell d7 1
              have x2 := blk_cell d7 2
              have x3 := blk_cell d7 3
              simp only [List.getElem?_toArray, List.getElem?_cons_zero, List.getElem?_cons_succ] at x0 x1 x2 x3
              clear d7 hb7 D6 B6 s0 s1 a0 a1 a2 a3 r10 r11 d0 d1 d2 d3
              go_wp2_with fail
              refine (gate_no _ _ _ _ _ (by first | exact .inl rfl | exact .inl (by assumption) | (right; omega))).mono ?_
              rintro e W8 ⟨rfl, hb8⟩
              have d8 := blk_kept D7.out hb8
              have B8 := Aside0.mk (B7.out.trans (hb8.mono B7.out.size))
              have D8 := Aside0.mk d8
              unfold devO at d8
              have z0 := blk_cell d8 0
              simp only [List.getElem?_toArray, List.getElem?_cons_zero, List.getElem?_cons_succ] at z0
              clear d8 hb8 D7 B7 x0 x1 x2 x3
              go_wp2_with fail
              go_roundw
              case rel => exact ⟨i + 1, 0, _, _, false, by omega, rfl, rfl, by go_num, D8, B8⟩
              case measure => simp [intOf]; omega
            · have hk' : (k == 0) = false := beq_eq_false_iff_ne.mpr hk
              have hk'' : (k != 0) = true := bne_iff_ne.mpr hk
              go_wp2_with fail
              refine (gate_yes _ _ _ _ (by first | assumption | omega)).mono ?_
              rintro e W7 ⟨rfl, hb7⟩
              have d7 := blk_kept D6.out hb7
              have B7 := Aside0.mk (B6.out.trans (hb7.mono B6.out.size))
              have D7 := Aside0.mk d7
              unfold devO at d7
              have x0 := blk_cell d7 0
              have x1 := blk_cell d7 1
              have x2 := blk_cell d7 2
              have x3 := blk_cell d7 3
              simp only [List.getElem?_toArray, List.getElem?_cons_zero, List.getElem?_cons_succ] at x0 x1 x2 x3
              clear d7 hb7 D6 B6 s0 s1 a0 a1 a2 a3 r10 r11 d0 d1 d2 d3
              go_wp2_with fail
              refine (gate_no _ _ _ _ _ (by first | exact .inl rfl | exact .inl (by assumption) | (right; omega))).mono ?_
              rintro e W8 ⟨rfl, hb8⟩
              have d8 := blk_kept D7.out hb8
              have B8 := Aside0.mk (B7.out.trans (hb8.mono B7.out.size))
              have D8 := Aside0.mk d8
              unfold devO at d8
              have z0 := blk_cell d8 0
              simp only [List.getElem?_toArray, List.getElem?_cons_zero, List.getElem?_cons_succ] at z0
              clear d8 hb8 D7 B7 x0 x1 x2 x3
              go_wp2_with fail
              go_roundw
              case rel => exact ⟨i + 1, k, _, _, false, by omega, rfl, rfl, by go_num, D8, B8⟩
              case measure => simp [intOf]; omega
          · by_cases hk : k = 0
            · subst hk
              go_wp2_with fail
              refine (gate_no _ _ _ _ _ (by first | exact .inl rfl | exact .inl (by assumption) | (right; omega))).mono ?_
              rintro e W7 ⟨rfl, hb7⟩
              have d7 := blk_kept D6.out hb7
              have B7 := Aside0.mk (B6.out.trans (hb7.mono B6.out.size))
              have D7 := Aside0.mk d7
              unfold devO at d7
              have x0 := blk_cell d7 0
              have x1 := blk_cell d7 1
              have x2 := blk_cell d7 2
              have x3 := blk_cell d7 3
              simp only [List.getElem?_toArray, List.getElem?_cons_zero, List.getElem?_cons_succ] at x0 x1 x2 x3
              clear d7 hb7 D6 B6 s0 s1 a0 a1 a2 a3 r10 r11 d0 d1 d2 d3
              go_wp2_with fail
              refine (gate_no _ _ _ _ _ (by first | exact .inl rfl | exact .inl (by assumption) | (right; omega))).mono ?_
              rintro e W8 ⟨rfl, hb8⟩
              have d8 := blk_kept D7.out hb8
              have B8 := Aside0.mk (B7.out.trans (hb8.mono B7.out.size))
              have D8 := Aside0.mk d8
              unfold devO at d8
              have z0 := blk_cell d8 0
              simp only [List.getElem?_toArray, List.getElem?_cons_zero, List.getElem?_cons_succ] at z0
              clear d8 hb8 D7 B7 x0 x1 x2 x3
              go_wp2_with fail
              go_roundw
              case rel => exact ⟨i + 1, 0, _, _, false, by omega, rfl, rfl, by go_num, D8, B8⟩
              case measure => simp [intOf]; omega
            · have hk' : (k == 0) = false := beq_eq_false_iff_ne.mpr hk
              have hk'' : (k != 0) = true := bne_iff_ne.mpr hk
              go_wp2_with fail
              refine (gate_yes _ _ _ _ (by first | assumption | omega)).mono ?_
              rintro e W7 ⟨rfl, hb7⟩
              have d7 := blk_kept D6.out hb7
              have B7 := Aside0.mk (B6.out.trans (hb7.mono B6.out.size))
              have D7 := Aside0.mk d7
              unfold devO at d7
              have x0 := blk_cell d7 0
              have x1 := blk_cell d7 1
              have x2 := blk_cell d7 2
              have x3 := blk_cell d7 3
              simp only [List.getElem?_toArray, List.getElem?_cons_zero, List.getElem?_cons_succ] at x0 x1 x2 x3
              clear d7 hb7 D6 B6 s0 s1 a0 a1 a2 a3 r10 r11 d0 d1 d2 d3
              go_wp2_with fail
              refine (gate_no _ _ _ _ _ (by first | exact .inl rfl | exact .inl (by assumption) | (right; omega))).mono ?_
              rintro e W8 ⟨rfl, hb8⟩
              have d8 := blk_kept D7.out hb8
              have B8 := Aside0.mk (B7.out.trans (hb8.mono B7.out.size))
              have D8 := Aside0.mk d8
              unfold devO at d8
              have z0 := blk_cell d8 0
              simp only [List.getElem?_toArray, List.getElem?_cons_zero, List.getElem?_cons_succ] at z0
              clear d8 hb8 D7 B7 x0 x1 x2 x3
              go_wp2_with fail
              go_roundw
              case rel => exact ⟨i + 1, k, _, _, false, by omega, rfl, rfl, by go_num, D8, B8⟩
              case measure => simp [intOf]; omega
        | other k t o ph p h1 h2 =>
          have h2' : (ph == 2) = false := beq_eq_false_iff_ne.mpr h2
          by_cases hk : k = 0
          · subst hk
            go_wp2_with fail
            refine (gate_no _ _ _ _ _ (by first | exact .inl rfl | exact .inl (by assumption) | (right; omega))).mono ?_
            rintro e W7 ⟨rfl, hb7⟩
            have d7 := blk_kept D6.out hb7
            have B7 := Aside0.mk (B6.out.trans (hb7.mono B6.out.size))
            have D7 := Aside0.mk d7
            unfold devO at d7
            have x0 := blk_cell d7 0
            have x1 := blk_cell d7 1
            have x2 := blk_cell d7 2
            have x3 := blk_cell d7 3
            simp only [List.getElem?_toArray, List.getElem?_cons_zero, List.getElem?_cons_succ] at x0 x1 x2 x3
            clear d7 hb7 D6 B6 s0 s1 a0 a1 a2 a3 r10 r11 d0 d1 d2 d3
            go_wp2_with fail
            refine (gate_no _ _ _ _ _ (by first | exact .inl rfl | exact .inl (by assumption) | (right; omega))).mono ?_
            rintro e W8 ⟨rfl, hb8⟩
            have d8 := blk_kept D7.out hb8
            have B8 := Aside0.mk (B7.out.trans (hb8.mono B7.out.size))
            have D8 := Aside0.mk d8
            unfold devO at d8
            have z0 := blk_cell d8 0
            simp only [List.getElem?_toArray, List.getElem?_cons_zero, List.getElem?_cons_succ] at z0
            clear d8 hb8 D7 B7 x0 x1 x2 x3
            go_wp2_with fail
            go_roundw
            case rel => exact ⟨i + 1, 0, _, _, false, by omega, rfl, rfl, by go_num, D8, B8⟩
            case measure => simp [intOf]; omega
          · have hk' : (k == 0) = false := beq_eq_false_iff_ne.mpr hk
            have hk'' : (k != 0) = true := bne_iff_ne.mpr hk
            go_wp2_with fail
            refine (gate_yes _ _ _ _ (by first | assumption | omega)).mono ?_
            rintro e W7 ⟨rfl, hb7⟩
            have d7 := blk_kept D6.out hb7
            have B7 := Aside0.mk (B6.out.trans (hb7.mono B6.out.size))
            have D7 := Aside0.mk d7
            unfold devO at d7
            have x0 := blk_cell d7 0
            have x1 := blk_cell d7 1
            have x2 := blk_cell d7 2
            have x3 := blk_cell d7 3
            simp only [List.getElem?_toArray, List.getElem?_cons_zero, List.getElem?_cons_succ] at x0 x1 x2 x3
            clear d7 hb7 D6 B6 s0 s1 a0 a1 a2 a3 r10 r11 d0 d1 d2 d3
            go_wp2_with fail
            refine (gate_no _ _ _ _ _ (by first | exact .inl rfl | exact .inl (by assumption) | (right; omega))).mono ?_
            rintro e W8 ⟨rfl, hb8⟩
            have d8 := blk_kept D7.out hb8
            have B8 := Aside0.mk (B7.out.trans (hb8.mono B7.out.size))
            have D8 := Aside0.mk d8
            unfold devO at d8
            have z0 := blk_cell d8 0
            simp only [List.getElem?_toArray, List.getElem?_cons_zero, List.getElem?_cons_succ] at z0
            clear d8 hb8 D7 B7 x0 x1 x2 x3
            go_wp2_with fail
            go_roundw
            case rel => exact ⟨i + 1, k, _, _, false, by omega, rfl, rfl, by go_num, D8, B8⟩
            case measure => simp [intOf]; omega
    · have hend : ¬ ((i : Int) < (n : Int)) ∨ ((i : Int) < (n : Int) ∧ ¬ ((i : Int) < 60)) := by omega
      clear hlt
      have B9 := HB
      clear HB HD
      rcases hend with q1 | ⟨q1, q2⟩
      all_goals (
        go_wp2_with fail
        refine (lives_calls _).mono ?_
        rintro e W7 ⟨rfl, hb⟩
        have B := Aside0.mk (B9.out.trans (hb.mono B9.out.size))
        clear hb B9
        go_wp2_with fail
        go_ret
        exact ⟨rfl, B.out⟩)
end Go.Proofs.Ytpanefmemabckaa.PolicyWiped
