/- gen.put lays a number's bytes behind a row of the caller's own. -/
import Derived.Test.YtpanefmemabckaaNumPure
import Derived.Lib.Hide
import Derived.Deep.DeepCutAuto
import Derived.Deep.RegionHeld3
import Derived.Maps.Own
import Derived.Maps.OwnOps
import Derived.Test.YtpanefmemabckaaWide
namespace Go.Proofs.Ytpanefmemabckaa.GenPut
open Go.RowKit Go.Proofs.Ytpanefmemabckaa.NumA Go.Proofs.Ytpanefmemabckaa.NumMath Go.Proofs.Ytpanefmemabckaa.Bytes Go.Proofs.YtpanefmemabckaaW.PrintWords Go.Proofs.YtpanefmemabckaaW.PrintLast
set_option linter.unusedSimpArgs false

/-- all blocks but one are as they were -/
def Keeps (r : Option Nat) (w w' : World) : Prop := ∀ b o, some b ≠ r → w.heap[b]? = some o → w'.heap[b]? = some o
theorem Keeps.of_below {r : Option Nat} {w w' : World} (h : Below w.heap.size w w') : Keeps r w w' := fun b _ _ ho => (h.block b (blk_lt ho)).trans ho
theorem Keeps.of_grown {r : Option Nat} {w w' : World} (h : w.grownBy w' r) : Keeps r w w' := fun b _ hb ho => by
  obtain ⟨_, _, _, _, hk⟩ := h
  exact (hk b (blk_lt ho) hb).trans ho
/-- a row v became the row v1: no block but v's own was written; v1's own block is v's, or a new one -/
structure Grow (v v1 : Value) (w w' : World) : Prop where
  keeps : Keeps v.ownBlock w w'
  own : v1.ownBlock = v.ownBlock ∨ ∃ b, v1.ownBlock = some b ∧ w.heap.size ≤ b
  size : w.heap.size ≤ w'.heap.size
theorem Grow.below {v : Value} {w w' : World} (h : Below w.heap.size w w') : Grow v v w w' := ⟨Keeps.of_below h, .inl rfl, h.size⟩
theorem Grow.grown {v v1 : Value} {w w' : World} (h : w.grownBy w' v.ownBlock) (ho : v1.ownBlock = v.ownBlock ∨ ∃ b, v1.ownBlock = some b ∧ w.heap.size ≤ b) : Grow v v1 w w' := ⟨Keeps.of_grown h, ho, h.size⟩
theorem Grow.trans {v v1 v2 : Value} {w w1 w2 : World} (h : Grow v v1 w w1) (h' : Grow v1 v2 w1 w2) : Grow v v2 w w2 := by
  refine ⟨fun b o hb ho => ?_, ?_, Nat.le_trans h.size h'.size⟩
  · refine h'.keeps b o ?_ (h.keeps b o hb ho)
    rcases h.own with e | ⟨c, e, hc⟩
    · rw [e]; exact hb
    · rw [e]
      intro e'
      have := Option.some.inj e'
      have := blk_lt ho
      omega
  · rcases h'.own with e | ⟨c, e, hc⟩
    · rw [e]; exact h.own
    · exact .inr ⟨c, e, Nat.le_trans h.size hc⟩
/-- a block that is not v's own is not v1's, either -/
theorem Grow.ne {v v1 : Value} {w w' : World} (h : Grow v v1 w w') {p : Nat} {o : Obj} (hp : w.heap[p]? = some o) (hn : some p ≠ v.ownBlock) : some p ≠ v1.ownBlock := by
  rcases h.own with e | ⟨c, e, hc⟩
  · rw [e]; exact hn
  · rw [e]
    intro e'
    have := Option.some.inj e'
    have := blk_lt hp
    omega
theorem Grow.blk {v v1 : Value} {w w' : World} (h : Grow v v1 w w') {p : Nat} {o : Obj} (hp : w.heap[p]? = some o) (hn : some p ≠ v.ownBlock) : w'.heap[p]? = some o := h.keeps p o hn hp

set_option maxRecDepth 100000 in
set_option maxHeartbeats 4000000 in
theorem put_calls (base : Nat) (v : Value) (l : List Nat) (n : Nat) (s : Int) (w : World) (ho : Kd.R (Kd.int .u8) 5 w base (fun _ => True) v (ofN l)) (hb : base ≤ w.heap.size) (hl : l.length ≤ 140737488351232) :
    Calls Try.prog 84 #[v, .int .u64 n, .int .i64 s] w fun e w' => ∃ v1, e = .returned v1 ∧ Kd.R (Kd.int .u8) 5 w' base (fun _ => True) v1 (ofN (l ++ (putP n s).1)) ∧ Below base w w' ∧ Grow v v1 w w' := by
  have hp := NumPure.put_f 9 n s (by omega)
  have hlen : (putP n s).1.length ≤ 8 := by
    unfold putP
    split
    · next h => rw [le_length]; obtain ⟨s', rfl, h'⟩ := isSize_nat h.1; omega
    · simp
  obtain ⟨A, c, rfl⟩ := Kd.R_slice ho
  generalize (putP n s).1 = m at *
  generalize (putP n s).2 = er at *
  have HO := Aside0.mk ho
  have HB := Aside0.mk hb
  have HP := Aside0.mk hp
  have HL := Aside0.mk hl
  have HM := Aside0.mk hlen
  clear ho hb hp hl hlen
  go_enter Try.func84, Try.ntmps84
  go_wp2_with fail
  refine (num_Put.calls 9 _ _ _ _ _ HP.out).mono ?_
  rintro e w1 ⟨vx, rfl, hx, hb1⟩
  obtain ⟨Ax, cx, rfl⟩ := Kd.R_slice hx
  have X1 := Aside0.mk hx
  have O1 := Aside0.mk (Kd.R_below HO.out hb1)
  have B1 := Aside0.mk (hb1.mono HB.out)
  have K1 := Aside0.mk (Grow.below (v := .slice A (ofN l).length c) hb1)
  clear hx hb1 HO
  go_wp2_with (first | ((with_reducible refine gate_builtin (b := .append) (xs := #[.tmp 15, .tmp 16]) rfl ?_); at_builtin; refine Kd.R_append_rows (Kd.int .u8) (w0 := w) base rfl (.tmp 15) (.tmp 16) 42 5 (.int .u8 0) 1 rfl Try.underlying42 info5 rfl (by decide) (by omega) (.slice A (ofN l).length c) (ofN l) (ofN m) _ _ _ (fun _ => True) (fun _ => False) rfl rfl ?aO ?aR (fun _ _ h => h) (fun _ h => h.elim) (fun _ _ => trivial) ?aB ?aS ?aL ?_; (case aR => exact (Kd.R_reads' X1.out).2.2); (case aB => exact B1.out); (case aO => exact O1.out); (case aS => exact Nat.le_trans HB.out B1.out.size); (case aL => (rw [ofN_length, ofN_length]; have := HL.out; have := HM.out; omega)); intro v9 w9 ho9 hb9 hg9 hat9; have O9 := Aside0.mk ho9; have B9 := Aside0.mk hb9; have K9 := Aside0.mk (K1.out.trans (Grow.grown hg9 hat9)); clear ho9 hb9 hg9 hat9))
  go_ret
  exact ⟨_, rfl, by rw [ofN_append]; exact O9.out, B9.out, K9.out⟩
end Go.Proofs.Ytpanefmemabckaa.GenPut
namespace Go.Proofs.Ytpanefmemabckaa.GenZero
open Go.Maps Go.RowKit Go.Proofs.Ytpanefmemabckaa.NumA Go.Proofs.Ytpanefmemabckaa.NumMath Go.Proofs.Ytpanefmemabckaa.Bytes Go.Proofs.Ytpanefmemabckaa.GenPut Go.Proofs.YtpanefmemabckaaW.PrintWords Go.Proofs.YtpanefmemabckaaW.PrintLast
set_option linter.unusedSimpArgs false

theorem heap_new (w : World) (o : Obj) : (w.alloc o).heap[w.heap.size]? = some o := by
  show (w.heap.push o)[w.heap.size]? = _
  simp
theorem blk_kept {W W1 : World} {b : Nat} {o : Obj} (h : W.heap[b]? = some o) (hb : Below W.heap.size W W1) : W1.heap[b]? = some o := (hb.block b (blk_lt h)).trans h
theorem blk_alloc {W : World} {b : Nat} {o : Obj} (h : W.heap[b]? = some o) (o' : Obj) : (W.alloc o').heap[b]? = some o := (Below.heap_alloc W o' b (blk_lt h)).trans h

theorem blk_drew1 {W : World} {b : Nat} {o : Obj} (h : W.heap[b]? = some o) : W.drew.heap[b]? = some o := h
theorem held2 {W : World} {p : Nat} (h : W.heap[p]? = some (.cells #[.int .u32 0, .slice none 0 0, .slice none 0 0] 56)) : W.cell? ⟨p, 0, none⟩ = some (.int .u32 0) ∧ W.cell? ⟨p, 1, none⟩ = some (.slice none 0 0) :=
  ⟨blk_cell h 0, blk_cell h 1⟩
/-- a block that holds the Half that is all zero -/
abbrev Hz : Obj := .cells #[.int .u32 0, .slice none 0 0, .slice none 0 0] 56
/-- a block that holds the Gen that is all zero -/
abbrev Z : Obj := .cells #[.int .u32 0, .slice none 0 0, .slice none 0 0, .int .u32 0, .slice none 0 0, .slice none 0 0, .slice none 0 0, .slice none 0 0, .bool false, .int .u8 0, .int .u8 0] 58

set_option maxRecDepth 100000 in
set_option maxHeartbeats 4000000 in
theorem rising_zero (w : World) : Calls Try.prog 88 #[.slice none 0 0] w fun e w' => e = .returned (.bool true) ∧ Below w.heap.size w w' := by
  go_enter Try.func88, Try.ntmps88
  go_wp2_with fail
  go_loopw [8] (fun v8 wr => v8 = .int .i64 0 ∧ wr = w) (fun _ _ => 0)
  case atStart => exact ⟨rfl, rfl⟩
  case round =>
    obtain ⟨rfl, rfl⟩ := hrel
    go_wp2_with fail
    go_ret
    exact ⟨rfl, Below.refl _ _⟩

set_option maxRecDepth 100000 in
set_option maxHeartbeats 4000000 in
theorem half_zero (w : World) : Calls Try.prog 73 #[.agg #[.int .u32 0, .slice none 0 0, .slice none 0 0]] w fun e w' => e = .returned (.bool true) ∧ Below w.heap.size w w' := by
  have hmm := @run_makeMap Try.prog
  go_enter Try.func73, Try.ntmps73
  go_wp2_with fail
  have hp := heap_new w (.cells #[.int .u32 0, .slice none 0 0, .slice none 0 0] 56)
  have hB : Below w.heap.size w (w.alloc (.cells #[.int .u32 0, .slice none 0 0, .slice none 0 0] 56)) := (Below.refl _ _).alloc (Nat.le_refl _) _
  obtain ⟨p, hpp⟩ : ∃ p, p = w.heap.size := ⟨_, rfl⟩
  change Calls _ _ _ (w.alloc (.cells #[.int .u32 0, .slice none 0 0, .slice none 0 0] 56)) _
  generalize w.alloc _ = W0 at hp hB ⊢
  rw [← hpp] at hp ⊢
  have HP := Aside0.mk hp
  have HB := Aside0.mk hB
  have HPP := Aside0.mk hpp
  clear hp hB hpp
  refine (rising_zero _).mono ?_
  rintro e w1 ⟨rfl, hb1⟩
  have p1 := blk_kept HP.out hb1
  have B1 := Aside0.mk (below_then HB.out HB.out.size hb1)
  have c0 := blk_cell p1 0
  have c1 := blk_cell p1 1
  have c2 := blk_cell p1 2
  simp only [List.getElem?_toArray, List.getElem?_cons_zero, List.getElem?_cons_succ] at c0 c1 c2
  have P1 := Aside0.mk p1
  clear hb1 HP HB p1
  have HM := Aside0.mk (World.ownsMap_made (H := Unit) w1 Try.prog 22 (plainElem Try.prog 3))
  have BM := Aside0.mk (B1.out.alloc B1.out.size (.map #[] 0))
  have PM := Aside0.mk (blk_alloc P1.out (.map #[] 0))
  obtain ⟨w2, hrun, ho2, hg2⟩ := HM.out.update (val := .int .i64 1) (int_keyed Try.underlying22) Try.underlying118 (by unfold maxLen; omega) (keyOf_int_mk Try.underlying22 (a := 0) (by decide)) (plainElem_int Try.underlying3 (by decide))
  have B2 := Aside0.mk (BM.out.grown hg2 BM.out.size (fun j hj => by cases hj; exact B1.out.size))
  have hp2 : w2.heap[p]? = some (.cells #[.int .u32 0, .slice none 0 0, .slice none 0 0] 56) := by
    have hlt := blk_lt P1.out
    obtain ⟨_, _, _, _, hk⟩ := hg2
    exact (hk p (by simp; omega) (fun e => by have := Option.some.inj e; omega)).trans PM.out
  have d2 := blk_cell hp2 2
  simp only [List.getElem?_toArray, List.getElem?_cons_zero, List.getElem?_cons_succ] at d2
  clear HM BM PM ho2 hg2 hp2
  go_wp2_with fail
  clear hrun c0 c1 c2 d2 hmm
  go_loopw [36] (fun v8 wr => v8 = .int .i64 0 ∧ wr = w2) (fun _ _ => 0)
  case atStart => exact ⟨rfl, rfl⟩
  case round =>
    obtain ⟨rfl, rfl⟩ := hrel
    go_wp2_with fail
    go_ret
    exact ⟨rfl, B2.out⟩

set_option maxRecDepth 100000 in
set_option maxHeartbeats 4000000 in
theorem may_zero (w : World) : Calls Try.prog 39 #[.agg #[.int .u32 0, .slice none 0 0, .slice none 0 0, .int .u32 0, .slice none 0 0, .slice none 0 0, .slice none 0 0, .slice none 0 0, .bool false, .int .u8 0, .int .u8 0]] w fun e w' => e = .returned (.bool true) ∧ Below w.heap.size w w' := by
  go_enter Try.func39, Try.ntmps39
  go_wp2_with fail
  have hp := heap_new w Z
  have hB : Below w.heap.size w (w.alloc Z) := (Below.refl _ _).alloc (Nat.le_refl _) _
  obtain ⟨p, hpp⟩ : ∃ p, p = w.heap.size := ⟨_, rfl⟩
  change Calls _ _ _ (w.alloc Z) _
  generalize w.alloc Z = W0 at hp hB ⊢
  rw [← hpp] at hp ⊢
  have HP := Aside0.mk hp
  have HB := Aside0.mk hB
  clear hp hB hpp
  refine (half_zero _).mono ?_
  rintro e w1 ⟨rfl, hb1⟩
  have p1 := blk_kept HP.out hb1
  have B1 := Aside0.mk (below_then HB.out HB.out.size hb1)
  have c0 := blk_cell p1 3
  have c1 := blk_cell p1 4
  have c2 := blk_cell p1 5
  simp only [Z, List.getElem?_toArray, List.getElem?_cons_zero, List.getElem?_cons_succ] at c0 c1 c2
  have P1 := Aside0.mk p1
  clear hb1 HP HB p1
  go_wp2_with fail
  refine (half_zero _).mono ?_
  rintro e w2 ⟨rfl, hb2⟩
  have p2 := blk_kept P1.out hb2
  have B2 := Aside0.mk (below_then B1.out B1.out.size hb2)
  clear hb2 P1 B1 c0 c1 c2
  have c0 := blk_cell p2 0
  have c3 := blk_cell p2 3
  have c6 := blk_cell p2 6
  have c7 := blk_cell p2 7
  have c8 := blk_cell p2 8
  have c9 := blk_cell p2 9
  have c10 := blk_cell p2 10
  simp only [Z, List.getElem?_toArray, List.getElem?_cons_zero, List.getElem?_cons_succ] at c0 c3 c6 c7 c8 c9 c10
  clear p2
  go_wp2_with fail
  go_ret
  exact ⟨rfl, B2.out⟩

theorem put_zero (base : Nat) (v : Value) (l : List Nat) (z : Int) (w : World) (hz : z = 0) (ho : Kd.R (Kd.int .u8) 5 w base (fun _ => True) v (ofN l)) (hb : base ≤ w.heap.size) (hl : l.length ≤ 2000) :
    Calls Try.prog 84 #[v, .int .u64 z, .int .i64 4] w fun e w' => ∃ v1, e = .returned v1 ∧ Kd.R (Kd.int .u8) 5 w' base (fun _ => True) v1 (ofN (l ++ List.replicate 4 0)) ∧ Below base w w' ∧ Grow v v1 w w' := by
  have h := put_calls base v l 0 4 w ho hb (by omega)
  have e : (putP 0 4).1 = List.replicate 4 0 := by decide
  rw [e] at h
  subst hz
  exact h
end Go.Proofs.Ytpanefmemabckaa.GenZero
namespace Go.Proofs.Ytpanefmemabckaa.GenZeroB
open Go.Maps Go.RowKit Go.Proofs.Ytpanefmemabckaa.NumA Go.Proofs.Ytpanefmemabckaa.NumMath Go.Proofs.Ytpanefmemabckaa.Bytes Go.Proofs.Ytpanefmemabckaa.GenPut Go.Proofs.Ytpanefmemabckaa.GenZero Go.Proofs.YtpanefmemabckaaW.PrintWords Go.Proofs.YtpanefmemabckaaW.PrintLast
set_option linter.unusedSimpArgs false

set_option maxRecDepth 100000 in
set_option maxHeartbeats 4000000 in
theorem putHalf_zero (base : Nat) (v : Value) (l : List Nat) (w : World) (ho : Kd.R (Kd.int .u8) 5 w base (fun _ => True) v (ofN l)) (hb : base ≤ w.heap.size) (hl : l.length ≤ 1000) :
    Calls Try.prog 65 #[v, .agg #[.int .u32 0, .slice none 0 0, .slice none 0 0]] w fun e w' => ∃ v1, e = .returned v1 ∧ Kd.R (Kd.int .u8) 5 w' base (fun _ => True) v1 (ofN (l ++ List.replicate 12 0)) ∧ Below base w w' ∧ Grow v v1 w w' := by
  have HL := Aside0.mk hl
  have hp := heap_new w Hz
  have hB : Below base w (w.alloc Hz) := (Below.refl _ _).alloc hb _
  have hG := Grow.below (v := v) ((Below.refl w.heap.size w).alloc (Nat.le_refl _) Hz)
  have hoa := Kd.R_alloc ho Hz
  have hne : some w.heap.size ≠ v.ownBlock := fun e => by have := Kd.R_lt ho _ e.symm; omega
  obtain ⟨p, hpp⟩ : ∃ p, p = w.heap.size := ⟨_, rfl⟩
  have hs : base ≤ (w.alloc Hz).heap.size := Nat.le_trans hb (by simp)
  obtain ⟨W0, hW0⟩ : ∃ W0, W0 = w.alloc Hz := ⟨_, rfl⟩
  rw [← hW0] at hp hB hoa hs hG
  rw [← hpp] at hp hne
  have EW := Aside0.mk hW0
  have EP := Aside0.mk hpp
  have P0 := Aside0.mk (blk_drew1 hp)
  have B0 := Aside0.mk (below_drew1 hB)
  have O0 := Aside0.mk (Kd.R_drew hoa)
  have S0 := Aside0.mk (show base ≤ W0.drew.heap.size from hs)
  have G0 := Aside0.mk (show Grow v v w W0.drew from ⟨hG.keeps, hG.own, hG.size⟩)
  have N0 := Aside0.mk hne
  obtain ⟨c0, c1⟩ := held2 hp
  clear hp hB hpp hoa hs hne hG hW0 ho hb hl
  have e1 : IntKind.u64.wrap 0 = 0 := rfl
  have HL4 := Aside0.mk (show l.length ≤ 2000 from by have := HL.out; omega)
  have HL8 := Aside0.mk (show (l ++ List.replicate 4 0).length ≤ 2000 from by have := HL.out; simp; omega)
  go_enter Try.func65, Try.ntmps65
  go_wp2_with fail
  change Code.wp _ _ _ _ (w.alloc Hz)
  rw [← EW.out, ← EP.out]
  go_region_held3 (fun w' => w'.cell? ⟨p, 0, none⟩ = some (.int .u32 0) ∧ w'.cell? ⟨p, 1, none⟩ = some (.slice none 0 0))
    (first
      | exact ⟨c0, c1⟩
      | exact held2 P0.out
      | exact held2 (hg1.blk P0.out N0.out)
      | exact held2 (hg2.blk (hg1.blk P0.out N0.out) (hg1.ne P0.out N0.out)))
    (first
    | (go_at_call 84; (with_reducible refine (put_zero base v l _ _ (by first | exact e1 | rfl) O0.out S0.out HL4.out).mono ?_); rintro e w1 ⟨v1, rfl, ho1, hb1, hg1⟩)
    | (go_at_call 84; (with_reducible refine (put_zero base v1 (l ++ List.replicate 4 0) _ _ (by first | exact e1 | rfl) ho1 (Nat.le_trans S0.out hb1.size) HL8.out).mono ?_); rintro e w2 ⟨v2, rfl, ho2, hb2, hg2⟩))
  have P2 := Aside0.mk (hg2.blk (hg1.blk P0.out N0.out) (hg1.ne P0.out N0.out))
  have N2 := Aside0.mk (hg2.ne (hg1.blk P0.out N0.out) (hg1.ne P0.out N0.out))
  have B2 := Aside0.mk ((B0.out.trans hb1).trans hb2)
  have O2 := Aside0.mk ho2
  have G2 := Aside0.mk ((G0.out.trans hg1).trans hg2)
  have S2 := Aside0.mk (Nat.le_trans (Nat.le_trans S0.out hb1.size) hb2.size)
  have HL12 := Aside0.mk (show (l ++ List.replicate 4 0 ++ List.replicate 4 0).length ≤ 2000 from by have := HL.out; simp; omega)
  clear ho1 ho2 hb1 hb2 hg1 hg2 c0 c1 P0 B0 O0 S0 G0 N0 HL4 HL8
  obtain ⟨c0, c1⟩ := held2 P2.out
  have c2 := blk_cell P2.out 2
  simp only [List.getElem?_toArray, List.getElem?_cons_zero, List.getElem?_cons_succ] at c2
  go_wp2_with fail
  go_loopw [0, 22] (fun v0 v8 wr => v0 = v2 ∧ v8 = .int .i64 0 ∧ wr = w2) (fun _ _ _ => 0)
  case atStart => exact ⟨rfl, rfl, rfl⟩
  case round =>
    obtain ⟨rfl, rfl, rfl⟩ := hrel
    go_wp2_with fail
    with_reducible refine (put_zero base u0 _ _ wr (by first | rfl | exact e1) O2.out S2.out HL12.out).mono ?_
    rintro e w3 ⟨v3, rfl, ho3, hb3, hg3⟩
    have P3 := Aside0.mk (hg3.blk P2.out N2.out)
    have B3 := Aside0.mk (B2.out.trans hb3)
    have O3 := Aside0.mk ho3
    have G3 := Aside0.mk (G2.out.trans hg3)
    clear ho3 hb3 hg3 P2 B2 O2 S2 N2 G2 HL12 c0 c1 c2
    have c2 := blk_cell P3.out 2
    simp only [List.getElem?_toArray, List.getElem?_cons_zero, List.getElem?_cons_succ] at c2
    go_wp2_with fail
    clear c2
    go_loopw [0, 44] (fun v0 v8 wr => v0 = v3 ∧ v8 = .int .i64 0 ∧ wr = w3) (fun _ _ _ => 0)
    case atStart => exact ⟨rfl, rfl, rfl⟩
    case round =>
      obtain ⟨rfl, rfl, rfl⟩ := hrel
      go_wp2_with fail
      go_ret
      have e12 : l ++ List.replicate 4 0 ++ List.replicate 4 0 ++ List.replicate 4 0 = l ++ List.replicate 12 0 := by rw [List.append_assoc, List.append_assoc]; rfl
      exact ⟨_, rfl, e12 ▸ O3.out, B3.out, G3.out⟩
end Go.Proofs.Ytpanefmemabckaa.GenZeroB
namespace Go.Proofs.Ytpanefmemabckaa.GenZeroC
open Go.Proofs.Ytpanefmemabckaa.Wide (C_block)
open Go.RowKit Go.Proofs.Ytpanefmemabckaa.NumA Go.Proofs.Ytpanefmemabckaa.NumMath Go.Proofs.Ytpanefmemabckaa.Bytes Go.Proofs.Ytpanefmemabckaa.GenPut Go.Proofs.Ytpanefmemabckaa.GenZero Go.Proofs.Ytpanefmemabckaa.GenZeroB Go.Proofs.YtpanefmemabckaaW.PrintWords Go.Proofs.YtpanefmemabckaaW.PrintLast
set_option linter.unusedSimpArgs false

/-- what a block with the zero Gen holds -/
theorem heldZ {W : World} {p : Nat} (h : W.heap[p]? = some Z) : W.cell? ⟨p, 0, none⟩ = some (.int .u32 0) ∧ W.cell? ⟨p, 1, none⟩ = some (.slice none 0 0) ∧ W.cell? ⟨p, 2, none⟩ = some (.slice none 0 0) ∧
    W.cell? ⟨p, 3, none⟩ = some (.int .u32 0) ∧ W.cell? ⟨p, 4, none⟩ = some (.slice none 0 0) ∧ W.cell? ⟨p, 5, none⟩ = some (.slice none 0 0) ∧ W.cell? ⟨p, 6, none⟩ = some (.slice none 0 0) ∧
    W.cell? ⟨p, 7, none⟩ = some (.slice none 0 0) ∧ W.cell? ⟨p, 8, none⟩ = some (.bool false) ∧ W.cell? ⟨p, 9, none⟩ = some (.int .u8 0) ∧ W.cell? ⟨p, 10, none⟩ = some (.int .u8 0) :=
  ⟨blk_cell h 0, blk_cell h 1, blk_cell h 2, blk_cell h 3, blk_cell h 4, blk_cell h 5, blk_cell h 6, blk_cell h 7, blk_cell h 8, blk_cell h 9, blk_cell h 10⟩
theorem cut6 {a b c d e f g : Prop} (h : a ∧ b ∧ c ∧ d ∧ e ∧ f ∧ g) : a ∧ b ∧ c ∧ d ∧ e ∧ f := ⟨h.1, h.2.1, h.2.2.1, h.2.2.2.1, h.2.2.2.2.1, h.2.2.2.2.2.1⟩
/-- the row of no bytes -/
theorem row_nil (w : World) : Calls Try.prog 53 #[.slice none 0 0] w fun e w' => ∃ v, e = .returned v ∧ Kd.R (Kd.int .u8) 5 w' w.heap.size (fun _ => True) v (ofN (List.replicate 4 0)) ∧ Below w.heap.size w w' := by
  have h := num_Row.calls 9 none 0 [] _ w (Kd.C_nil _ _) (Nat.le_refl _) (NumPure.row_f [] (by decide) 9 (by omega))
  have e : rowP [] = List.replicate 4 0 := by decide
  rw [e] at h
  exact h

set_option maxRecDepth 100000 in
set_option maxHeartbeats 4000000 in
theorem bytes_zero (w : World) : Calls Try.prog 35 #[.agg #[.int .u32 0, .slice none 0 0, .slice none 0 0, .int .u32 0, .slice none 0 0, .slice none 0 0, .slice none 0 0, .slice none 0 0, .bool false, .int .u8 0, .int .u8 0]] w fun e w' =>
    ∃ A c, e = .returned (.tuple #[.slice A 35 c, .int .i64 0]) ∧ Below w.heap.size w w' := by
  have hp := heap_new w Z
  have hB : Below w.heap.size w (w.alloc Z) := (Below.refl _ _).alloc (Nat.le_refl _) _
  obtain ⟨p, hpp⟩ : ∃ p, p = w.heap.size := ⟨_, rfl⟩
  obtain ⟨W0, hW0⟩ : ∃ W0, W0 = w.alloc Z := ⟨_, rfl⟩
  rw [← hW0] at hp hB
  rw [← hpp] at hp
  have EW := Aside0.mk hW0
  have EP := Aside0.mk hpp
  have P0 := Aside0.mk hp
  have B0 := Aside0.mk hB
  obtain ⟨c0, c1, c2, c3, c4, c5, c6, c7, c8, c9, c10⟩ := heldZ hp
  clear hp hB hpp hW0
  go_enter Try.func35, Try.ntmps35
  go_upto_region 1 with fail
  change Code.wp _ _ _ _ (w.alloc Z)
  rw [← EW.out, ← EP.out]
  go_wp2_with fail
  refine (may_zero _).mono ?_
  rintro e w1 ⟨rfl, hb1⟩
  have P1 := Aside0.mk (blk_drew1 (blk_kept P0.out hb1))
  have B1 := Aside0.mk (below_drew1 (below_then B0.out B0.out.size hb1))
  clear hb1 P0 B0 c0 c1 c2 c3 c4 c5 c6 c7 c8 c9 c10
  go_upto_region 3 with fail
  obtain ⟨c0, c1, c2, c3, c4, c5, c6, c7, c8, c9, c10⟩ := heldZ (show w1.heap[p]? = some Z from P1.out)
  have NN := Aside0.mk (show some p ≠ (Value.slice none 0 0).ownBlock from fun h => by simp [Value.ownBlock] at h)
  have O1 := Aside0.mk (Kd.R_nil (Kd.int .u8) 5 w1.drew w.heap.size (fun _ => True))
  go_region_held3 (fun w' => w'.cell? ⟨p, 0, none⟩ = some (.int .u32 0) ∧ w'.cell? ⟨p, 1, none⟩ = some (.slice none 0 0) ∧ w'.cell? ⟨p, 2, none⟩ = some (.slice none 0 0) ∧ w'.cell? ⟨p, 3, none⟩ = some (.int .u32 0) ∧ w'.cell? ⟨p, 4, none⟩ = some (.slice none 0 0) ∧ w'.cell? ⟨p, 5, none⟩ = some (.slice none 0 0))
    (first
      | exact ⟨c0, c1, c2, c3, c4, c5⟩
      | exact cut6 (heldZ P1.out)
      | exact cut6 (heldZ (hg1.blk P1.out NN.out))
      | exact cut6 (heldZ (hg2.blk (hg1.blk P1.out NN.out) (hg1.ne P1.out NN.out))))
    (first
    | (go_at_call 65; (with_reducible refine (putHalf_zero w.heap.size (.slice none 0 0) [] _ O1.out B1.out.size (by decide)).mono ?_); rintro e w2 ⟨v1, rfl, ho1, hb1, hg1⟩)
    | (go_at_call 65; (with_reducible refine (putHalf_zero w.heap.size v1 (List.replicate 12 0) _ ho1 (Nat.le_trans B1.out.size hb1.size) (by decide)).mono ?_); rintro e w3 ⟨v2, rfl, ho2, hb2, hg2⟩))
  have P3 := Aside0.mk (blk_drew1 (hg2.blk (hg1.blk P1.out NN.out) (hg1.ne P1.out NN.out)))
  have N3 := Aside0.mk (hg2.ne (hg1.blk P1.out NN.out) (hg1.ne P1.out NN.out))
  have B3 := Aside0.mk (below_drew1 ((B1.out.trans hb1).trans hb2))
  have O3 := Aside0.mk (Kd.R_drew ho2)
  clear ho1 ho2 hb1 hb2 hg1 hg2 P1 B1 O1 NN c0 c1 c2 c3 c4 c5 c6 c7 c8 c9 c10
  obtain ⟨A3, n3, rfl⟩ := Kd.R_slice O3.out
  obtain ⟨c0, c1, c2, c3, c4, c5, c6, c7, c8, c9, c10⟩ := heldZ (show w3.heap[p]? = some Z from P3.out)
  go_upto_region 4 with fail
  go_region_held3 (fun w' => w'.cell? ⟨p, 6, none⟩ = some (.slice none 0 0) ∧ w'.cell? ⟨p, 7, none⟩ = some (.slice none 0 0))
    (first
      | exact ⟨c6, c7⟩
      | exact ⟨(heldZ P4.out).2.2.2.2.2.2.1, (heldZ P4.out).2.2.2.2.2.2.2.1⟩
      | exact ⟨(heldZ P5.out).2.2.2.2.2.2.1, (heldZ P5.out).2.2.2.2.2.2.2.1⟩
      | exact ⟨(heldZ P6.out).2.2.2.2.2.2.1, (heldZ P6.out).2.2.2.2.2.2.2.1⟩
      | exact ⟨(heldZ P7.out).2.2.2.2.2.2.1, (heldZ P7.out).2.2.2.2.2.2.2.1⟩)
    (first
    | (go_at_call 53; (with_reducible refine (row_nil _).mono ?_); have z_ := O5; rintro e w6 ⟨x6, rfl, hx6, hb6⟩; have P6 := Aside0.mk (blk_kept P5.out hb6); have B6 := Aside0.mk (below_then B5.out B5.out.size hb6); have O6 := Aside0.mk (Kd.R_below O5.out hb6); have N6 := N5; obtain ⟨Ax6, cx6, rfl⟩ := Kd.R_slice hx6)
    | (go_at_call 53; (with_reducible refine (row_nil _).mono ?_); rintro e w4 ⟨x4, rfl, hx4, hb4⟩; have P4 := Aside0.mk (blk_kept P3.out hb4); have B4 := Aside0.mk (below_then B3.out B3.out.size hb4); have O4 := Aside0.mk (Kd.R_below O3.out hb4); have N4 := N3; obtain ⟨Ax4, cx4, rfl⟩ := Kd.R_slice hx4)
    | (refine Kd.R_append_rows_step (Kd.int .u8) (w0 := w) w.heap.size (by rfl) (.tmp 19) (.tmp 22) 42 5 (.int .u8 0) 1 rfl Try.underlying42 info5 rfl (by decide) (by omega) (.slice A5 (ofN (List.replicate 12 0 ++ List.replicate 12 0 ++ List.replicate 4 0)).length n5) (ofN (List.replicate 12 0 ++ List.replicate 12 0 ++ List.replicate 4 0)) (ofN (List.replicate 4 0)) _ _ _ (fun _ => True) (fun _ => False) rfl rfl ?aO ?aR (fun _ _ h => h) (fun _ h => h.elim) (fun _ _ => trivial) ?aB ?aS ?aL ?_; (case aR => exact (Kd.R_reads' hx6).2.2); (case aB => exact B6.out); (case aO => exact O6.out); (case aS => exact B6.out.size); (case aL => decide); intro v7 w7 ho7 hb7 hg7 hat7; have G7 := Grow.grown hg7 hat7; have P7 := Aside0.mk (G7.blk P6.out N6.out); have B7 := Aside0.mk hb7; have O7 := Aside0.mk ho7; have N7 := Aside0.mk (G7.ne P6.out N6.out); clear G7 hg7 hat7 hb7 ho7)
    | (refine Kd.R_append_rows_step (Kd.int .u8) (w0 := w) w.heap.size (by rfl) (.tmp 15) (.tmp 18) 42 5 (.int .u8 0) 1 rfl Try.underlying42 info5 rfl (by decide) (by omega) (.slice A3 (ofN (List.replicate 12 0 ++ List.replicate 12 0)).length n3) (ofN (List.replicate 12 0 ++ List.replicate 12 0)) (ofN (List.replicate 4 0)) _ _ _ (fun _ => True) (fun _ => False) rfl rfl ?aO ?aR (fun _ _ h => h) (fun _ h => h.elim) (fun _ _ => trivial) ?aB ?aS ?aL ?_; (case aR => exact (Kd.R_reads' hx4).2.2); (case aB => exact B4.out); (case aO => exact O4.out); (case aS => exact B4.out.size); (case aL => decide); intro v5 w5 ho5 hb5 hg5 hat5; have G5 := Grow.grown hg5 hat5; have P5 := Aside0.mk (G5.blk P4.out N4.out); have B5 := Aside0.mk hb5; have O5 := Aside0.mk ho5; have N5 := Aside0.mk (G5.ne P4.out N4.out); clear G5 hg5 hat5 hb5 ho5; rw [← ofN_append] at O5; obtain ⟨A5, n5, rfl⟩ := Kd.R_slice O5.out))
  have P8 := Aside0.mk P7.out
  have o8 := O7.out
  rw [← ofN_append] at o8
  have e32 : List.replicate 12 0 ++ List.replicate 12 0 ++ List.replicate 4 0 ++ List.replicate 4 0 = List.replicate 32 0 := by decide
  rw [e32] at o8
  clear O7 N7
  obtain ⟨A7, n7, rfl⟩ := Kd.R_slice o8
  have O8 := Aside0.mk (Kd.R_alloc o8 (.cells #[.int .u8 0, .int .u8 0, .int .u8 0] 5))
  have B8 := Aside0.mk (B7.out.alloc B7.out.size (.cells #[.int .u8 0, .int .u8 0, .int .u8 0] 5))
  have C8 := Aside0.mk (C_block (W := w7.alloc (.cells #[.int .u8 0, .int .u8 0, .int .u8 0] 5)) (b := w7.heap.size) (m := [0, 0, 0]) (fr := (0, 0)) (heap_new w7 _) [0, 0, 0] (by decide) rfl)
  clear B7 hx6 N6 O6 B6 P6 hb6 z_ N5 O5 B5 P5 hx4 N4 O4 B4 P4 hb4 c0 c1 c2 c3 c4 c5 c6 c7 c8 c9 c10 O3 N3 B3 P3 o8 e32
  obtain ⟨c0, c1, c2, c3, c4, c5, c6, c7, c8, c9, c10⟩ := heldZ P8.out
  clear c0 c1 c2 c3 c4 c5 c6 c7
  go_wp2_with (first | ((with_reducible refine gate_builtin (b := .append) (xs := #[.tmp 26, .tmp 32]) rfl ?_); at_builtin; refine Kd.R_append_rows (Kd.int .u8) (w0 := w) w.heap.size rfl (.tmp 26) (.tmp 32) 42 5 (.int .u8 0) 1 rfl Try.underlying42 info5 rfl (by decide) (by omega) (.slice A7 (ofN (List.replicate 32 0)).length n7) (ofN (List.replicate 32 0)) (ofN [0, 0, 0]) _ _ _ (fun _ => True) (fun _ => False) rfl rfl ?aO ?aR (fun _ _ h => h) (fun _ h => h.elim) (fun _ _ => trivial) ?aB ?aS ?aL ?_; (case aR => exact C8.out); (case aB => exact B8.out); (case aO => exact O8.out); (case aS => exact B8.out.size); (case aL => decide); intro v9 w9 ho9 hb9 hg9 hat9; have O9 := Aside0.mk ho9; have B9 := Aside0.mk hb9; clear ho9 hb9 hg9 hat9))
  obtain ⟨A9, n9, rfl⟩ := Kd.R_slice O9.out
  go_ret2
  exact ⟨A9, n9, rfl, B9.out⟩
end Go.Proofs.Ytpanefmemabckaa.GenZeroC
