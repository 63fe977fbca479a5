/- policy.Read: a contract by hand. -/
import Derived.Test.YtpanefmemabckabNumPure
import Derived.Lib.Hide
namespace Go.Proofs.Ytpanefmemabckab.PolicyRead
open Go.RowKit Go.Proofs.Ytpanefmemabckab.NumA Go.Proofs.Ytpanefmemabckab.NumMath Go.Proofs.Ytpanefmemabckab.Bytes Go.Proofs.YtpanefmemabckabW.PrintWords Go.Proofs.YtpanefmemabckabW.PrintLast
set_option linter.unusedSimpArgs false

theorem heap_alloc_new (w : World) (o : Obj) : (w.alloc o).heap[w.heap.size]? = some o := by
  show (w.heap.push o)[w.heap.size]? = _
  simp
theorem blk_kept {W W1 : World} {b : Nat} {o : Obj} (h : W.heap[b]? = some o) (hb : Below W.heap.size W W1) : W1.heap[b]? = some o := (hb.block b (blk_lt h)).trans h
/-- the number of a place and a size -/
def at_ (b : List Nat) (i s : Nat) : Nat := val ((b.drop i).take s)
/-- are bytes those of a device -/
def good (b : List Nat) : Bool := decide (b.length = 13 ∧ at_ b 12 1 ≤ 1)
/-- the error of bytes -/
def errP (b : List Nat) : Nat := if b.length < 13 then 4 else if good b = true then 0 else 5
/-- the device of bytes -/
def keyP (b : List Nat) (i : Nat) : Nat := if good b = true then at_ b i 4 else 0
def wipeP (b : List Nat) : Bool := good b && decide (at_ b 12 1 = 1)
/-- what Read answers -/
def readV (b : List Nat) : Value := .tuple #[.agg #[.int .u32 (keyP b 0), .int .u32 (keyP b 4), .int .u32 (keyP b 8), .bool (wipeP b)], .int .i64 (errP b)]

theorem at_lt {b : List Nat} (hb : ∀ c ∈ b, c < 256) (i s : Nat) : at_ b i s < 256 ^ s := by
  have h := val_lt (l := (b.drop i).take s) (fun c hc => hb c (List.mem_of_mem_drop (List.mem_of_mem_take hc)))
  refine Nat.lt_of_lt_of_le h (Nat.pow_le_pow_right (by omega) ?_)
  rw [List.length_take]; omega
theorem getP_at (b : List Nat) (i s : Nat) (hs : isSize (s : Int) = true) (h : i + s ≤ b.length) : getP b i s = (at_ b i s, 0) := by
  unfold getP
  rw [if_neg (by rw [hs]; simp; omega), if_neg (by omega)]; rfl
theorem getP_short (b : List Nat) (i s : Nat) (hs : isSize (s : Int) = true) (hi : i ≤ b.length) (h : b.length < i + s) : getP b i s = (0, 4) := by
  unfold getP
  rw [if_neg (by rw [hs]; simp; omega), if_pos (by omega)]
theorem readV_short {b : List Nat} (h : b.length < 13) : readV b = .tuple #[.agg #[.int .u32 0, .int .u32 0, .int .u32 0, .bool false], .int .i64 4] := by
  have g : good b = false := decide_eq_false (by omega)
  simp [readV, keyP, wipeP, errP, g, h]
theorem readV_form {b : List Nat} (h : 13 ≤ b.length) (g : good b = false) : readV b = .tuple #[.agg #[.int .u32 0, .int .u32 0, .int .u32 0, .bool false], .int .i64 5] := by
  simp [readV, keyP, wipeP, errP, g, show ¬ b.length < 13 from by omega]
theorem readV_good {b : List Nat} (g : good b = true) : readV b = .tuple #[.agg #[.int .u32 (at_ b 0 4), .int .u32 (at_ b 4 4), .int .u32 (at_ b 8 4), .bool (decide (at_ b 12 1 = 1))], .int .i64 0] := by
  have h := of_decide_eq_true g
  simp [readV, keyP, wipeP, errP, g, show ¬ b.length < 13 from by omega]

/-- a block that holds a device, a block that holds four numbers -/
abbrev devO (k t o : Int) (b : Bool) : Obj := .cells #[.int .u32 k, .int .u32 t, .int .u32 o, .bool b] 40
abbrev arrO (k t o x : Nat) : Obj := .cells #[.int .u64 (k : Int), .int .u64 (t : Int), .int .u64 (o : Int), .int .u64 (x : Int)] 76
theorem blk_alloc {W : World} {b : Nat} {o : Obj} (h : W.heap[b]? = some o) (o' : Obj) : (W.alloc o').heap[b]? = some o := (Below.heap_alloc W o' b (blk_lt h)).trans h
theorem store_dev {W : World} {g : Nat} {k t o : Int} {b : Bool} (h : W.heap[g]? = some (devO k t o b)) (k' t' o' : Int) (b' : Bool) :
    ((((W.setCell ⟨g, 0, none⟩ (.int .u32 k')).setCell ⟨g, 1, none⟩ (.int .u32 t')).setCell ⟨g, 2, none⟩ (.int .u32 o')).setCell ⟨g, 3, none⟩ (.bool b')).heap[g]? = some (devO k' t' o' b') := by
  exact blk_set (blk_set (blk_set (blk_set h 0 _) 1 _) 2 _) 3 _
theorem store_below {B : Nat} {w W : World} {g : Nat} (h : Below B w W) (hg : B ≤ g) (u0 u1 u2 u3 : Value) :
    Below B w ((((W.setCell ⟨g, 0, none⟩ u0).setCell ⟨g, 1, none⟩ u1).setCell ⟨g, 2, none⟩ u2).setCell ⟨g, 3, none⟩ u3) :=
  ((((h.setCell (p := ⟨g, 0, none⟩) hg u0).setCell (p := ⟨g, 1, none⟩) hg u1).setCell (p := ⟨g, 2, none⟩) hg u2).setCell (p := ⟨g, 3, none⟩) hg u3)
/-- where the loop is: the place, the round, the numbers so far -/
inductive St (k t o x len : Nat) : Value → Value → Nat → Nat → Nat → Nat → Prop
  | s0 : St k t o x len (.int .i64 0) (.int .i64 0) 0 0 0 0
  | s1 (h : 4 ≤ len) : St k t o x len (.int .i64 4) (.int .i64 1) k 0 0 0
  | s2 (h : 8 ≤ len) : St k t o x len (.int .i64 8) (.int .i64 2) k t 0 0
  | s3 (h : 12 ≤ len) : St k t o x len (.int .i64 12) (.int .i64 3) k t o 0
  | s4 (h : 13 ≤ len) : St k t o x len (.int .i64 13) (.int .i64 4) k t o x
set_option maxRecDepth 100000 in
set_option maxHeartbeats 4000000 in
theorem read_calls (A0 : Option Addr) (c0 : Nat) (b : List Nat) (w : World) (hr0 : Kd.C (Kd.int .u8) w A0 (ofN b).length (ofN b)) (hc0 : (ofN b).length ≤ c0) (hb : ∀ c ∈ b, c < 256) (hs : b.length ≤ 140737488351232) :
    Calls Try.prog 21 #[.slice A0 (ofN b).length c0] w fun e w' => e = .returned (readV b) ∧ Below w.heap.size w w' := by
  have HL := Aside0.mk (ofN_length b)
  have S1 := Aside0.mk (readV_short (b := b))
  have S2 := Aside0.mk (readV_form (b := b))
  have S3 := Aside0.mk (readV_good (b := b))
  have HR := Aside0.mk hr0
  have HC := Aside0.mk hc0
  have G0 := Aside0.mk (show 4 ≤ b.length → num_Get.f 20 (ofN b) 0 4 = some (((at_ b 0 4 : Nat) : Int), 0) from fun h => by have := getP_at b 0 4 (by decide) (by omega); rw [NumPure.get_f b hb hs 0 4 20 (by omega)]; rw [show getP b 0 4 = _ from this])
  have E0 := Aside0.mk (show 0 ≤ b.length → b.length < 4 → num_Get.f 20 (ofN b) 0 4 = some (0, 4) from fun h h' => by have := getP_short b 0 4 (by decide) (by omega) (by omega); rw [NumPure.get_f b hb hs 0 4 20 (by omega)]; rw [show getP b 0 4 = _ from this]; rfl)
  have G1 := Aside0.mk (show 8 ≤ b.length → num_Get.f 20 (ofN b) 4 4 = some (((at_ b 4 4 : Nat) : Int), 0) from fun h => by have := getP_at b 4 4 (by decide) (by omega); rw [NumPure.get_f b hb hs 4 4 20 (by omega)]; rw [show getP b 4 4 = _ from this])
  have E1 := Aside0.mk (show 4 ≤ b.length → b.length < 8 → num_Get.f 20 (ofN b) 4 4 = some (0, 4) from fun h h' => by have := getP_short b 4 4 (by decide) (by omega) (by omega); rw [NumPure.get_f b hb hs 4 4 20 (by omega)]; rw [show getP b 4 4 = _ from this]; rfl)
  have G2 := Aside0.mk (show 12 ≤ b.length → num_Get.f 20 (ofN b) 8 4 = some (((at_ b 8 4 : Nat) : Int), 0) from fun h => by have := getP_at b 8 4 (by decide) (by omega); rw [NumPure.get_f b hb hs 8 4 20 (by omega)]; rw [show getP b 8 4 = _ from this])
  have E2 := Aside0.mk (show 8 ≤ b.length → b.length < 12 → num_Get.f 20 (ofN b) 8 4 = some (0, 4) from fun h h' => by have := getP_short b 8 4 (by decide) (by omega) (by omega); rw [NumPure.get_f b hb hs 8 4 20 (by omega)]; rw [show getP b 8 4 = _ from this]; rfl)
  have G3 := Aside0.mk (show 13 ≤ b.length → num_Get.f 20 (ofN b) 12 1 = some (((at_ b 12 1 : Nat) : Int), 0) from fun h => by have := getP_at b 12 1 (by decide) (by omega); rw [NumPure.get_f b hb hs 12 1 20 (by omega)]; rw [show getP b 12 1 = _ from this])
  have E3 := Aside0.mk (show 12 ≤ b.length → b.length < 13 → num_Get.f 20 (ofN b) 12 1 = some (0, 4) from fun h h' => by have := getP_short b 12 1 (by decide) (by omega) (by omega); rw [NumPure.get_f b hb hs 12 1 20 (by omega)]; rw [show getP b 12 1 = _ from this]; rfl)
  have L0 := Aside0.mk (show at_ b 0 4 < 4294967296 from at_lt hb 0 4)
  have L1 := Aside0.mk (show at_ b 4 4 < 4294967296 from at_lt hb 4 4)
  have L2 := Aside0.mk (show at_ b 8 4 < 4294967296 from at_lt hb 8 4)
  have L3 := Aside0.mk (show at_ b 12 1 < 256 from at_lt hb 12 1)
  have GD := Aside0.mk (show good b = decide (b.length = 13 ∧ at_ b 12 1 ≤ 1) from rfl)
  clear hr0 hc0 hb
  generalize readV b = V at *
  generalize at_ b 0 4 = k at *
  generalize at_ b 4 4 = t at *
  generalize at_ b 8 4 = o at *
  generalize at_ b 12 1 = x at *
  have i0 : ∀ w, (Instr.index 77 (.agg #[.int .i64 4, .int .i64 4, .int .i64 4, .int .i64 1]) (.int .i64 0)).run Try.prog w = .ok (.int .i64 4) w := fun _ => by kernel_rfl
  have i1 : ∀ w, (Instr.index 77 (.agg #[.int .i64 4, .int .i64 4, .int .i64 4, .int .i64 1]) (.int .i64 1)).run Try.prog w = .ok (.int .i64 4) w := fun _ => by kernel_rfl
  have i2 : ∀ w, (Instr.index 77 (.agg #[.int .i64 4, .int .i64 4, .int .i64 4, .int .i64 1]) (.int .i64 2)).run Try.prog w = .ok (.int .i64 4) w := fun _ => by kernel_rfl
  have i3 : ∀ w, (Instr.index 77 (.agg #[.int .i64 4, .int .i64 4, .int .i64 4, .int .i64 1]) (.int .i64 3)).run Try.prog w = .ok (.int .i64 1) w := fun _ => by kernel_rfl
  go_enter Try.func21, Try.ntmps21
  go_wp2_with fail
  have hd := blk_alloc (heap_alloc_new w (devO 0 0 0 false)) (arrO 0 0 0 0)
  have ha := heap_alloc_new (w.alloc (devO 0 0 0 false)) (arrO 0 0 0 0)
  rw [show (w.alloc (devO 0 0 0 false)).heap.size = w.heap.size + 1 from by simp] at ha
  have hB : Below w.heap.size w ((w.alloc (devO 0 0 0 false)).alloc (arrO 0 0 0 0)) := ((Below.refl _ _).alloc (Nat.le_refl _) _).alloc (by simp) _
  change Code.wp _ _ _ _ ((w.alloc (devO 0 0 0 false)).alloc (arrO 0 0 0 0))
  generalize (w.alloc (devO 0 0 0 false)).alloc (arrO 0 0 0 0) = W0 at hd ha hB ⊢
  obtain ⟨g, hg⟩ : ∃ g, g = w.heap.size := ⟨_, rfl⟩
  rw [← hg] at hd ha ⊢
  have HG := Aside0.mk hg
  have D0 := Aside0.mk hd
  have A0' := Aside0.mk ha
  have B0 := Aside0.mk hB
  clear hd ha hB hg
  go_loopw [5, 11] (fun v5 v11 wr => Aside0 (wr.heap[g]? = some (devO 0 0 0 false)) ∧ Aside0 (Below w.heap.size w wr) ∧ ∃ a0 a1 a2 a3 : Nat, Aside0 (wr.heap[g + 1]? = some (arrO a0 a1 a2 a3)) ∧ St k t o x b.length v5 v11 a0 a1 a2 a3) (fun _ v11 _ => 4 - (intOf v11).toNat)
  case atStart => exact ⟨D0, B0, 0, 0, 0, 0, A0', .s0⟩
  case round =>
    obtain ⟨HD, HB, a0, a1, a2, a3, HA, st⟩ := hrel
    clear D0 A0' B0
    cases st
    case s0 =>
      go_wp2_with fail
      by_cases hx : 4 ≤ b.length
      · refine (num_Get.calls 20 A0 c0 (ofN b) 0 4 _ _ _ (Kd.C_below HR.out HB.out) HC.out (G0.out hx)).mono ?_
        rintro e w1 ⟨rfl, hd⟩
        have D1 := Aside0.mk (blk_kept HD.out hd.below)
        have ha := blk_kept HA.out hd.below
        have B1 := Aside0.mk (below_step HB.out hd.below)
        have f0 := blk_frozen ha 0
        have c0' := blk_cell ha 0
        simp only [List.getElem?_toArray, List.getElem?_cons_zero, List.getElem?_cons_succ] at c0'
        have A1 := Aside0.mk ha
        clear ha hd HA HB HD
        go_wp2_with fail
        go_roundw
        case rel => exact ⟨⟨by have := D1.out; first | exact (Below.heap_setCell _ _ _ _ (by dsimp only; omega)).trans this | exact this⟩, ⟨B1.out.setCell (p := ⟨g + 1, 0, none⟩) (by have := HG.out; dsimp only; omega) _⟩, k, 0, 0, 0, ⟨blk_set A1.out 0 _⟩, .s1 hx⟩
        case measure => simp [intOf]
      · refine (num_Get.calls 20 A0 c0 (ofN b) 0 4 _ _ _ (Kd.C_below HR.out HB.out) HC.out (E0.out (by omega) (by omega))).mono ?_
        rintro e w1 ⟨rfl, hd⟩
        have hv := S1.out (by omega)
        have hd1 := blk_kept HD.out hd.below
        have B1 := Aside0.mk (below_step HB.out hd.below)
        have f0 := blk_frozen hd1 0
        have f1 := blk_frozen hd1 1
        have f2 := blk_frozen hd1 2
        have f3 := blk_frozen hd1 3
        have d0 := blk_cell hd1 0
        have d1 := blk_cell hd1 1
        have d2 := blk_cell hd1 2
        have d3 := blk_cell hd1 3
        simp only [List.getElem?_toArray, List.getElem?_cons_zero, List.getElem?_cons_succ] at d0 d1 d2 d3
        have D1 := Aside0.mk hd1
        clear hd1 hd HA HB HD
        go_wp2_with fail
        have hs' := store_dev D1.out 0 0 0 false
        have Bx := Aside0.mk (store_below (g := g) B1.out (by have := HG.out; omega) (.int .u32 0) (.int .u32 0) (.int .u32 0) (.bool false))
        obtain ⟨W4, hW4⟩ : ∃ W4, W4 = ((((w1.setCell ⟨g, 0, none⟩ (.int .u32 0)).setCell ⟨g, 1, none⟩ (.int .u32 0)).setCell ⟨g, 2, none⟩ (.int .u32 0)).setCell ⟨g, 3, none⟩ (.bool false)) := ⟨_, rfl⟩
        rw [← hW4] at hs' Bx ⊢
        clear hW4 f0 f1 f2 f3 d0 d1 d2 d3
        have d0 := blk_cell hs' 0
        have d1 := blk_cell hs' 1
        have d2 := blk_cell hs' 2
        have d3 := blk_cell hs' 3
        simp only [List.getElem?_toArray, List.getElem?_cons_zero, List.getElem?_cons_succ] at d0 d1 d2 d3
        exact bodyPost_ret (v := .tuple #[.agg #[.int .u32 0, .int .u32 0, .int .u32 0, .bool false], .int .i64 4]) (by simp [results, Try.results21, go_sem, d0, d1, d2, d3]) rfl ⟨by first | rfl | (rw [hv]; done) | (rw [hv]; simp) | simp, Bx.out⟩
    case s1 hl =>
      go_wp2_with fail
      by_cases hx : 8 ≤ b.length
      · refine (num_Get.calls 20 A0 c0 (ofN b) 4 4 _ _ _ (Kd.C_below HR.out HB.out) HC.out (G1.out hx)).mono ?_
        rintro e w1 ⟨rfl, hd⟩
        have D1 := Aside0.mk (blk_kept HD.out hd.below)
        have ha := blk_kept HA.out hd.below
        have B1 := Aside0.mk (below_step HB.out hd.below)
        have f0 := blk_frozen ha 1
        have c0' := blk_cell ha 1
        simp only [List.getElem?_toArray, List.getElem?_cons_zero, List.getElem?_cons_succ] at c0'
        have A1 := Aside0.mk ha
        clear ha hd HA HB HD
        go_wp2_with fail
        go_roundw
        case rel => exact ⟨⟨by have := D1.out; first | exact (Below.heap_setCell _ _ _ _ (by dsimp only; omega)).trans this | exact this⟩, ⟨B1.out.setCell (p := ⟨g + 1, 1, none⟩) (by have := HG.out; dsimp only; omega) _⟩, k, t, 0, 0, ⟨blk_set A1.out 1 _⟩, .s2 hx⟩
        case measure => simp [intOf]
      · refine (num_Get.calls 20 A0 c0 (ofN b) 4 4 _ _ _ (Kd.C_below HR.out HB.out) HC.out (E1.out (by omega) (by omega))).mono ?_
        rintro e w1 ⟨rfl, hd⟩
        have hv := S1.out (by omega)
        have hd1 := blk_kept HD.out hd.below
        have B1 := Aside0.mk (below_step HB.out hd.below)
        have f0 := blk_frozen hd1 0
        have f1 := blk_frozen hd1 1
        have f2 := blk_frozen hd1 2
        have f3 := blk_frozen hd1 3
        have d0 := blk_cell hd1 0
        have d1 := blk_cell hd1 1
        have d2 := blk_cell hd1 2
        have d3 := blk_cell hd1 3
        simp only [List.getElem?_toArray, List.getElem?_cons_zero, List.getElem?_cons_succ] at d0 d1 d2 d3
        have D1 := Aside0.mk hd1
        clear hd1 hd HA HB HD
        go_wp2_with fail
        have hs' := store_dev D1.out 0 0 0 false
        have Bx := Aside0.mk (store_below (g := g) B1.out (by have := HG.out; omega) (.int .u32 0) (.int .u32 0) (.int .u32 0) (.bool false))
        obtain ⟨W4, hW4⟩ : ∃ W4, W4 = ((((w1.setCell ⟨g, 0, none⟩ (.int .u32 0)).setCell ⟨g, 1, none⟩ (.int .u32 0)).setCell ⟨g, 2, none⟩ (.int .u32 0)).setCell ⟨g, 3, none⟩ (.bool false)) := ⟨_, rfl⟩
        rw [← hW4] at hs' Bx ⊢
        clear hW4 f0 f1 f2 f3 d0 d1 d2 d3
        have d0 := blk_cell hs' 0
        have d1 := blk_cell hs' 1
        have d2 := blk_cell hs' 2
        have d3 := blk_cell hs' 3
        simp only [List.getElem?_toArray, List.getElem?_cons_zero, List.getElem?_cons_succ] at d0 d1 d2 d3
        exact bodyPost_ret (v := .tuple #[.agg #[.int .u32 0, .int .u32 0, .int .u32 0, .bool false], .int .i64 4]) (by simp [results, Try.results21, go_sem, d0, d1, d2, d3]) rfl ⟨by first | rfl | (rw [hv]; done) | (rw [hv]; simp) | simp, Bx.out⟩
    case s2 hl =>
      go_wp2_with fail
      by_cases hx : 12 ≤ b.length
      · refine (num_Get.calls 20 A0 c0 (ofN b) 8 4 _ _ _ (Kd.C_below HR.out HB.out) HC.out (G2.out hx)).mono ?_
        rintro e w1 ⟨rfl, hd⟩
        have D1 := Aside0.mk (blk_kept HD.out hd.below)
        have ha := blk_kept HA.out hd.below
        have B1 := Aside0.mk (below_step HB.out hd.below)
        have f0 := blk_frozen ha 2
        have c0' := blk_cell ha 2
        simp only [List.getElem?_toArray, List.getElem?_cons_zero, List.getElem?_cons_succ] at c0'
        have A1 := Aside0.mk ha
        clear ha hd HA HB HD
        go_wp2_with fail
        go_roundw
        case rel => exact ⟨⟨by have := D1.out; first | exact (Below.heap_setCell _ _ _ _ (by dsimp only; omega)).trans this | exact this⟩, ⟨B1.out.setCell (p := ⟨g + 1, 2, none⟩) (by have := HG.out; dsimp only; omega) _⟩, k, t, o, 0, ⟨blk_set A1.out 2 _⟩, .s3 hx⟩
        case measure => simp [intOf]
      · refine (num_Get.calls 20 A0 c0 (ofN b) 8 4 _ _ _ (Kd.C_below HR.out HB.out) HC.out (E2.out (by omega) (by omega))).mono ?_
        rintro e w1 ⟨rfl, hd⟩
        have hv := S1.out (by omega)
        have hd1 := blk_kept HD.out hd.below
        have B1 := Aside0.mk (below_step HB.out hd.below)
        have f0 := blk_frozen hd1 0
        have f1 := blk_frozen hd1 1
        have f2 := blk_frozen hd1 2
        have f3 := blk_frozen hd1 3
        have d0 := blk_cell hd1 0
        have d1 := blk_cell hd1 1
        have d2 := blk_cell hd1 2
        have d3 := blk_cell hd1 3
        simp only [List.getElem?_toArray, List.getElem?_cons_zero, List.getElem?_cons_succ] at d0 d1 d2 d3
        have D1 := Aside0.mk hd1
        clear hd1 hd HA HB HD
        go_wp2_with fail
        have hs' := store_dev D1.out 0 0 0 false
        have Bx := Aside0.mk (store_below (g := g) B1.out (by have := HG.out; omega) (.int .u32 0) (.int .u32 0) (.int .u32 0) (.bool false))
        obtain ⟨W4, hW4⟩ : ∃ W4, W4 = ((((w1.setCell ⟨g, 0, none⟩ (.int .u32 0)).setCell ⟨g, 1, none⟩ (.int .u32 0)).setCell ⟨g, 2, none⟩ (.int .u32 0)).setCell ⟨g, 3, none⟩ (.bool false)) := ⟨_, rfl⟩
        rw [← hW4] at hs' Bx ⊢
        clear hW4 f0 f1 f2 f3 d0 d1 d2 d3
        have d0 := blk_cell hs' 0
        have d1 := blk_cell hs' 1
        have d2 := blk_cell hs' 2
        have d3 := blk_cell hs' 3
        simp only [List.getElem?_toArray, List.getElem?_cons_zero, List.getElem?_cons_succ] at d0 d1 d2 d3
        exact bodyPost_ret (v := .tuple #[.agg #[.int .u32 0, .int .u32 0, .int .u32 0, .bool false], .int .i64 4]) (by simp [results, Try.results21, go_sem, d0, d1, d2, d3]) rfl ⟨by first | rfl | (rw [hv]; done) | (rw [hv]; simp) | simp, Bx.out⟩
    case s3 hl =>
      go_wp2_with fail
      by_cases hx : 13 ≤ b.length
      · refine (num_Get.calls 20 A0 c0 (ofN b) 12 1 _ _ _ (Kd.C_below HR.out HB.out) HC.out (G3.out hx)).mono ?_
        rintro e w1 ⟨rfl, hd⟩
        have D1 := Aside0.mk (blk_kept HD.out hd.below)
        have ha := blk_kept HA.out hd.below
        have B1 := Aside0.mk (below_step HB.out hd.below)
        have f0 := blk_frozen ha 3
        have c0' := blk_cell ha 3
        simp only [List.getElem?_toArray, List.getElem?_cons_zero, List.getElem?_cons_succ] at c0'
        have A1 := Aside0.mk ha
        clear ha hd HA HB HD
        go_wp2_with fail
        go_roundw
        case rel => exact ⟨⟨by have := D1.out; first | exact (Below.heap_setCell _ _ _ _ (by dsimp only; omega)).trans this | exact this⟩, ⟨B1.out.setCell (p := ⟨g + 1, 3, none⟩) (by have := HG.out; dsimp only; omega) _⟩, k, t, o, x, ⟨blk_set A1.out 3 _⟩, .s4 hx⟩
        case measure => simp [intOf]
      · refine (num_Get.calls 20 A0 c0 (ofN b) 12 1 _ _ _ (Kd.C_below HR.out HB.out) HC.out (E3.out (by omega) (by omega))).mono ?_
        rintro e w1 ⟨rfl, hd⟩
        have hv := S1.out (by omega)
        have hd1 := blk_kept HD.out hd.below
        have B1 := Aside0.mk (below_step HB.out hd.below)
        have f0 := blk_frozen hd1 0
        have f1 := blk_frozen hd1 1
        have f2 := blk_frozen hd1 2
        have f3 := blk_frozen hd1 3
        have d0 := blk_cell hd1 0
        have d1 := blk_cell hd1 1
        have d2 := blk_cell hd1 2
        have d3 := blk_cell hd1 3
        simp only [List.getElem?_toArray, List.getElem?_cons_zero, List.getElem?_cons_succ] at d0 d1 d2 d3
        have D1 := Aside0.mk hd1
        clear hd1 hd HA HB HD
        go_wp2_with fail
        have hs' := store_dev D1.out 0 0 0 false
        have Bx := Aside0.mk (store_below (g := g) B1.out (by have := HG.out; omega) (.int .u32 0) (.int .u32 0) (.int .u32 0) (.bool false))
        obtain ⟨W4, hW4⟩ : ∃ W4, W4 = ((((w1.setCell ⟨g, 0, none⟩ (.int .u32 0)).setCell ⟨g, 1, none⟩ (.int .u32 0)).setCell ⟨g, 2, none⟩ (.int .u32 0)).setCell ⟨g, 3, none⟩ (.bool false)) := ⟨_, rfl⟩
        rw [← hW4] at hs' Bx ⊢
        clear hW4 f0 f1 f2 f3 d0 d1 d2 d3
        have d0 := blk_cell hs' 0
        have d1 := blk_cell hs' 1
        have d2 := blk_cell hs' 2
        have d3 := blk_cell hs' 3
        simp only [List.getElem?_toArray, List.getElem?_cons_zero, List.getElem?_cons_succ] at d0 d1 d2 d3
        exact bodyPost_ret (v := .tuple #[.agg #[.int .u32 0, .int .u32 0, .int .u32 0, .bool false], .int .i64 4]) (by simp [results, Try.results21, go_sem, d0, d1, d2, d3]) rfl ⟨by first | rfl | (rw [hv]; done) | (rw [hv]; simp) | simp, Bx.out⟩
    case s4 hl =>
      have HA' := Aside0.mk HA.out
      have hd1 := HD.out
      have ha1 := HA.out
      have f0 := blk_frozen hd1 0
      have d0 := blk_cell hd1 0
      have e0 := blk_cell ha1 0
      have f1 := blk_frozen hd1 1
      have d1 := blk_cell hd1 1
      have e1 := blk_cell ha1 1
      have f2 := blk_frozen hd1 2
      have d2 := blk_cell hd1 2
      have e2 := blk_cell ha1 2
      have f3 := blk_frozen hd1 3
      have d3 := blk_cell hd1 3
      have e3 := blk_cell ha1 3
      simp only [List.getElem?_toArray, List.getElem?_cons_zero, List.getElem?_cons_succ] at d0 d1 d2 d3 e0 e1 e2 e3
      have D1 := Aside0.mk hd1
      have B1 := Aside0.mk HB.out
      clear hd1 ha1 HA' HA HB HD
      have hlen := HL.out
      by_cases h13 : 13 < b.length
      · have hv := S2.out hl (by rw [GD.out]; exact decide_eq_false (by omega))
        go_wp2_with fail
        have hs' := store_dev D1.out 0 0 0 false
        have Bx := Aside0.mk (store_below (g := g) B1.out (by have := HG.out; omega) (.int .u32 0) (.int .u32 0) (.int .u32 0) (.bool false))
        obtain ⟨W4, hW4⟩ : ∃ W4, W4 = ((((wr.setCell ⟨g, 0, none⟩ (.int .u32 0)).setCell ⟨g, 1, none⟩ (.int .u32 0)).setCell ⟨g, 2, none⟩ (.int .u32 0)).setCell ⟨g, 3, none⟩ (.bool false)) := ⟨_, rfl⟩
        rw [← hW4] at hs' Bx ⊢
        clear hW4 f0 f1 f2 f3 d0 d1 d2 d3
        have d0 := blk_cell hs' 0
        have d1 := blk_cell hs' 1
        have d2 := blk_cell hs' 2
        have d3 := blk_cell hs' 3
        simp only [List.getElem?_toArray, List.getElem?_cons_zero, List.getElem?_cons_succ] at d0 d1 d2 d3
        exact bodyPost_ret (v := .tuple #[.agg #[.int .u32 0, .int .u32 0, .int .u32 0, .bool false], .int .i64 5]) (by simp [results, Try.results21, go_sem, d0, d1, d2, d3]) rfl ⟨by first | rfl | (rw [hv]; done) | (rw [hv]; simp) | simp, Bx.out⟩
      · by_cases hx : 1 < x
        · have hv := S2.out hl (by rw [GD.out]; exact decide_eq_false (by omega))
          go_wp2_with fail
          have hs' := store_dev D1.out 0 0 0 false
          have Bx := Aside0.mk (store_below (g := g) B1.out (by have := HG.out; omega) (.int .u32 0) (.int .u32 0) (.int .u32 0) (.bool false))
          obtain ⟨W4, hW4⟩ : ∃ W4, W4 = ((((wr.setCell ⟨g, 0, none⟩ (.int .u32 0)).setCell ⟨g, 1, none⟩ (.int .u32 0)).setCell ⟨g, 2, none⟩ (.int .u32 0)).setCell ⟨g, 3, none⟩ (.bool false)) := ⟨_, rfl⟩
          rw [← hW4] at hs' Bx ⊢
          clear hW4 f0 f1 f2 f3 d0 d1 d2 d3
          have d0 := blk_cell hs' 0
          have d1 := blk_cell hs' 1
          have d2 := blk_cell hs' 2
          have d3 := blk_cell hs' 3
          simp only [List.getElem?_toArray, List.getElem?_cons_zero, List.getElem?_cons_succ] at d0 d1 d2 d3
          exact bodyPost_ret (v := .tuple #[.agg #[.int .u32 0, .int .u32 0, .int .u32 0, .bool false], .int .i64 5]) (by simp [results, Try.results21, go_sem, d0, d1, d2, d3]) rfl ⟨by first | rfl | (rw [hv]; done) | (rw [hv]; simp) | simp, Bx.out⟩
        · have hv := S3.out (by rw [GD.out]; exact decide_eq_true (by omega))
          have hx01 : x = 0 ∨ x = 1 := by omega
          have l0 := L0.out
          have l1 := L1.out
          have l2 := L2.out
          rcases hx01 with rfl | rfl
          · go_wp2_with fail
            have hs' := store_dev D1.out k t o false
            have Bx := Aside0.mk (store_below (g := g) B1.out (by have := HG.out; omega) (.int .u32 k) (.int .u32 t) (.int .u32 o) (.bool false))
            obtain ⟨W4, hW4⟩ : ∃ W4, W4 = ((((wr.setCell ⟨g, 0, none⟩ (.int .u32 k)).setCell ⟨g, 1, none⟩ (.int .u32 t)).setCell ⟨g, 2, none⟩ (.int .u32 o)).setCell ⟨g, 3, none⟩ (.bool false)) := ⟨_, rfl⟩
            rw [← hW4] at hs' Bx ⊢
            clear hW4 f0 f1 f2 f3 d0 d1 d2 d3
            have d0 := blk_cell hs' 0
            have d1 := blk_cell hs' 1
            have d2 := blk_cell hs' 2
            have d3 := blk_cell hs' 3
            simp only [List.getElem?_toArray, List.getElem?_cons_zero, List.getElem?_cons_succ] at d0 d1 d2 d3
            exact bodyPost_ret (v := .tuple #[.agg #[.int .u32 k, .int .u32 t, .int .u32 o, .bool false], .int .i64 0]) (by simp [results, Try.results21, go_sem, d0, d1, d2, d3]) rfl ⟨by first | rfl | (rw [hv]; done) | (rw [hv]; simp) | simp, Bx.out⟩
          · go_wp2_with fail
            have hs' := store_dev D1.out k t o true
            have Bx := Aside0.mk (store_below (g := g) B1.out (by have := HG.out; omega) (.int .u32 k) (.int .u32 t) (.int .u32 o) (.bool true))
            obtain ⟨W4, hW4⟩ : ∃ W4, W4 = ((((wr.setCell ⟨g, 0, none⟩ (.int .u32 k)).setCell ⟨g, 1, none⟩ (.int .u32 t)).setCell ⟨g, 2, none⟩ (.int .u32 o)).setCell ⟨g, 3, none⟩ (.bool true)) := ⟨_, rfl⟩
            rw [← hW4] at hs' Bx ⊢
            clear hW4 f0 f1 f2 f3 d0 d1 d2 d3
            have d0 := blk_cell hs' 0
            have d1 := blk_cell hs' 1
            have d2 := blk_cell hs' 2
            have d3 := blk_cell hs' 3
            simp only [List.getElem?_toArray, List.getElem?_cons_zero, List.getElem?_cons_succ] at d0 d1 d2 d3
            exact bodyPost_ret (v := .tuple #[.agg #[.int .u32 k, .int .u32 t, .int .u32 o, .bool true], .int .i64 0]) (by simp [results, Try.results21, go_sem, d0, d1, d2, d3]) rfl ⟨by first | rfl | (rw [hv]; done) | (rw [hv]; simp) | simp, Bx.out⟩
end Go.Proofs.Ytpanefmemabckab.PolicyRead
