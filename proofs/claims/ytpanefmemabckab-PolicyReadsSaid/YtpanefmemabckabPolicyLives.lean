/- The document's examples of policy hold: cardexlaw23.lives returns true, in any world. -/
import Derived.Test.YtpanefmemabckabPolicyDoB
import Derived.Lib.Hide
namespace Go.Proofs.Ytpanefmemabckab.PolicyLives
open Go.RowKit Go.Proofs.Ytpanefmemabckab.PolicyDo

theorem bcell {W w1 : World} (hb : Below W.heap.size W w1) : (∀ b o, b < W.heap.size → w1.cell? ⟨b, o, none⟩ = W.cell? ⟨b, o, none⟩) ∧ (∀ b o, b < W.heap.size → w1.frozen? ⟨b, o, none⟩ = W.frozen? ⟨b, o, none⟩) :=
  ⟨fun b o h => hb.cell (p := ⟨b, o, none⟩) h, fun b o h => hb.frozen (p := ⟨b, o, none⟩) h⟩

set_option maxHeartbeats 1000000 in
/-- policy.Gate -/
theorem gate_wipe (k t o p : Int) (w : World) : Calls Try.prog 47 #[devV k t o true, .int .u32 p] w fun e w' => e = .returned (.int .u8 140) ∧ Below w.heap.size w w' := by
  go_enter Try.func47, Try.ntmps47
  go_wp2
  go_ret
  exact ⟨rfl, (Below.refl _ _).alloc (Nat.le_refl _) _⟩
set_option maxHeartbeats 1000000 in
theorem gate_no (k t o p : Int) (w : World) (h : k = 0 ∨ k ≠ p) : Calls Try.prog 47 #[devV k t o false, .int .u32 p] w fun e w' => e = .returned (.int .u8 142) ∧ Below w.heap.size w w' := by
  by_cases hk : k = 0
  · have hk' : (k == 0) = true := beq_iff_eq.mpr hk
    clear hk h
    go_enter Try.func47, Try.ntmps47
    go_wp2
    go_ret
    exact ⟨rfl, (Below.refl _ _).alloc (Nat.le_refl _) _⟩
  · have hk' : (k == 0) = false := beq_eq_false_iff_ne.mpr hk
    have hp' : (k != p) = true := bne_iff_ne.mpr (h.resolve_left hk)
    clear hk h
    go_enter Try.func47, Try.ntmps47
    go_wp2
    go_ret
    exact ⟨rfl, (Below.refl _ _).alloc (Nat.le_refl _) _⟩
set_option maxHeartbeats 1000000 in
theorem gate_yes (k t o : Int) (w : World) (h : k ≠ 0) : Calls Try.prog 47 #[devV k t o false, .int .u32 k] w fun e w' => e = .returned (.int .u8 1) ∧ Below w.heap.size w w' := by
  have hk' : (k == 0) = false := beq_eq_false_iff_ne.mpr h
  clear h
  go_enter Try.func47, Try.ntmps47
  go_wp2
  go_ret
  exact ⟨rfl, (Below.refl _ _).alloc (Nat.le_refl _) _⟩
set_option maxHeartbeats 1000000 in
/-- policy.Wipe -/
theorem wipe_calls (k t o : Int) (b : Bool) (w : World) : Calls Try.prog 48 #[devV k t o b] w fun e w' => e = .returned (devV k t o true) ∧ Below w.heap.size w w' := by
  go_enter Try.func48, Try.ntmps48
  go_wp2
  exact bodyPost_ret (v := devV k t o true) (by simp [results, Try.results48, go_sem]) rfl ⟨rfl, ((Below.refl _ _).alloc (Nat.le_refl _) _).alloc (by simp) _⟩

theorem heap_alloc_new (w : World) (o : Obj) : (w.alloc o).heap[w.heap.size]? = some o := by
  show (w.heap.push o)[w.heap.size]? = _
  simp
theorem blk_lt {w : World} {g : Nat} {o : Obj} (h : w.heap[g]? = some o) : g < w.heap.size := (Array.getElem?_eq_some_iff.1 h).1
theorem blk_kept {W W1 : World} {b : Nat} {o : Obj} (h : W.heap[b]? = some o) (hb : Below W.heap.size W W1) : W1.heap[b]? = some o := (hb.block b (blk_lt h)).trans h
theorem blk_alloc {W : World} {b : Nat} {o : Obj} (h : W.heap[b]? = some o) (o' : Obj) : (W.alloc o').heap[b]? = some o := (Below.heap_alloc W o' b (blk_lt h)).trans h
theorem blk_cell {w : World} {g : Nat} {t : TypeId} {cs : Array Value} (h : w.heap[g]? = some (.cells cs t)) (i : Nat) : w.cell? ⟨g, i, none⟩ = cs[i]? := cell_of_row w g i cs t (0, 0) h
/-- a block that holds a device -/
def devO (k t o : Int) (b : Bool) : Obj := .cells #[.int .u32 k, .int .u32 t, .int .u32 o, .bool b] 40
/-- a block that holds a reply -/
def repO (s p : Int) (b : Bool) : Obj := .cells #[.int .u8 8, .int .u8 s, .int .u32 0, .int .u32 0, .bool false, .int .u32 0, .slice none 0 0, .slice none 0 0, .slice none 0 0, .slice none 0 0, .int .u32 p, .bool b] 83
/-- what a world keeps of two blocks behind a call -/
structure Two (w W : World) (g h : Nat) (a r : Obj) : Prop where
  dev : W.heap[g]? = some a
  rep : W.heap[h]? = some r
  bel : Below w.heap.size w W
theorem Two.mk_ {w W : World} (hb : Below w.heap.size w W) (a r : Obj) : Two w ((W.alloc a).alloc r) W.heap.size (W.heap.size + 1) a r :=
  ⟨blk_alloc (heap_alloc_new _ _) _, by have := heap_alloc_new (W.alloc a) r; rwa [show (W.alloc a).heap.size = W.heap.size + 1 from by simp] at this, (hb.alloc hb.size _).alloc (by have := hb.size; simp; omega) _⟩
theorem Two.call {w W W1 : World} {g h : Nat} {a r : Obj} (t : Two w W g h a r) (hb : Below W.heap.size W W1) : Two w W1 g h a r := ⟨blk_kept t.dev hb, blk_kept t.rep hb, t.bel.trans (hb.mono t.bel.size)⟩
theorem Two.step {w W : World} {g h : Nat} {a r : Obj} (t : Two w W g h a r) (o : Obj) : Two w (W.alloc o) g h a r := ⟨blk_alloc t.dev _, blk_alloc t.rep _, t.bel.alloc t.bel.size _⟩

set_option maxRecDepth 100000 in
set_option maxHeartbeats 4000000 in
theorem lives_calls (w : World) : Calls Try.prog 25 #[] w fun e w' => e = .returned (.bool true) ∧ Below w.heap.size w w' := by
  go_enter Try.func25, Try.ntmps25
  go_wp2_with fail
  refine (do_ask 0 0 0 7 _).mono ?_
  rintro e w1 ⟨rfl, hb1⟩
  have A1 := Lib.hid (Two.mk_ hb1 (devO 0 7 0 false) (repO 1 7 false))
  clear hb1
  go_wp2_with fail
  refine (do_take 0 7 0 8 _ (by decide)).mono ?_
  rintro e w2 ⟨rfl, hb2⟩
  have A2 := Lib.hid (A1.out.call hb2)
  have C2 := Lib.hid (Two.mk_ A2.out.bel (devO 8 0 7 false) (repO 1 8 false))
  have A2' := Lib.hid ((A2.out.step (devO 8 0 7 false)).step (repO 1 8 false))
  clear hb2 A1 A2
  go_wp2_with fail
  refine (do_key 0 0 0 0 9 _ (.inl rfl) (.inl rfl)).mono ?_
  rintro e w3 ⟨rfl, hb3⟩
  have A3 := Lib.hid (A2'.out.call hb3)
  have C3 := Lib.hid (C2.out.call hb3)
  have D3 := Lib.hid (Two.mk_ A3.out.bel (devO 0 0 0 false) (repO 3 0 false))
  have A3' := Lib.hid ((A3.out.step (devO 0 0 0 false)).step (repO 3 0 false))
  have C3' := Lib.hid ((C3.out.step (devO 0 0 0 false)).step (repO 3 0 false))
  clear hb3 A2' C2 A3 C3
  go_wp2_with fail
  refine (do_wiped 0 0 0 0 9 _).mono ?_
  rintro e w4 ⟨rfl, hb4⟩
  have A4 := Lib.hid (((A3'.out.call hb4).step (devO 0 0 0 false)).step (repO 1 0 false))
  have C4 := Lib.hid (((C3'.out.call hb4).step (devO 0 0 0 false)).step (repO 1 0 false))
  have D4 := Lib.hid (((D3.out.call hb4).step (devO 0 0 0 false)).step (repO 1 0 false))
  clear hb4 A3' C3' D3
  go_wp2_with fail
  refine (gate_no 0 0 0 0 _ (.inl rfl)).mono ?_
  rintro e w5 ⟨rfl, hb5⟩
  have A5 := A4.out.call hb5
  have C5 := C4.out.call hb5
  have D5 := D4.out.call hb5
  have a1 := blk_cell A5.dev 1
  have a2 := blk_cell A5.rep 10
  have b0 := blk_cell C5.dev 0
  have b1 := blk_cell C5.dev 1
  have b2 := blk_cell C5.dev 2
  have b3 := blk_cell C5.dev 3
  have b4 := blk_cell C5.rep 10
  have d1 := blk_cell D5.rep 1
  have B5 := Lib.hid A5.bel
  have C5' := Lib.hid C5
  clear hb5 A4 C4 D4 A5 C5 D5
  simp only [List.getElem?_toArray, List.getElem?_cons_zero, List.getElem?_cons_succ] at a1 a2 b0 b1 b2 b3 b4 d1
  go_wp2_with fail
  refine (gate_yes 8 0 7 _ (by decide)).mono ?_
  rintro e w6 ⟨rfl, hb6⟩
  have C6 := C5'.out.call hb6
  have B6 := Lib.hid (B5.out.trans (hb6.mono B5.out.size))
  have b0' := blk_cell C6.dev 0
  have b1' := blk_cell C6.dev 1
  have b2' := blk_cell C6.dev 2
  have b3' := blk_cell C6.dev 3
  clear hb6 a1 a2 b0 b1 b2 b3 b4 d1 C5' B5 C6
  simp only [List.getElem?_toArray, List.getElem?_cons_zero, List.getElem?_cons_succ] at b0' b1' b2' b3'
  go_wp2_with fail
  refine (wipe_calls 8 0 7 false _).mono ?_
  rintro e w7 ⟨rfl, hb7⟩
  have B7 := Lib.hid (B6.out.trans (hb7.mono B6.out.size))
  clear hb7 b0' b1' b2' b3' B6
  go_wp2_with fail
  refine (gate_wipe 8 0 7 8 _).mono ?_
  rintro e w8 ⟨rfl, hb8⟩
  have B8 := Lib.hid (B7.out.trans (hb8.mono B7.out.size))
  clear hb8 B7
  go_wp2_with fail
  go_ret
  exact ⟨rfl, B8.out⟩
end Go.Proofs.Ytpanefmemabckab.PolicyLives
