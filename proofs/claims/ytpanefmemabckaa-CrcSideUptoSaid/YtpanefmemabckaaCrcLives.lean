/- The document's examples of crc hold: cardexlaw03.lives returns true, in any world. -/
import Derived.Test.YtpanefmemabckaaCrcPure
import Derived.Lib.SlBytesConst
import Derived.Lib.Hide
namespace Go.Proofs.Ytpanefmemabckaa.CrcLives
open Go.RowKit Go.Proofs.Ytpanefmemabckaa.CrcA Go.Proofs.Ytpanefmemabckaa.CrcPure Go.Proofs.YtpanefmemabckaaW.PrintWords Go.Proofs.YtpanefmemabckaaW.PrintLast

/-- a block of bytes reads as these bytes -/
theorem C_block {W : World} {b : Nat} {cs : Array Value} {fr : Nat × Nat} (h : W.heap[b]? = some (.cells cs 5 fr)) (l : List Nat) (hl : l.length ≤ 9223372036854775807)
    (hcs : ∀ (j p : Nat), l[j]? = some p → cs[j]? = some (.int .u8 (p : Int))) : Kd.C (Kd.int .u8) W (some ⟨b, 0, none⟩) (ofN l).length (ofN l) := by
  refine ⟨rfl, by rw [ofN_length]; exact hl, fun _ => ⟨⟨b, 0, none⟩, rfl, fun j p hj => ⟨[.int .u8 p], rfl, rfl, fun i u hu => ?_⟩⟩⟩
  have hi : i = 0 := by
    rcases Nat.eq_zero_or_pos i with h0 | h0
    · exact h0
    · rw [List.getElem?_eq_none (by simp; omega)] at hu; cases hu
  subst hi
  have hu' : u = .int .u8 p := by simpa using hu.symm
  subst hu'
  have hp : ∃ q : Nat, l[j]? = some q ∧ p = q := by
    unfold ofN at hj
    rw [List.getElem?_map] at hj
    cases hq : l[j]? with
    | none => rw [hq] at hj; cases hj
    | some q => rw [hq] at hj; exact ⟨q, rfl, (Option.some.inj hj).symm⟩
  obtain ⟨q, hq, rfl⟩ := hp
  have := hcs j q hq
  have e : (⟨b, 0, none⟩ : Addr).add (j * (Kd.int .u8).sz + 0) = ⟨b, j, none⟩ := by
    show (⟨b, 0, none⟩ : Addr).add (j * 1 + 0) = _
    unfold Addr.add
    by_cases h0 : j = 0
    · subst h0; simp
    · simp [h0]
  rw [e]
  exact (cell_of_row W b j cs 5 fr h).trans this

theorem of_block {W : World} {b : Nat} {cs : Array Value} {fr : Nat × Nat} (h : W.heap[b]? = some (.cells cs 5 fr)) (l : List Nat) (hl : l.length ≤ 1000) (v : Nat)
    (hb : ∀ c ∈ l, c < 256) (hcs : ∀ (j p : Nat), l[j]? = some p → cs[j]? = some (.int .u8 (p : Int))) (hv : CM.of l = v) (n c : Nat) (hn : n = l.length) (hc : n ≤ c) :
    Calls Try.prog 29 #[.slice (some ⟨b, 0, none⟩) n c] W fun e w' => e = .returned (.int .u32 (v : Int)) ∧ Below W.heap.size W w' := by
  have := crc_Of.calls (l.length + 1) (some ⟨b, 0, none⟩) c (ofN l) (v : Int) W (C_block h l (by omega) hcs) (by rw [ofN_length]; omega) (by rw [of_f l (by omega) hb _ (by omega), hv])
  rw [ofN_length, ← hn] at this
  exact this

theorem cells_of (l : List Nat) {cs : Array Value} (h : cs = (l.map fun (n : Nat) => Value.int .u8 (n : Int)).toArray) (j p : Nat) (hj : l[j]? = some p) : cs[j]? = some (.int .u8 (p : Int)) := by
  subst h
  rw [List.getElem?_toArray, List.getElem?_map, hj]; rfl

theorem blk_kept {W W1 : World} {b : Nat} {o : Obj} (h : W.heap[b]? = some o) (hb : Below W.heap.size W W1) : W1.heap[b]? = some o := (hb.block b (blk_lt h)).trans h
theorem blk_alloc {W : World} {b : Nat} {o : Obj} (h : W.heap[b]? = some o) (o' : Obj) : (W.alloc o').heap[b]? = some o := (Below.heap_alloc W o' b (blk_lt h)).trans h
/-- a step of the walk: a new block, and a call behind it -/
theorem bel_step {w W W1 : World} (h : Below w.heap.size w W) {o : Obj} (hb : Below (W.alloc o).heap.size (W.alloc o) W1) : Below w.heap.size w W1 :=
  (h.alloc h.size o).trans (hb.mono (by have := h.size; simp; omega))
theorem bel_call {w W W1 : World} (h : Below w.heap.size w W) (hb : Below W.heap.size W W1) : Below w.heap.size w W1 := h.trans (hb.mono h.size)

theorem of_none (W : World) : Calls Try.prog 29 #[.slice none 0 0] W fun e w' => e = .returned (.int .u32 0) ∧ Below W.heap.size W w' := by
  have := crc_Of.calls 1 none 0 (ofN []) 0 W ⟨rfl, by decide, fun h => absurd h (by decide)⟩ (by decide) (by rw [of_f [] (by decide) (by simp) _ (by decide)]; rfl)
  exact this

theorem v4 : CM.of [49, 50, 51, 52] = 4131058926 := by decide +kernel
theorem v5 : CM.of [53, 54, 55, 56, 57] = 2209703384 := by decide +kernel
theorem v9 : CM.of [49, 50, 51, 52, 53, 54, 55, 56, 57] = 3808858755 := by decide +kernel
theorem v32 : CM.of (List.replicate 32 0) = 2324772522 := by decide +kernel
theorem w32 : CM.of (List.replicate 32 255) = 1655221059 := by decide +kernel

/-- the row of ones, filled up to i -/
def fill (i : Nat) : Array Value := (List.replicate i (Value.int .u8 255) ++ List.replicate (32 - i) (Value.int .u8 0)).toArray
theorem fill_get (i j : Nat) (hi : i ≤ 32) (hj : j < 32) : (fill i)[j]? = some (.int .u8 (if j < i then 255 else 0)) := by
  unfold fill
  rw [List.getElem?_toArray]
  by_cases h : j < i
  · rw [if_pos h, List.getElem?_append_left (by simpa using h), List.getElem?_replicate, if_pos h]
  · rw [if_neg h, List.getElem?_append_right (by simpa using h), List.getElem?_replicate, List.length_replicate, if_pos (by omega)]
theorem fill_set (i : Nat) (hi : i < 32) : (fill i).setIfInBounds i (.int .u8 255) = fill (i + 1) := by
  have hs : ∀ k, k ≤ 32 → (fill k).size = 32 := fun k hk => by simp [fill]; omega
  apply Array.ext
  · rw [Array.size_setIfInBounds, hs i (by omega), hs (i + 1) (by omega)]
  · intro j h1 h2
    have hj : j < 32 := by rw [hs (i + 1) (by omega)] at h2; exact h2
    have e2 := fill_get (i + 1) j (by omega) hj
    have e1 := fill_get i j (by omega) hj
    rw [Array.getElem?_eq_getElem h2] at e2
    rw [Array.getElem?_eq_getElem (by rw [hs i (by omega)]; exact hj)] at e1
    rw [Array.getElem_setIfInBounds (by rw [hs i (by omega)]; exact hj), Option.some.inj e1, Option.some.inj e2]
    by_cases h : i = j
    · subst h; simp
    · simp only [if_neg h]
      by_cases h3 : j < i
      · rw [if_pos h3, if_pos (by omega)]
      · rw [if_neg h3, if_neg (by omega)]

set_option maxRecDepth 100000 in
set_option maxHeartbeats 1000000 in
theorem lives_calls (w : World) : Calls Try.prog 32 #[] w fun e w' => e = .returned (.bool true) ∧ Below w.heap.size w w' := by
  have hmk : ∀ w, (Instr.makeSlice 42 (.int .i64 32) (.int .i64 32)).run Try.prog w = .ok (.slice (some ⟨w.heap.size, 0, none⟩) 32 32) (w.alloc (.cells (fill 0) 5)) := fun _ => by kernel_rfl
  go_enter Try.func32, Try.ntmps32
  go_wp2_with fail
  have hb0 : (w.alloc (.cells (fill 0) 5)).heap[w.heap.size]? = some (.cells (fill 0) 5 (0, 0)) := heap_alloc_new w _
  have hB0 : Below w.heap.size w (w.alloc (.cells (fill 0) 5)) := (Below.refl _ _).alloc (Nat.le_refl _) _
  generalize w.alloc (.cells (fill 0) 5) = W0 at *
  clear hmk
  obtain ⟨b, hb⟩ : ∃ b, b = w.heap.size := ⟨_, rfl⟩
  rw [← hb] at hb0 ⊢
  have hbl : w.heap.size ≤ b := by omega
  clear hb
  go_loopw [2] (fun i wr => ∃ k : Nat, k ≤ 32 ∧ i = .int .i64 k ∧ wr.heap[b]? = some (.cells (fill k) 5 (0, 0)) ∧ Below w.heap.size w wr) (fun i _ => 32 - (intOf i).toNat)
  case atStart => exact ⟨0, by omega, rfl, hb0, hB0⟩
  case round =>
    obtain ⟨k, hk, rfl, hbk, hBk⟩ := hrel
    clear hb0 hB0
    by_cases hlt : k < 32
    · have hc := blk_cell hbk k
      rw [fill_get k k (by omega) hlt] at hc
      have hf := blk_frozen hbk k
      have hset := Lib.hid (blk_set hbk k (.int .u8 255))
      have HB := Lib.hid hbk
      clear hbk
      go_wp2
      go_roundw
      case rel =>
        have h2 := hset.out
        rw [fill_set k hlt] at h2
        exact ⟨k + 1, by omega, by go_num, h2, hBk.setCell (p := ⟨b, k, none⟩) hbl _⟩
      case measure => simp [intOf]; omega
    · obtain rfl : k = 32 := by omega
      have HB := Lib.hid hbk
      clear hbk hk
      have kc := fun (w : World) (C : Array Value) (n c : Nat) => Lib.run_convert_bytes_const (P := Try.prog) w 42 5 C n c Try.underlying42 Try.underlying5
      have HBk := Lib.hid hBk
      clear hBk
      go_wp2_with fail
      refine (of_block (heap_alloc_new _ _) [49, 50, 51, 52] (by decide) 4131058926 (by decide) (cells_of _ rfl) v4 4 _ rfl (by decide)).mono ?_
      rintro e w1 ⟨rfl, hb1⟩
      have HBk1 := Lib.hid (bel_step HBk.out hb1)
      have HB1 := Lib.hid (blk_kept (blk_alloc HB.out _) hb1)
      clear hb1 HB HBk
      go_wp2_with fail
      refine (of_block (heap_alloc_new _ _) [53, 54, 55, 56, 57] (by decide) 2209703384 (by decide) (cells_of _ rfl) v5 5 _ rfl (by decide)).mono ?_
      rintro e w2 ⟨rfl, hb2⟩
      have HBk2 := Lib.hid (bel_step HBk1.out hb2)
      have HB2 := Lib.hid (blk_kept (blk_alloc HB1.out _) hb2)
      clear hb2 HB1 HBk1
      go_wp2_with fail
      refine (of_none _).mono ?_
      rintro e w3 ⟨rfl, hb3⟩
      have HBk3 := Lib.hid (bel_call HBk2.out hb3)
      have HB3 := Lib.hid (blk_kept HB2.out hb3)
      clear hb3 HB2 HBk2
      go_wp2_with fail
      refine (of_block (heap_alloc_new _ _) [49, 50, 51, 52, 53, 54, 55, 56, 57] (by decide) 3808858755 (by decide) (cells_of _ rfl) v9 9 _ rfl (by decide)).mono ?_
      rintro e w4 ⟨rfl, hb4⟩
      have HBk4 := Lib.hid (bel_step HBk3.out hb4)
      have HB4 := Lib.hid (blk_kept (blk_alloc HB3.out _) hb4)
      clear hb4 HB3 HBk3
      have hmk : ∀ w, (Instr.makeSlice 42 (.int .i64 32) (.int .i64 32)).run Try.prog w = .ok (.slice (some ⟨w.heap.size, 0, none⟩) 32 32) (w.alloc (.cells (fill 0) 5)) := fun _ => by kernel_rfl
      go_wp2_with fail
      clear hmk
      refine (of_block (heap_alloc_new _ _) (List.replicate 32 0) (by decide) 2324772522 (by decide) (cells_of _ rfl) v32 32 _ rfl (by decide)).mono ?_
      rintro e w5 ⟨rfl, hb5⟩
      have HBk5 := Lib.hid (bel_step HBk4.out hb5)
      have HB5 := Lib.hid (blk_kept (blk_alloc HB4.out _) hb5)
      clear hb5 HB4 HBk4
      go_wp2_with fail
      refine (of_block HB5.out (List.replicate 32 255) (by decide) 1655221059 (by decide) (cells_of _ rfl) w32 32 _ rfl (by decide)).mono ?_
      rintro e w6 ⟨rfl, hb6⟩
      have HBk6 := Lib.hid (bel_call HBk5.out hb6)
      clear hb6 HB5 HBk5
      go_wp2_with fail
      refine (crc_On.calls 100 1 0 1 _ (on_neg 100 1 0 (by decide) (by decide))).mono ?_
      rintro e w7 ⟨rfl, n7, rfl⟩
      go_wp2_with fail
      refine (crc_Into.calls 0 128 2197175160 _ (by decide +kernel)).mono ?_
      rintro e w8 ⟨rfl, hb8⟩
      have HBk8 := Lib.hid (bel_call (pw_below_drewN HBk6.out n7) hb8)
      clear hb8 HBk6
      go_wp2_with fail
      refine (crc_Join.calls 100 4131058926 2209703384 5 3808858755 _ (by decide +kernel)).mono ?_
      rintro e w9 ⟨rfl, n9, rfl⟩
      go_wp2_with fail
      go_ret
      exact ⟨rfl, pw_below_drewN HBk8.out n9⟩
end Go.Proofs.Ytpanefmemabckaa.CrcLives
