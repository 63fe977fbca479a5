/- Wide lays bytes anew with three bytes of 7 behind them; Left tells true of them while nobody wrote there. For every list of bytes. -/
import Derived.Test.YtpanefmemabckaaNumPure
import Derived.Lib.Hide
namespace Go.Proofs.Ytpanefmemabckaa.Wide
open Go.RowKit Go.Proofs.Ytpanefmemabckaa.NumA Go.Proofs.Ytpanefmemabckaa.Bytes Go.Proofs.YtpanefmemabckaaW.PrintWords Go.Proofs.YtpanefmemabckaaW.PrintLast

/-- a row of numbers, written up to place i -/
def fillL (m : List Nat) (i : Nat) : List Nat := m.take i ++ List.replicate (m.length - i) 0
def cellsN (m : List Nat) : Array Value := (m.map fun (n : Nat) => Value.int .u8 (n : Int)).toArray
theorem cellsN_get (m : List Nat) (i : Nat) : (cellsN m)[i]? = (m[i]?).map fun (n : Nat) => Value.int .u8 (n : Int) := by
  unfold cellsN; rw [List.getElem?_toArray, List.getElem?_map]
theorem cellsN_set (m : List Nat) (i c : Nat) : (cellsN m).setIfInBounds i (.int .u8 (c : Int)) = cellsN (m.set i c) := by
  unfold cellsN; rw [List.setIfInBounds_toArray, List.map_set]
theorem fill_length (m : List Nat) (i : Nat) : (fillL m i).length = m.length := by
  unfold fillL; rw [List.length_append, List.length_take, List.length_replicate]; omega
theorem fill_zero (m : List Nat) : fillL m 0 = List.replicate m.length 0 := by unfold fillL; simp
theorem fill_all (m : List Nat) : fillL m m.length = m := by unfold fillL; simp
theorem fill_step (m : List Nat) (i : Nat) (h : i < m.length) : (fillL m i).set i m[i] = fillL m (i + 1) := by
  unfold fillL
  obtain ⟨d, hd⟩ : ∃ d, m.length - i = d + 1 := ⟨m.length - i - 1, by omega⟩
  have hl : (m.take i).length = i := by rw [List.length_take]; omega
  rw [hd, List.set_append_right _ _ (by omega), hl, Nat.sub_self, List.replicate_succ, List.set_cons_zero, List.take_succ_eq_append_getElem h, List.append_assoc, show m.length - (i + 1) = d from by omega]
  rfl
theorem fill_get (m : List Nat) (i : Nat) (h : i < m.length) : (fillL m i)[i]? = some 0 := by
  unfold fillL
  have hl : (m.take i).length = i := by rw [List.length_take]; omega
  rw [List.getElem?_append_right (by omega), hl, Nat.sub_self, List.getElem?_replicate, if_pos (by omega)]
theorem made_cells (n : Nat) : madeCells #[.int .u8 0] n = cellsN (List.replicate n 0) := by
  apply Array.ext
  · rw [size_madeCells]; simp [cellsN]
  · intro i h1 h2
    simp [madeCells, cellsN, Nat.mod_one]

theorem info8 : (Try.prog.info? 5).map (fun i => (i.zero, i.size, i.bytes)) = some (some (.int .u8 0), 1, 1) := by kernel_rfl

/-- a block of bytes reads as these bytes -/
theorem C_block {W : World} {b : Nat} {m : List Nat} {fr : Nat × Nat} (h : W.heap[b]? = some (.cells (cellsN m) 5 fr)) (l : List Nat) (hl : l.length ≤ 9223372036854775807)
    (hm : m.take l.length = l) : Kd.C (Kd.int .u8) W (some ⟨b, 0, none⟩) (ofN l).length (ofN l) := by
  refine ⟨rfl, by rw [ofN_length]; exact hl, fun _ => ⟨⟨b, 0, none⟩, rfl, fun j p hj => ⟨[.int .u8 p], rfl, rfl, fun i u hu => ?_⟩⟩⟩
  have hi : i = 0 := by
    rcases Nat.eq_zero_or_pos i with h0 | h0
    · exact h0
    · rw [List.getElem?_eq_none (by simp; omega)] at hu; cases hu
  subst hi
  have hu' : u = .int .u8 p := by simpa using hu.symm
  subst hu'
  have hp : ∃ q : Nat, l[j]? = some q ∧ p = q := by
    unfold ofN at hj
    rw [List.getElem?_map] at hj
    cases hq : l[j]? with
    | none => rw [hq] at hj; cases hj
    | some q => rw [hq] at hj; exact ⟨q, rfl, (Option.some.inj hj).symm⟩
  obtain ⟨q, hq, rfl⟩ := hp
  have e : (⟨b, 0, none⟩ : Addr).add (j * (Kd.int .u8).sz + 0) = ⟨b, j, none⟩ := by
    show (⟨b, 0, none⟩ : Addr).add (j * 1 + 0) = _
    unfold Addr.add
    by_cases h0 : j = 0
    · subst h0; simp
    · simp [h0]
  have hjl : j < l.length := (List.getElem?_eq_some_iff.1 hq).1
  have hmj : m[j]? = some q := by
    rw [← hm, List.getElem?_take, if_pos hjl] at hq
    exact hq
  rw [e]
  exact (cell_of_row W b j _ 5 fr h).trans (by rw [cellsN_get, hmj]; rfl)

theorem blk_kept {W W1 : World} {b : Nat} {o : Obj} (h : W.heap[b]? = some o) (hb : Below W.heap.size W W1) : W1.heap[b]? = some o := (hb.block b (blk_lt h)).trans h

set_option maxRecDepth 100000 in
set_option maxHeartbeats 2000000 in
theorem wide_calls (A0 : Option Addr) (c0 : Nat) (l : List Nat) (w : World) (hr0 : Kd.C (Kd.int .u8) w A0 (ofN l).length (ofN l)) (hs : l.length ≤ 140737488351232) :
    Calls Try.prog 20 #[.slice A0 (ofN l).length c0] w fun e w' => ∃ b, e = .returned (.slice (some ⟨b, 0, none⟩) (ofN l).length (l.length + 3)) ∧ w'.heap[b]? = some (.cells (cellsN (l ++ [7, 7, 7])) 5 (0, 0)) ∧ Below w.heap.size w w' := by
  have HR := Aside0.mk hr0
  rw [ofN_length]
  clear hr0
  obtain ⟨i0, hi, hz0, hz1, hz2⟩ := info_parts info8
  have hmk : ∀ u : World, (Instr.makeSlice 42 (.int .i64 ((l.length : Int) + 3)) (.int .i64 ((l.length : Int) + 3))).run Try.prog u =
      .ok (.slice (some ⟨u.heap.size, 0, none⟩) (l.length + 3) (l.length + 3)) (u.alloc (.cells (cellsN (fillL (l ++ [7, 7, 7]) 0)) 5)) := fun u => by
    have h := run_make (P := Try.prog) u 42 5 i0 (.int .u8 0) Try.underlying42 hi hz0 .i64 .i64 ((l.length : Int) + 3) ((l.length : Int) + 3) (by omega) (Int.le_refl _) (by rw [hz2]; omega) (by omega)
    have e : ((l.length : Int) + 3).toNat = l.length + 3 := by omega
    rw [hz1, e, Nat.mul_one] at h
    have hl0 : (l ++ [7, 7, 7]).length = l.length + 3 := by simp
    rw [fill_zero, hl0, ← made_cells]
    exact h
  clear hi hz0 hz1 hz2
  have HS := Aside0.mk hs
  go_enter Try.func20, Try.ntmps20
  go_wp2_with fail
  have hb0 : (w.alloc (.cells (cellsN (fillL (l ++ [7, 7, 7]) 0)) 5)).heap[w.heap.size]? = some (.cells (cellsN (fillL (l ++ [7, 7, 7]) 0)) 5 (0, 0)) := heap_alloc_new w _
  have hB0 : Below w.heap.size w (w.alloc (.cells (cellsN (fillL (l ++ [7, 7, 7]) 0)) 5)) := (Below.refl _ _).alloc (Nat.le_refl _) _
  clear hmk
  generalize w.alloc (.cells (cellsN (fillL (l ++ [7, 7, 7]) 0)) 5) = W0 at *
  obtain ⟨b, hb⟩ : ∃ b, b = w.heap.size := ⟨_, rfl⟩
  rw [← hb] at hb0 ⊢
  have hbl : w.heap.size ≤ b := by omega
  clear hb
  go_loopw [4] (fun i wr => ∃ k : Nat, k ≤ l.length + 3 ∧ i = .int .i64 k ∧ wr.heap[b]? = some (.cells (cellsN (fillL (l ++ [7, 7, 7]) k)) 5 (0, 0)) ∧ Below w.heap.size w wr) (fun i _ => l.length + 3 - (intOf i).toNat)
  case atStart => exact ⟨0, by omega, rfl, hb0, hB0⟩
  case round =>
    obtain ⟨k, hk, rfl, hbk, hBk⟩ := hrel
    clear hb0 hB0
    have hlm : (l ++ [7, 7, 7]).length = l.length + 3 := by simp
    by_cases hlt : k < l.length
    · have hc := blk_cell hbk k
      rw [cellsN_get, fill_get _ k (by omega)] at hc
      simp only [Option.map_some] at hc
      have hf := blk_frozen hbk k
      have hset := blk_set hbk k (.int .u8 7)
      have hset2 := blk_set hset k (.int .u8 ((l[k] : Nat) : Int))
      have hc2 := blk_cell hset k
      rw [Array.getElem?_setIfInBounds_self_of_lt (by unfold cellsN; rw [List.size_toArray, List.length_map, fill_length]; omega)] at hc2
      have hf2 := blk_frozen hset k
      obtain ⟨ad, he, hcell0⟩ := Kd.at_int HR.out (k : Int) (by omega) (by rw [ofN_length]; omega)
      subst he
      rw [rd_ofN, show l.getD k 0 = l[k] from by rw [List.getD_eq_getElem?_getD, List.getElem?_eq_getElem hlt]; rfl, show ((k : Int)).toNat = k from by omega] at hcell0
      have hB1 := hBk.setCell (p := ⟨b, k, none⟩) hbl (.int .u8 7)
      have hcell := (hBk.cell (World.block_lt_of_cell? w _ hcell0)).trans hcell0
      have hcell1 := (hB1.cell (World.block_lt_of_cell? w _ hcell0)).trans hcell0
      have hcells : ((cellsN (fillL (l ++ [7, 7, 7]) k)).setIfInBounds k (.int .u8 7)).setIfInBounds k (.int .u8 ((l[k] : Nat) : Int)) = cellsN (fillL (l ++ [7, 7, 7]) (k + 1)) := by
        have h7 : (Value.int .u8 7) = .int .u8 ((7 : Nat) : Int) := rfl
        rw [h7, cellsN_set, cellsN_set, List.set_set]
        congr 1
        have := fill_step (l ++ [7, 7, 7]) k (by omega)
        rwa [List.getElem_append_left hlt] at this
      rw [hcells] at hset2
      have HSET := Aside0.mk hset2
      have HB2 := Aside0.mk (hB1.setCell (p := ⟨b, k, none⟩) hbl (.int .u8 ((l[k] : Nat) : Int)))
      clear hset hset2 hB1 hcell0 hcells hlm hbk
      go_wp2
      go_roundw
      case rel => exact ⟨k + 1, by omega, by go_num, HSET.out, HB2.out⟩
      case measure => simp [intOf]; omega
    · by_cases hlt3 : k < l.length + 3
      · have hc := blk_cell hbk k
        rw [cellsN_get, fill_get _ k (by omega)] at hc
        simp only [Option.map_some] at hc
        have hf := blk_frozen hbk k
        have hset := blk_set hbk k (.int .u8 7)
        have h7 : (Value.int .u8 7) = .int .u8 ((7 : Nat) : Int) := rfl
        have hcells : (cellsN (fillL (l ++ [7, 7, 7]) k)).setIfInBounds k (.int .u8 7) = cellsN (fillL (l ++ [7, 7, 7]) (k + 1)) := by
          rw [h7, cellsN_set]
          congr 1
          have := fill_step (l ++ [7, 7, 7]) k (by omega)
          have e7 : (l ++ [7, 7, 7])[k] = 7 := by
            rw [List.getElem_append_right (by omega)]
            have : k - l.length = 0 ∨ k - l.length = 1 ∨ k - l.length = 2 := by omega
            rcases this with h | h | h <;> simp [h]
          rwa [e7] at this
        rw [hcells] at hset
        have HSET := Aside0.mk hset
        have HB2 := Aside0.mk (hBk.setCell (p := ⟨b, k, none⟩) hbl (.int .u8 7))
        clear hset hcells hlm hbk h7
        go_wp2
        go_roundw
        case rel => exact ⟨k + 1, by omega, by go_num, HSET.out, HB2.out⟩
        case measure => simp [intOf]; omega
      · obtain rfl : k = l.length + 3 := by omega
        rw [← hlm, fill_all] at hbk
        have HBK := Aside0.mk hbk
        have HB := Aside0.mk hBk
        clear hbk hBk hlm
        go_wp2
        go_ret
        exact ⟨b, rfl, HBK.out, HB.out⟩

set_option maxRecDepth 100000 in
set_option maxHeartbeats 2000000 in
/-- Left, of what Wide laid and nobody wrote into -/
theorem left_calls (A1 : Option Addr) (c1 : Nat) (l : List Nat) (b : Nat) (w : World) (hb : ∀ c ∈ l, c < 256) (hs : l.length ≤ 140737488351232)
    (hblk : w.heap[b]? = some (.cells (cellsN (l ++ [7, 7, 7])) 5 (0, 0))) (hr1 : Kd.C (Kd.int .u8) w A1 (ofN l).length (ofN l)) (hc1 : (ofN l).length ≤ c1) :
    Calls Try.prog 31 #[.slice (some ⟨b, 0, none⟩) (ofN l).length (l.length + 3), .slice A1 (ofN l).length c1] w fun e w' => e = .returned (.bool true) ∧ Drawn0 w w' := by
  have HR0 := Aside0.mk (C_block hblk l (by omega) (List.take_left))
  have HR1 := Aside0.mk hr1
  have HC1 := Aside0.mk hc1
  have hsame := Aside0.mk (NumPure.same_f l l hb hb)
  have g0 := blk_cell hblk l.length
  have g1 := blk_cell hblk (l.length + 1)
  have g2 := blk_cell hblk (l.length + 2)
  rw [cellsN_get] at g0 g1 g2
  have k0 : (l ++ [7, 7, 7])[l.length]? = some 7 := by rw [List.getElem?_append_right (by omega)]; simp
  have k1 : (l ++ [7, 7, 7])[l.length + 1]? = some 7 := by rw [List.getElem?_append_right (by omega)]; simp
  have k2 : (l ++ [7, 7, 7])[l.length + 2]? = some 7 := by rw [List.getElem?_append_right (by omega)]; simp
  rw [k0] at g0
  rw [k1] at g1
  rw [k2] at g2
  simp only [Option.map_some] at g0 g1 g2
  clear k0 k1 k2 hblk hr1 hc1
  have HL := Aside0.mk (ofN_length l)
  go_enter Try.func31, Try.ntmps31
  go_wp2_with fail
  refine (cardexref00_Same.calls _ _ (ofN l) _ _ (ofN l) true _ HR0.out (by rw [HL.out]; omega) HR1.out HC1.out (by rw [hsame.out]; simp)).mono ?_
  rintro e w' ⟨rfl, n, rfl⟩
  have hn := HL.out
  rw [hn]
  clear hn
  go_wp2
  go_ret
  exact ⟨rfl, ⟨n, rfl⟩⟩
end Go.Proofs.Ytpanefmemabckaa.Wide
