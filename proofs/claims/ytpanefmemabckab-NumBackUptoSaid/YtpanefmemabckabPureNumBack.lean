/- What NumBack asks of numbers and rows is true of every number and of all rows that together have at most 1048576 bytes. -/
import Derived.Test.YtpanefmemabckabNumBx1
import Derived.Test.YtpanefmemabckabNumPure
import Derived.Test.YtpanefmemabckabNumLives
namespace Go.Proofs.Ytpanefmemabckab.Pure
open Go.RowKit Go.Proofs.Ytpanefmemabckab.NumA Go.Proofs.Ytpanefmemabckab.NumB Go.Proofs.Ytpanefmemabckab.Bytes Go.Proofs.Ytpanefmemabckab.NumMath Go.Proofs.YtpanefmemabckabW.PrintWords Go.Proofs.YtpanefmemabckabW.PrintLast Go.Proofs.YtpanefmemabckabW.PrintMore

theorem copy_f (l : List Nat) (h : l.length ≤ 140737488351232) : cardexref00_Copy.f (ofN l) = some (ofN l) := by
  unfold cardexref00_Copy.f
  rw [if_pos (by rw [ofN_length, List.length_nil]; omega), List.nil_append]

/-- what stands behind the number: the mark and the row are read -/
theorem back_j1 (m : Nat) (hm : m < 4294967296) (row ahead a behind : List Nat) (hr : ∀ c ∈ row, c < 256) (hh : ∀ c ∈ ahead, c < 256) (ha : ∀ c ∈ a, c < 256) (hb : ∀ c ∈ behind, c < 256)
    (hal : a.length ≤ 8) (hl : row.length + ahead.length + behind.length ≤ 1048576) (x : Int) (k : Nat) (hk : 2200000 ≤ k) :
    cardexlaw01_NumBack.j1 k x m (ofN row) (ofN ahead) (ofN a) (ofN (ahead ++ a ++ markP m ++ rowP row ++ behind)) ((ahead ++ a ++ markP m ++ rowP row).length : Int) x 0 = some true := by
  obtain ⟨k, rfl⟩ : ∃ j, k = j + 1 := ⟨k - 1, by omega⟩
  have hml := markP_length m hm
  have hrl : (rowP row).length ≤ 4 + row.length := by
    unfold rowP putP
    rw [List.length_append]
    split
    · rw [le_length]; exact Nat.le_refl _
    · simp
  have hrow : ∀ c ∈ rowP row, c < 256 := by
    intro c hc
    unfold rowP putP at hc
    rcases List.mem_append.1 hc with hc | hc
    · split at hc
      · exact le_lt _ _ c hc
      · cases hc
    · exact hr c hc
  have hall : ∀ c ∈ ahead ++ a ++ markP m ++ rowP row ++ behind, c < 256 := by
    intro c hc
    rcases List.mem_append.1 hc with hc | hc
    · rcases List.mem_append.1 hc with hc | hc
      · rcases List.mem_append.1 hc with hc | hc
        · rcases List.mem_append.1 hc with hc | hc
          · exact hh c hc
          · exact ha c hc
        · exact markP_lt m c hc
      · exact hrow c hc
    · exact hb c hc
  have hlen : (ahead ++ a ++ markP m ++ rowP row ++ behind).length ≤ 1048700 := by
    simp only [List.length_append]; omega
  have e1 : wrap64 (((ofN ahead).length : Int) + ((ofN a).length : Int)) = ((ahead ++ a).length : Int) := by
    rw [ofN_length, ofN_length, List.length_append]; unfold wrap64; omega
  have gm : getMarkP (ahead ++ a ++ markP m ++ rowP row ++ behind) ((ahead ++ a).length : Int) = (m, (((ahead ++ a).length + (markP m).length : Nat) : Int), 0) := by
    have := getMark_put m hm (ahead ++ a) (rowP row ++ behind)
    rwa [← List.append_assoc] at this
  have gr : getRowP (ahead ++ a ++ markP m ++ rowP row ++ behind) (((ahead ++ a).length + (markP m).length : Nat) : Int) row.length = (row, (((ahead ++ a ++ markP m).length + 4 + row.length : Nat) : Int), 0) := by
    have := getRow_put row (by omega) (ahead ++ a ++ markP m) behind
    rwa [show (ahead ++ a ++ markP m).length = (ahead ++ a).length + (markP m).length from List.length_append] at this ⊢
  have hrl4 : (rowP row).length = 4 + row.length := by
    have e4 : (256 : Nat) ^ ((4 : Int)).toNat = 4294967296 := by decide
    unfold rowP putP
    rw [if_pos ⟨by decide, by rw [e4]; omega⟩, List.length_append, le_length]; rfl
  rw [cardexlaw01_NumBack.j1, e1, NumPure.getMark_f _ hall (by omega) _ k (by omega)]
  simp only [Option.bind_some]
  rw [gm]
  simp only []
  rw [NumPure.getRow_f _ hall (by omega) _ _ k (by omega), ofN_length, gr]
  simp only [Option.bind_some]
  rw [NumPure.same_f row row hr hr]
  simp only [Option.bind_some]
  have e2 : (((ahead ++ a ++ markP m).length + 4 + row.length : Nat) : Int) = ((ahead ++ a ++ markP m ++ rowP row).length : Int) := by
    rw [List.length_append (bs := rowP row), hrl4]; omega
  simp only [decide_true, if_true, e2, NumLives.lives k (by omega), Option.bind_some]

theorem NumBack (a0 a1 a2 : Int) (l3 l4 l5 : List Int) (h0 : (Lit.int .u64 a0).wf = true) (h1 : (Lit.int .u8 a1).wf = true) (h2 : (Lit.int .u32 a2).wf = true)
    (h3 : ∀ x ∈ l3, (Lit.int .u8 x).wf = true) (h4 : ∀ x ∈ l4, (Lit.int .u8 x).wf = true) (h5 : ∀ x ∈ l5, (Lit.int .u8 x).wf = true)
    (hl : l3.length + l4.length + l5.length ≤ 1048576) : ∃ k, cardexlaw01_NumBack.f k a0 a1 a2 l3 l4 l5 = some true := by
  obtain ⟨n, rfl, hn⟩ := nat_u64 h0
  obtain ⟨q, rfl, hq⟩ := nat_u8 h1
  obtain ⟨m, rfl, hm⟩ := nat_u32 h2
  obtain ⟨row, rfl, hr⟩ := bytes_of h3
  obtain ⟨ahead, rfl, hh⟩ := bytes_of h4
  obtain ⟨behind, rfl, hb⟩ := bytes_of h5
  rw [ofN_length, ofN_length, ofN_length] at hl
  clear h0 h1 h2 h3 h4 h5
  suffices h : ∀ K, 2200001 ≤ K → cardexlaw01_NumBack.f (K + 1) n q m (ofN row) (ofN ahead) (ofN behind) = some true from ⟨_, h 2200001 (Nat.le_refl _)⟩
  intro K hK
  obtain ⟨s, hs, hs8⟩ : ∃ s : Nat, shl .i64 1 (Int.tmod (q : Int) 4) = (s : Int) ∧ (s = 1 ∨ s = 2 ∨ s = 4 ∨ s = 8) := by
    rw [show Int.tmod (q : Int) 4 = ((q % 4 : Nat) : Int) from rfl]
    have : q % 4 = 0 ∨ q % 4 = 1 ∨ q % 4 = 2 ∨ q % 4 = 3 := by omega
    rcases this with h | h | h | h <;> rw [h]
    · exact ⟨1, by decide +kernel, by decide⟩
    · exact ⟨2, by decide +kernel, by decide⟩
    · exact ⟨4, by decide +kernel, by decide⟩
    · exact ⟨8, by decide +kernel, by decide⟩
  have hsz : isSize (s : Int) = true := decide_eq_true (by omega)
  have h256 : (256 : Nat) ^ 8 = 18446744073709551616 := by decide
  have hml := markP_length m hm
  have hrl : (rowP row).length ≤ 4 + row.length := by
    unfold rowP putP
    rw [List.length_append]
    split
    · rw [le_length]; exact Nat.le_refl _
    · simp
  -- the rest, whatever the number's bytes are
  have rest : ∀ (a : List Nat) (e : Int), (∀ c ∈ a, c < 256) → a.length ≤ 8 →
      (if e = 0 then num_Get.f K (ofN (ahead ++ a ++ markP m ++ rowP row ++ behind)) ((ofN ahead).length : Int) (s : Int) else some ((n : Int), 0)) = some ((n : Int), 0) →
      cardexlaw01_NumBack.j0 (K + 1) n m (ofN row) (ofN ahead) (ofN behind) s (ofN a) e false = some true := by
    intro a e ha hal hget
    rw [cardexlaw01_NumBack.j0, if_neg (by decide), copy_f ahead (by omega)]
    simp only [Option.bind_some]
    rw [if_pos (by rw [ofN_length, ofN_length]; omega), ← ofN_append, NumPure.mark_f _ m (by omega) hm]
    simp only [Option.bind_some]
    rw [if_pos (by rw [ofN_length, ofN_length, List.length_append]; omega), ← ofN_append, NumPure.row_f row (by omega) _ (by omega)]
    simp only [Option.bind_some]
    rw [if_pos (by rw [ofN_length, ofN_length, List.length_append, List.length_append]; omega), ← ofN_append, if_pos (by rw [ofN_length, ofN_length, List.length_append, List.length_append, List.length_append]; omega), ← ofN_append]
    have hj := back_j1 m hm row ahead a behind hr hh ha hb hal hl (n : Int) K (by omega)
    simp only [ofN_length] at hget ⊢
    by_cases he : e = 0
    · rw [if_pos he] at hget ⊢
      rw [hget]
      exact hj
    · rw [if_neg he]
      exact hj
  unfold cardexlaw01_NumBack.f
  rw [hs, if_pos (by rw [show Int.tmod (q : Int) 4 = ((q % 4 : Nat) : Int) from rfl]; omega), NumPure.put_f _ n _ (by omega)]
  simp only [Option.bind_some]
  by_cases hn2 : n < 256 ^ s
  · have hp : putP n (s : Int) = (le s n, 0) := by
      unfold putP
      rw [if_pos ⟨hsz, by rw [show ((s : Int)).toNat = s from by omega]; exact hn2⟩, show ((s : Int)).toNat = s from by omega]
    rw [hp]
    simp only [if_true]
    refine rest (le s n) 0 (le_lt s n) (by rw [le_length]; omega) ?_
    rw [if_pos rfl, ofN_length]
    have hall : ∀ c ∈ ahead ++ le s n ++ markP m ++ rowP row ++ behind, c < 256 := by
      intro c hc
      rcases List.mem_append.1 hc with hc | hc
      · rcases List.mem_append.1 hc with hc | hc
        · rcases List.mem_append.1 hc with hc | hc
          · rcases List.mem_append.1 hc with hc | hc
            · exact hh c hc
            · exact le_lt _ _ c hc
          · exact markP_lt m c hc
        · unfold rowP putP at hc
          rcases List.mem_append.1 hc with hc | hc
          · split at hc
            · exact le_lt _ _ c hc
            · cases hc
          · exact hr c hc
      · exact hb c hc
    rw [NumPure.get_f _ hall (by simp only [List.length_append, le_length]; omega) _ _ _ (by omega)]
    have hg := get_put hsz hn2 ahead (markP m ++ rowP row ++ behind)
    rw [← List.append_assoc, ← List.append_assoc] at hg
    rw [hg]
  · have hp : putP n (s : Int) = ([], 2) := by
      unfold putP
      rw [if_neg (fun h => hn2 (by have := h.2; rwa [show ((s : Int)).toNat = s from by omega] at this))]
    have h8 : s ≠ 8 := by rintro rfl; rw [h256] at hn2; omega
    rw [hp]
    simp only []
    rw [if_neg (by decide), show ((s : Int) == 8) = false from beq_eq_false_iff_ne.mpr (by omega)]
    exact rest [] 2 (by simp) (by simp) (by rw [if_neg (by decide)])
end Go.Proofs.Ytpanefmemabckab.Pure
namespace Go.Proofs.Ytpanefmemabckab.Pure
open Go.RowKit Go.Proofs.Ytpanefmemabckab.NumB Go.Proofs.Ytpanefmemabckab.Bytes Go.Proofs.YtpanefmemabckabW.PrintWords Go.Proofs.YtpanefmemabckabW.PrintLast
theorem NumBack_walk (a0 a1 a2 : Int) (A3 : Option Addr) (l3 : List Int) (c3 : Nat) (A4 : Option Addr) (l4 : List Int) (c4 : Nat) (A5 : Option Addr) (l5 : List Int) (c5 : Nat) (w : World)
    (h0 : (Lit.int .u64 a0).wf = true) (h1 : (Lit.int .u8 a1).wf = true) (h2 : (Lit.int .u32 a2).wf = true)
    (hr3 : Kd.C (Kd.int .u8) w A3 l3.length l3) (hc3 : l3.length ≤ c3) (hw3 : ∀ x ∈ l3, (Lit.int .u8 x).wf = true) (_ : l3.length * 1 ≤ 140737488351232)
    (hr4 : Kd.C (Kd.int .u8) w A4 l4.length l4) (hc4 : l4.length ≤ c4) (hw4 : ∀ x ∈ l4, (Lit.int .u8 x).wf = true) (_ : l4.length * 1 ≤ 140737488351232)
    (hr5 : Kd.C (Kd.int .u8) w A5 l5.length l5) (hc5 : l5.length ≤ c5) (hw5 : ∀ x ∈ l5, (Lit.int .u8 x).wf = true) (_ : l5.length * 1 ≤ 140737488351232)
    (hl : l3.length + l4.length + l5.length ≤ 1048576) :
    Calls Try.prog 3 #[.int .u64 a0, .int .u8 a1, .int .u32 a2, .slice A3 l3.length c3, .slice A4 l4.length c4, .slice A5 l5.length c5] w fun e w' => e = .returned (.bool true) ∧ Below w.heap.size w w' := by
  obtain ⟨k, h⟩ := NumBack a0 a1 a2 l3 l4 l5 h0 h1 h2 hw3 hw4 hw5 hl
  exact cardexlaw01_NumBack.calls k a0 a1 a2 _ _ l3 _ _ l4 _ _ l5 true w hr3 hc3 hr4 hc4 hr5 hc5 h
end Go.Proofs.Ytpanefmemabckab.Pure
