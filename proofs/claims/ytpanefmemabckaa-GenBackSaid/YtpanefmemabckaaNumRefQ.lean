/- What the reference's functions on numbers and rows compute: the same plain functions; for every number and every list of bytes. -/
import Derived.Test.YtpanefmemabckaaNumPure
import Derived.Test.YtpanefmemabckaaNumQx
namespace Go.Proofs.Ytpanefmemabckaa.NumRefQ
open Go.RowKit Go.Proofs.Ytpanefmemabckaa.NumQ Go.Proofs.Ytpanefmemabckaa.NumMath Go.Proofs.Ytpanefmemabckaa.Bytes Go.Proofs.YtpanefmemabckaaW.PrintWords Go.Proofs.YtpanefmemabckaaW.PrintLast

theorem size_f (a : Int) : cardexref01_size.f a = some (isSize a) := by
  unfold cardexref01_size.f isSize
  by_cases h1 : a = 1
  · rw [if_pos h1, decide_eq_true (.inl h1)]
  · rw [if_neg h1]
    by_cases h2 : a = 2
    · rw [if_pos h2, decide_eq_true (.inr (.inl h2))]
    · rw [if_neg h2]
      by_cases h4 : a = 4
      · rw [if_pos h4, decide_eq_true (.inr (.inr (.inl h4)))]
      · rw [if_neg h4]
        by_cases h8 : a = 8
        · rw [decide_eq_true (.inr (.inr (.inr h8))), h8]; rfl
        · rw [decide_eq_false (by omega), beq_eq_false_iff_ne.mpr h8]

theorem put_l0 (s : Nat) (hs : s ≤ 8) (d : Nat) : ∀ (k n : Nat) (done : List Nat), d < k → n < 18446744073709551616 → done.length + d = s →
    cardexref01_Put.l0 k n s (ofN done) = some (if n < 256 ^ d then (ofN (done ++ le d n), 0) else ([], 2)) := by
  induction d with
  | zero =>
    intro k n done hk _ hd
    obtain ⟨k, rfl⟩ : ∃ m, k = m + 1 := ⟨k - 1, by omega⟩
    rw [cardexref01_Put.l0, if_neg (by rw [ofN_length]; omega)]
    by_cases h : n = 0
    · subst h
      rw [if_pos (by decide), if_pos (by decide), le, List.append_nil]
    · rw [if_neg (by omega), if_neg (by rw [Nat.pow_zero]; omega)]
  | succ d ih =>
    intro k n done hk hn hd
    obtain ⟨k, rfl⟩ : ∃ m, k = m + 1 := ⟨k - 1, by omega⟩
    have e : Int.tmod (n : Int) 256 % 256 = ((n % 256 : Nat) : Int) := by
      rw [show Int.tmod (n : Int) 256 = ((n % 256 : Nat) : Int) from rfl]; omega
    have e2 : IntKind.u64.wrap (Int.tdiv (n : Int) 256) = ((n / 256 : Nat) : Int) := by
      rw [show Int.tdiv (n : Int) 256 = ((n / 256 : Nat) : Int) from rfl, IntKind.wrap_u64]; omega
    rw [cardexref01_Put.l0, if_pos (by rw [ofN_length]; omega), if_pos (by rw [ofN_length]; omega), e, e2, show ofN done ++ [((n % 256 : Nat) : Int)] = ofN (done ++ [n % 256]) from ofN_snoc _ _, ih k (n / 256) (done ++ [n % 256]) (by omega) (by omega) (by rw [List.length_append, List.length_singleton]; omega)]
    have hc : (n / 256 < 256 ^ d) ↔ (n < 256 ^ (d + 1)) := by rw [Nat.pow_succ]; omega
    by_cases h : n < 256 ^ (d + 1)
    · rw [if_pos h, if_pos (hc.2 h), le, List.append_assoc]; rfl
    · rw [if_neg h, if_neg (fun h' => h (hc.1 h'))]

theorem put_f (k n : Nat) (a : Int) (hk : 9 ≤ k) (hn : n < 18446744073709551616) : cardexref01_Put.f k n a = some (ofN (putP n a).1, (putP n a).2) := by
  unfold cardexref01_Put.f putP
  rw [size_f]
  simp only [Option.bind_some]
  by_cases h : isSize a = true
  · obtain ⟨s, rfl, hs⟩ := isSize_nat h
    have e := put_l0 s (by omega) s k n [] (by omega) hn (by simp)
    simp only [List.nil_append] at e
    rw [if_pos h, show ((s : Int)).toNat = s from by omega]
    refine e.trans ?_
    by_cases hn : n < 256 ^ s
    · rw [if_pos hn, if_pos ⟨h, hn⟩]
    · rw [if_neg hn, if_neg (fun hc => hn hc.2)]; rfl
  · rw [if_neg h, if_neg (fun hc => h hc.1)]; rfl

theorem get_l0 (l : List Nat) (hb : ∀ c ∈ l, c < 256) (i s : Nat) (hs : s ≤ 8) (hl : i + s ≤ l.length) (hm : l.length ≤ 140737488351232) (d : Nat) : ∀ k j, d < k → j + d = s →
    cardexref01_Get.l0 k (ofN l) i s ((val (((l.drop i).take s).take j) : Nat) : Int) ((256 ^ j % 18446744073709551616 : Nat) : Int) j = some (((val ((l.drop i).take s) : Nat) : Int), 0) := by
  have hlen : ((l.drop i).take s).length = s := by rw [List.length_take, List.length_drop]; omega
  have hbs : ∀ c ∈ (l.drop i).take s, c < 256 := fun c hc => hb c (List.mem_of_mem_drop (List.mem_of_mem_take hc))
  induction d with
  | zero =>
    intro k j hk hj
    obtain ⟨k, rfl⟩ : ∃ m, k = m + 1 := ⟨k - 1, by omega⟩
    rw [cardexref01_Get.l0, if_neg (by omega), List.take_of_length_le (by omega)]
  | succ d ih =>
    intro k j hk hj
    obtain ⟨k, rfl⟩ : ∃ m, k = m + 1 := ⟨k - 1, by omega⟩
    have ew : wrap64 ((i : Int) + (j : Int)) = ((i + j : Nat) : Int) := by unfold wrap64; omega
    have hj7 : j ≤ 7 := by omega
    have hp : 256 ^ j ≤ 72057594037927936 := by
      have := Nat.pow_le_pow_right (show 0 < 256 by decide) hj7
      rwa [show (256 : Nat) ^ 7 = 72057594037927936 from by decide] at this
    have hc := getD_lt hb (i + j)
    have hlt : j < ((l.drop i).take s).length := by omega
    have ec : ((l.drop i).take s)[j] = l.getD (i + j) 0 := by
      rw [List.getElem_take, List.getElem_drop, List.getD_eq_getElem?_getD, List.getElem?_eq_getElem (by omega)]; rfl
    have e : val (((l.drop i).take s).take (j + 1)) = val (((l.drop i).take s).take j) + 256 ^ j * l.getD (i + j) 0 := by
      rw [List.take_succ_eq_append_getElem hlt, val_append, List.length_take, hlen, show min j s = j from by omega, ec]
      simp [val]
    have hv : val (((l.drop i).take s).take (j + 1)) < 18446744073709551616 := by
      have h1 := val_lt (l := ((l.drop i).take s).take (j + 1)) (fun c hc => hbs c (List.mem_of_mem_take hc))
      rw [List.length_take, hlen, show min (j + 1) s = j + 1 from by omega] at h1
      have h2 := Nat.pow_le_pow_right (show 0 < 256 by decide) (show j + 1 ≤ 8 by omega)
      rw [show (256 : Nat) ^ 8 = 18446744073709551616 from by decide] at h2
      omega
    have hmul : 256 ^ j * l.getD (i + j) 0 < 18446744073709551616 := by omega
    have e1 : IntKind.u64.wrap (((256 ^ j % 18446744073709551616 : Nat) : Int) * IntKind.u64.wrap ((l.getD (i + j) 0 : Nat) : Int)) = ((256 ^ j * l.getD (i + j) 0 : Nat) : Int) := by
      rw [IntKind.wrap_u64, IntKind.wrap_u64, show ((l.getD (i + j) 0 : Nat) : Int) % 18446744073709551616 = ((l.getD (i + j) 0 : Nat) : Int) from by omega, Nat.mod_eq_of_lt (by omega), ← Int.natCast_mul]
      omega
    have e2 : IntKind.u64.wrap (256 * ((256 ^ j % 18446744073709551616 : Nat) : Int)) = ((256 ^ (j + 1) % 18446744073709551616 : Nat) : Int) := by
      rw [IntKind.wrap_u64, Nat.pow_succ]
      omega
    have e3 : IntKind.u64.wrap (((val (((l.drop i).take s).take j) : Nat) : Int) + ((256 ^ j * l.getD (i + j) 0 : Nat) : Int)) = ((val (((l.drop i).take s).take (j + 1)) : Nat) : Int) := by
      rw [IntKind.wrap_u64, e]
      rw [e] at hv
      omega
    rw [cardexref01_Get.l0, if_pos (by omega), ew, if_pos (by omega), if_pos (by rw [ofN_length]; omega), rd_ofN, e1, e2, e3, show wrap64 ((j : Int) + 1) = ((j + 1 : Nat) : Int) from by unfold wrap64; omega]
    exact ih k (j + 1) (by omega) (by omega)

theorem get_f (l : List Nat) (hb : ∀ c ∈ l, c < 256) (hm : l.length ≤ 140737488351232) (i a : Int) (k : Nat) (hk : 11 ≤ k) :
    cardexref01_Get.f k (ofN l) i a = some (((getP l i a).1 : Int), (getP l i a).2) := by
  have bad : cardexref01_Get.j0 k (ofN l) i a true = some (0, 2) := by
    obtain ⟨k, rfl⟩ : ∃ m, k = m + 1 := ⟨k - 1, by omega⟩
    rw [cardexref01_Get.j0, if_pos rfl]
  unfold cardexref01_Get.f
  rw [size_f]
  simp only [Option.bind_some]
  by_cases h : isSize a = true
  · rw [if_pos h]
    by_cases hi : i < 0
    · rw [if_pos hi, bad]
      unfold getP
      rw [if_pos (.inr (.inl hi))]; rfl
    · rw [if_neg hi]
      by_cases hl : (l.length : Int) < i
      · rw [decide_eq_true (by rw [ofN_length]; exact hl), bad]
        unfold getP
        rw [if_pos (.inr (.inr hl))]; rfl
      · obtain ⟨s, rfl, hs⟩ := isSize_nat h
        obtain ⟨i, rfl⟩ := Int.eq_ofNat_of_zero_le (by omega : 0 ≤ i)
        rw [decide_eq_false (by rw [ofN_length]; omega)]
        obtain ⟨k, rfl⟩ : ∃ m, k = m + 1 := ⟨k - 1, by omega⟩
        unfold getP
        rw [cardexref01_Get.j0, if_neg (show ¬ (false = true) by decide), if_neg (show ¬ (isSize (s : Int) = false ∨ (i : Int) < 0 ∨ (l.length : Int) < (i : Int)) by rw [h]; simp; omega), ofN_length, show wrap64 ((i : Int) + (s : Int)) = (i : Int) + (s : Int) from by unfold wrap64; omega]
        by_cases hsz : (l.length : Int) - (i : Int) < (s : Int)
        · rw [if_pos (by omega), if_pos hsz]; rfl
        · rw [if_neg (by omega), if_neg hsz, show ((i : Int)).toNat = i from by omega, show ((s : Int)).toNat = s from by omega]
          have := get_l0 l hb i s (by omega) (by omega) hm s k 0 (by omega) (by omega)
          rw [List.take_zero, val, Nat.pow_zero] at this
          exact this
  · rw [if_neg h, bad]
    unfold getP
    rw [if_pos (.inl (by simpa using h))]; rfl

theorem row_f (l : List Nat) (hm : l.length ≤ 140737488351232) (k : Nat) (hk : 9 ≤ k) : cardexref01_Row.f k (ofN l) = some (ofN (rowP l)) := by
  unfold cardexref01_Row.f rowP
  rw [ofN_length, show IntKind.u64.wrap (l.length : Int) = ((l.length : Nat) : Int) from by rw [IntKind.wrap_u64]; omega, put_f k _ _ hk (by omega)]
  simp only [Option.bind_some]
  have hl : (putP l.length 4).1.length ≤ 4 := by
    unfold putP
    split
    · rw [le_length]; decide
    · simp
  rw [if_pos (by rw [ofN_length]; omega), ofN_append]

theorem getRow_f (l : List Nat) (hb : ∀ c ∈ l, c < 256) (hm : l.length ≤ 140737488351232) (i most : Int) (k : Nat) (hk : 11 ≤ k) :
    cardexref01_GetRow.f k (ofN l) i most = some (ofN (getRowP l i most).1, (getRowP l i most).2.1, (getRowP l i most).2.2) := by
  unfold cardexref01_GetRow.f getRowP
  rw [get_f l hb hm i 4 k hk]
  simp only [Option.bind_some]
  by_cases he : (getP l i 4).2 = 0
  · rw [if_pos he, if_pos he]
    have hg : getP l i 4 = ((getP l i 4).1, 0) := by rw [← he]
    obtain ⟨_, h0, h1, _⟩ := getP_ok hg
    have h2 := getP_lt hb hg
    rw [show (256 : Nat) ^ ((4 : Int)).toNat = 4294967296 from by decide] at h2
    generalize (getP l i 4).1 = n at *
    obtain ⟨i, rfl⟩ := Int.eq_ofNat_of_zero_le h0
    have e1 : wrap64 (n : Int) = (n : Int) := by unfold wrap64; omega
    have e2 : wrap64 ((i : Int) + 4) = ((i + 4 : Nat) : Int) := by unfold wrap64; omega
    have e3 : wrap64 (((i + 4 : Nat) : Int) + (n : Int)) = ((i + 4 + n : Nat) : Int) := by unfold wrap64; omega
    rw [e1, e2, e3, ofN_length]
    by_cases c1 : most < (n : Int)
    · rw [if_pos c1, if_pos c1]; rfl
    · rw [if_neg c1, if_neg c1]
      by_cases c2 : (l.length : Int) - ((i : Int) + 4) < (n : Int)
      · rw [if_pos (by omega), if_pos c2]; rfl
      · rw [if_neg (show ¬ ((i + 4 + n : Nat) : Int) > (l.length : Int) by omega), if_neg c2, if_pos (show (0 : Int) ≤ ((i + 4 : Nat) : Int) by omega), if_pos (show ((i + 4 : Nat) : Int) ≤ ((i + 4 + n : Nat) : Int) by omega), if_pos (show ((i + 4 + n : Nat) : Int) ≤ (l.length : Int) by omega)]
        have ed : ((ofN l).take (((i + 4 + n : Nat) : Int)).toNat).drop (((i + 4 : Nat) : Int)).toNat = ofN ((l.drop (((i : Int) + 4).toNat)).take n) := by
          rw [show (((i + 4 + n : Nat) : Int)).toNat = i + 4 + n from by omega, show (((i + 4 : Nat) : Int)).toNat = i + 4 from by omega, show ((i : Int) + 4).toNat = i + 4 from by omega, ofN_take, ofN_drop, List.drop_take, Nat.add_sub_cancel_left]
        rw [ed, if_pos (by rw [ofN_length, List.length_take, List.length_drop, List.length_nil]; omega), List.nil_append]
        rw [show ((i + 4 + n : Nat) : Int) = (i : Int) + 4 + (n : Int) from by omega]
  · rw [if_neg he, if_neg he]; rfl
end Go.Proofs.Ytpanefmemabckaa.NumRefQ
