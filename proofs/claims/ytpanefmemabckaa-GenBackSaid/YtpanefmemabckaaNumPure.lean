/- What num's functions compute, as plain functions on numbers and lists of bytes; for every number and every list of bytes. -/
import Derived.Test.YtpanefmemabckaaNumMath
import Derived.Test.YtpanefmemabckaaNumAx
import Derived.Test.YtpanefmemabckaaNumGetRow
import Derived.Laws.Bits64
namespace Go.Proofs.Ytpanefmemabckaa.NumPure
open Go.RowKit Go.Proofs.Ytpanefmemabckaa.NumA Go.Proofs.Ytpanefmemabckaa.NumGetRow Go.Proofs.Ytpanefmemabckaa.NumMath Go.Proofs.Ytpanefmemabckaa.Bytes Go.Proofs.YtpanefmemabckaaW.PrintWords Go.Proofs.YtpanefmemabckaaW.PrintLast

theorem ofSize_f (a : Int) : num_ofSize.f a = some (isSize a) := by
  unfold num_ofSize.f
  by_cases h : a > 0
  · rw [if_pos h]
    by_cases h8 : a ≤ 8
    · rw [if_pos h8]
      have : a = 1 ∨ a = 2 ∨ a = 3 ∨ a = 4 ∨ a = 5 ∨ a = 6 ∨ a = 7 ∨ a = 8 := by omega
      rcases this with rfl | rfl | rfl | rfl | rfl | rfl | rfl | rfl <;> decide +kernel
    · rw [if_neg h8]
      exact congrArg some (decide_eq_false (by omega)).symm
  · rw [if_neg h]
    exact congrArg some (decide_eq_false (by omega)).symm

theorem put_l0 (s : Nat) (hs : s ≤ 8) (d : Nat) : ∀ (k n : Nat) (done : List Nat), d < k → done.length + d = s →
    num_Put.l0 k n (ofN (done ++ List.replicate d 0)) s done.length = some (if n < 256 ^ d then (ofN (done ++ le d n), 0) else ([], 2)) := by
  induction d with
  | zero =>
    intro k n done hk hd
    obtain ⟨k, rfl⟩ : ∃ m, k = m + 1 := ⟨k - 1, by omega⟩
    simp only [num_Put.l0]
    rw [if_neg (by omega)]
    by_cases h : n = 0
    · subst h
      rw [if_neg (by decide), if_pos (by decide)]; rfl
    · rw [if_pos (by omega), if_neg (by rw [Nat.pow_zero]; omega)]
  | succ d ih =>
    intro k n done hk hd
    obtain ⟨k, rfl⟩ : ∃ m, k = m + 1 := ⟨k - 1, by omega⟩
    have e : ((n : Int) % 256) = ((n % 256 : Nat) : Int) := by omega
    have e2 : ((n : Int) / 256) = ((n / 256 : Nat) : Int) := by omega
    have e3 : (done ++ List.replicate (d + 1) 0).set done.length (n % 256) = (done ++ [n % 256]) ++ List.replicate d 0 := by
      rw [List.set_append_right _ _ (Nat.le_refl _), Nat.sub_self, List.replicate_succ, List.set_cons_zero, List.append_assoc]; rfl
    have e4 : wrap64 ((done.length : Int) + 1) = (((done ++ [n % 256]).length : Nat) : Int) := by
      rw [List.length_append, List.length_singleton]; unfold wrap64; omega
    simp only [num_Put.l0]
    rw [if_pos (by omega), if_pos (by omega), if_pos (by rw [ofN_length, List.length_append, List.length_replicate]; omega), e, e2, show ((done.length : Int)).toNat = done.length from by omega, ofN_set, e3, e4, ih k (n / 256) (done ++ [n % 256]) (by omega) (by rw [List.length_append, List.length_singleton]; omega)]
    have hc : (n / 256 < 256 ^ d) ↔ (n < 256 ^ (d + 1)) := by rw [Nat.pow_succ]; omega
    by_cases h : n < 256 ^ (d + 1)
    · rw [if_pos h, if_pos (hc.2 h), le, List.append_assoc]; rfl
    · rw [if_neg h, if_neg (fun h' => h (hc.1 h'))]

theorem put_f (k n : Nat) (a : Int) (hk : 9 ≤ k) : num_Put.f k n a = some (ofN (putP n a).1, (putP n a).2) := by
  unfold num_Put.f putP
  rw [ofSize_f]
  simp only [Option.bind_some]
  by_cases h : isSize a = true
  · obtain ⟨s, rfl, hs⟩ := isSize_nat h
    have e := put_l0 s (by omega) s k n [] (by omega) (by simp)
    simp only [List.nil_append, List.length_nil] at e
    rw [if_pos h, if_pos (by omega), if_pos (by omega), show ((s : Int)).toNat = s from by omega]
    rw [show List.replicate s (0 : Int) = ofN (List.replicate s 0) from ofN_replicate s 0, ofN_length, List.length_replicate]
    refine e.trans ?_
    by_cases hn : n < 256 ^ s
    · rw [if_pos hn, if_pos ⟨h, hn⟩]
    · rw [if_neg hn, if_neg (fun hc => hn hc.2)]; rfl
  · rw [if_neg h, if_neg (fun hc => h hc.1)]; rfl

theorem or_byte (x c : Nat) (hx : x < 72057594037927936) (hc : c < 256) :
    Go.bits .or .u64 (IntKind.u64.wrap ((x : Int) * 256)) (IntKind.u64.wrap (c : Int)) = ((c + 256 * x : Nat) : Int) := by
  rw [IntKind.wrap_u64, IntKind.wrap_u64, show ((x : Int) * 256) % 18446744073709551616 = ((2 ^ 8 * x : Nat) : Int) from by omega, show (c : Int) % 18446744073709551616 = (c : Int) from by omega,
    u64_or_nat _ _ (by omega) (by omega), ← Nat.two_pow_add_eq_or_of_lt (by omega : c < 2 ^ 8) x]
  congr 1
  omega

theorem get_l0 (l : List Nat) (hb : ∀ c ∈ l, c < 256) (i s : Nat) (hs : s ≤ 8) (hl : i + s ≤ l.length) (hm : l.length ≤ 140737488351232) (d : Nat) : ∀ k, d < k → d ≤ s →
    num_Get.l0 k (ofN l) i ((val (((l.drop i).take s).drop d) : Nat) : Int) ((d : Int) - 1) = some (((val ((l.drop i).take s) : Nat) : Int), 0) := by
  induction d with
  | zero =>
    intro k hk _
    obtain ⟨k, rfl⟩ : ∃ m, k = m + 1 := ⟨k - 1, by omega⟩
    simp only [num_Get.l0]
    rw [if_neg (by omega), List.drop_zero]
  | succ d ih =>
    intro k hk hd
    obtain ⟨k, rfl⟩ : ∃ m, k = m + 1 := ⟨k - 1, by omega⟩
    have hlen : ((l.drop i).take s).length = s := by rw [List.length_take, List.length_drop]; omega
    have hbs : ∀ c ∈ (l.drop i).take s, c < 256 := fun c hc => hb c (List.mem_of_mem_drop (List.mem_of_mem_take hc))
    have ew : wrap64 ((i : Int) + (((d + 1 : Nat) : Int) - 1)) = ((i + d : Nat) : Int) := by unfold wrap64; omega
    have hx : val (((l.drop i).take s).drop (d + 1)) < 72057594037927936 := by
      have h1 := val_lt (l := ((l.drop i).take s).drop (d + 1)) (fun c hc => hbs c (List.mem_of_mem_drop hc))
      rw [List.length_drop, hlen] at h1
      have h2 : 256 ^ (s - (d + 1)) ≤ 256 ^ 7 := Nat.pow_le_pow_right (by decide) (by omega)
      rw [show (256 : Nat) ^ 7 = 72057594037927936 from by decide] at h2
      omega
    have hc := getD_lt hb (i + d)
    have e : l.getD (i + d) 0 + 256 * val (((l.drop i).take s).drop (d + 1)) = val (((l.drop i).take s).drop d) := by
      have hlt : d < ((l.drop i).take s).length := by omega
      rw [List.drop_eq_getElem_cons hlt, val]
      congr 1
      rw [List.getElem_take, List.getElem_drop, List.getD_eq_getElem?_getD, List.getElem?_eq_getElem (by omega)]; rfl
    simp only [num_Get.l0]
    rw [if_pos (by omega), ew, if_pos (by omega), if_pos (by rw [ofN_length]; omega), rd_ofN, or_byte _ _ hx hc, e, show wrap64 (((d + 1 : Nat) : Int) - 1 - 1) = (d : Int) - 1 from by unfold wrap64; omega]
    exact ih k (by omega) (by omega)

theorem get_f (l : List Nat) (hb : ∀ c ∈ l, c < 256) (hm : l.length ≤ 140737488351232) (i a : Int) (k : Nat) (hk : 11 ≤ k) :
    num_Get.f k (ofN l) i a = some (((getP l i a).1 : Int), (getP l i a).2) := by
  have bad : num_Get.j0 k (ofN l) i a 0 true = some (0, 2) := by
    obtain ⟨k, rfl⟩ : ∃ m, k = m + 1 := ⟨k - 1, by omega⟩
    rw [num_Get.j0, if_pos rfl]
  unfold num_Get.f
  rw [ofSize_f]
  simp only [Option.bind_some]
  by_cases h : isSize a = true
  · rw [if_pos h]
    by_cases hi : i < 0
    · rw [if_pos hi, bad]
      unfold getP
      rw [if_pos (.inr (.inl hi))]; rfl
    · rw [if_neg hi]
      by_cases hl : (l.length : Int) < i
      · rw [decide_eq_true (by rw [ofN_length]; exact hl), bad]
        unfold getP
        rw [if_pos (.inr (.inr hl))]; rfl
      · obtain ⟨s, rfl, hs⟩ := isSize_nat h
        obtain ⟨i, rfl⟩ := Int.eq_ofNat_of_zero_le (by omega : 0 ≤ i)
        rw [decide_eq_false (by rw [ofN_length]; omega)]
        obtain ⟨k, rfl⟩ : ∃ m, k = m + 1 := ⟨k - 1, by omega⟩
        unfold getP
        rw [num_Get.j0, if_neg (show ¬ (false = true) by decide), if_neg (show ¬ (isSize (s : Int) = false ∨ (i : Int) < 0 ∨ (l.length : Int) < (i : Int)) by rw [h]; simp; omega), ofN_length, show wrap64 ((l.length : Int) - (i : Int)) = (l.length : Int) - (i : Int) from by unfold wrap64; omega]
        by_cases hsz : (l.length : Int) - (i : Int) < (s : Int)
        · rw [if_pos hsz, if_pos hsz]; rfl
        · rw [if_neg hsz, if_neg hsz, show wrap64 ((s : Int) - 1) = (s : Int) - 1 from by unfold wrap64; omega, show ((i : Int)).toNat = i from by omega, show ((s : Int)).toNat = s from by omega]
          have := get_l0 l hb i s (by omega) (by omega) hm s k (by omega) (Nat.le_refl _)
          rw [List.drop_of_length_le (by rw [List.length_take]; omega), val] at this
          exact this
  · rw [if_neg h, bad]
    unfold getP
    rw [if_pos (.inl (by simpa using h))]; rfl

theorem row_f (l : List Nat) (hm : l.length ≤ 140737488351232) (k : Nat) (hk : 9 ≤ k) : num_Row.f k (ofN l) = some (ofN (rowP l)) := by
  unfold num_Row.f rowP
  rw [ofN_length, show IntKind.u64.wrap (l.length : Int) = ((l.length : Nat) : Int) from by rw [IntKind.wrap_u64]; omega, put_f k _ _ hk]
  simp only [Option.bind_some]
  have hl : (putP l.length 4).1.length ≤ 4 := by
    unfold putP
    split
    · rw [le_length]; decide
    · simp
  rw [if_pos (by rw [ofN_length]; omega), ofN_append]

theorem getRow_f (l : List Nat) (hb : ∀ c ∈ l, c < 256) (hm : l.length ≤ 140737488351232) (i most : Int) (k : Nat) (hk : 11 ≤ k) :
    num_GetRow.f k (ofN l) i most = some (ofN (getRowP l i most).1, (getRowP l i most).2.1, (getRowP l i most).2.2) := by
  unfold num_GetRow.f getRowP
  rw [get_f l hb hm i 4 k hk]
  simp only [Option.bind_some]
  by_cases he : (getP l i 4).2 = 0
  · rw [if_pos he, if_pos he]
    have hg : getP l i 4 = ((getP l i 4).1, 0) := by rw [← he]
    obtain ⟨_, h0, h1, _⟩ := getP_ok hg
    have h2 := getP_lt hb hg
    rw [show (256 : Nat) ^ ((4 : Int)).toNat = 4294967296 from by decide] at h2
    generalize (getP l i 4).1 = n at *
    rw [ofN_length, if_pos (by omega)]
    by_cases c1 : most < (n : Int)
    · rw [if_pos c1, if_pos c1]; rfl
    · rw [if_neg c1, if_neg c1]
      by_cases c2 : (l.length : Int) - (i + 4) < (n : Int)
      · rw [if_pos c2, if_pos (by omega)]; rfl
      · rw [if_neg c2, if_neg (by omega), ofN_drop, show ((n : Int)).toNat = n from by omega, ofN_take]
  · rw [if_neg he, if_neg he]; rfl

theorem and127 (n : Nat) (hn : n < 4294967296) : Go.bits .and .u32 (n : Int) 127 = ((n % 128 : Nat) : Int) := by
  have := u32_and_nat n 127 hn (by omega)
  rw [show (127 : Nat) = 2 ^ 7 - 1 from rfl, Nat.and_two_pow_sub_one_eq_mod] at this
  exact this
theorem and127b (n : Nat) (hn : n < 256) : Go.bits .and .u8 (n : Int) 127 = ((n % 128 : Nat) : Int) := by
  have := u8_and_nat n 127 hn (by omega)
  rw [show (127 : Nat) = 2 ^ 7 - 1 from rfl, Nat.and_two_pow_sub_one_eq_mod] at this
  exact this
theorem or128 (n : Nat) (hn : n < 128) : Go.bits .or .u8 (n : Int) 128 = ((n + 128 : Nat) : Int) := by
  have h := u8_or_nat n 128 (by omega) (by omega)
  have h2 := Nat.two_pow_add_eq_or_of_lt (by omega : n < 2 ^ 7) 1
  rw [show (2 : Nat) ^ 7 * 1 = 128 from rfl, Nat.or_comm] at h2
  rw [← h2, Nat.add_comm] at h
  exact h

theorem mark_l0 (f : Nat) : ∀ (k m : Nat) (acc : List Nat), f < k → m < 128 ^ f → m < 4294967296 → acc.length + f < 100 →
    num_Mark.l0 k m (ofN acc) = some (ofN ((groups f m).reverse ++ acc)) := by
  induction f with
  | zero =>
    intro k m acc hk hm _ _
    obtain ⟨k, rfl⟩ : ∃ m, k = m + 1 := ⟨k - 1, by omega⟩
    rw [Nat.pow_zero] at hm
    simp only [num_Mark.l0]
    rw [if_neg (by omega)]; rfl
  | succ f ih =>
    intro k m acc hk hm h32 ha
    obtain ⟨k, rfl⟩ : ∃ m, k = m + 1 := ⟨k - 1, by omega⟩
    simp only [num_Mark.l0]
    rw [groups]
    by_cases h0 : m = 0
    · subst h0
      rw [if_neg (by decide), if_pos rfl]; rfl
    · rw [if_pos (by omega), if_neg h0, and127 m h32, show (((m % 128 : Nat) : Int) % 256) = ((m % 128 : Nat) : Int) from by omega, or128 _ (by omega)]
      simp only [Option.bind_some]
      have e : ([((m % 128 + 128 : Nat) : Int)] ++ ofN acc) = ofN ((m % 128 + 128) :: acc) := rfl
      rw [if_pos (by rw [ofN_length, List.length_singleton]; omega), e, show ((m : Int) / 128) = ((m / 128 : Nat) : Int) from by omega, ih k (m / 128) _ (by omega) (by rw [Nat.pow_succ] at hm; omega) (by omega) (by rw [List.length_cons]; omega)]
      rw [List.reverse_cons, List.append_assoc]; rfl

theorem mark_f (k n : Nat) (hk : 6 ≤ k) (hn : n < 4294967296) : num_Mark.f k n = some (ofN (markP n)) := by
  unfold num_Mark.f
  rw [and127 n hn, show (((n % 128 : Nat) : Int) % 256) = ((n % 128 : Nat) : Int) from by omega, show ((n : Int) / 128) = ((n / 128 : Nat) : Int) from by omega]
  have h5 : (128 : Nat) ^ 5 = 34359738368 := by decide
  exact mark_l0 5 k (n / 128) [n % 128] (by omega) (by omega) (by omega) (by simp)

theorem or_group (x c : Nat) (hx : x < 33554432) (hc : c < 256) :
    Go.bits .or .u32 (((x : Int) * 128) % 4294967296) ((Go.bits .and .u8 (c : Int) 127) % 4294967296) = ((x * 128 + c % 128 : Nat) : Int) := by
  rw [and127b c hc, show ((x : Int) * 128) % 4294967296 = ((2 ^ 7 * x : Nat) : Int) from by omega, show ((c % 128 : Nat) : Int) % 4294967296 = ((c % 128 : Nat) : Int) from by omega,
    u32_or_nat _ _ (by omega) (by omega), ← Nat.two_pow_add_eq_or_of_lt (by omega : c % 128 < 2 ^ 7) x]
  congr 1
  omega

theorem getMark_l0 (at_ : Nat) (l : List Nat) (hb : ∀ c ∈ l, c < 256) (hm : at_ + l.length ≤ 140737488351232) (d : Nat) : ∀ (k x i : Nat), 2 * d < k → i + d = l.length → x < 4294967296 →
    num_GetMark.l0 k at_ x (ofN l) l.length i = some (((gmP x (decide (i = 0)) ((at_ + i : Nat) : Int) (l.drop i)).1 : Int), (gmP x (decide (i = 0)) ((at_ + i : Nat) : Int) (l.drop i)).2) := by
  induction d with
  | zero =>
    intro k x i hk hi hx
    obtain ⟨k, rfl⟩ : ∃ m, k = m + 1 := ⟨k - 1, by omega⟩
    simp only [num_GetMark.l0]
    rw [if_neg (by omega), List.drop_of_length_le (by omega), gmP]; rfl
  | succ d ih =>
    intro k x i hk hi hx
    obtain ⟨k, rfl⟩ : ∃ m, k = m + 1 + 1 := ⟨k - 2, by omega⟩
    have hlt : i < l.length := by omega
    have hc := getD_lt hb i
    have ec : l.getD i 0 = l[i] := by rw [List.getD_eq_getElem?_getD, List.getElem?_eq_getElem hlt]; rfl
    have key : ∀ b : Bool, b = decide ((i = 0 ∧ l[i] = 128) ∨ 33554432 ≤ x) → num_GetMark.j2 (k + 1) at_ x i (l[i] : Nat) (ofN l) l.length i b =
        some (((gmP x (decide (i = 0)) ((at_ + i : Nat) : Int) (l.drop i)).1 : Int), (gmP x (decide (i = 0)) ((at_ + i : Nat) : Int) (l.drop i)).2) := by
      intro b hbb
      rw [List.drop_eq_getElem_cons hlt, gmP]
      rw [num_GetMark.j2]
      by_cases hh : (i = 0 ∧ l[i] = 128) ∨ 33554432 ≤ x
      · rw [if_pos (show b = true by rw [hbb]; exact decide_eq_true hh), if_pos (show (decide (i = 0) = true ∧ l[i] = 128) ∨ 33554432 ≤ x by simpa using hh)]; rfl
      · have hc' : l[i] < 256 := by rw [← ec]; exact hc
        rw [if_neg (show ¬ b = true by rw [hbb]; simpa using hh), if_neg (show ¬ ((decide (i = 0) = true ∧ l[i] = 128) ∨ 33554432 ≤ x) by simpa using hh), or_group x _ (by omega) hc']
        by_cases h128 : l[i] < 128
        · rw [if_pos (show ((l[i] : Nat) : Int) < 128 by omega), if_pos h128, show wrap64 ((wrap64 ((at_ : Int) + (i : Int))) + 1) = ((at_ + i : Nat) : Int) + 1 from by unfold wrap64; omega]
        · rw [if_neg (show ¬ ((l[i] : Nat) : Int) < 128 by omega), if_neg h128, show wrap64 ((i : Int) + 1) = ((i + 1 : Nat) : Int) from by unfold wrap64; omega, ih k _ (i + 1) (by omega) (by omega) (by omega)]
          rw [decide_eq_false (by omega : ¬ i + 1 = 0)]
          rw [show ((at_ + (i + 1) : Nat) : Int) = ((at_ + i : Nat) : Int) + 1 from by omega]
    simp only [num_GetMark.l0]
    rw [if_pos (by omega), if_pos (by omega), if_pos (by rw [ofN_length]; omega), rd_ofN, ec]
    have hd : ((x : Int) / 33554432 > 0) ↔ 33554432 ≤ x := by omega
    by_cases h0 : i = 0
    · rw [if_pos (by omega)]
      by_cases h1 : l[i] = 128
      · rw [if_pos (by omega)]
        exact key _ (decide_eq_true (.inl ⟨h0, h1⟩)).symm
      · rw [if_neg (by omega)]
        refine key _ ?_
        rw [decide_eq_decide, hd]
        exact ⟨.inr, fun h => h.elim (fun h => absurd h.2 h1) id⟩
    · rw [if_neg (by omega)]
      refine key _ ?_
      rw [decide_eq_decide, hd]
      exact ⟨.inr, fun h => h.elim (fun h => absurd h.1 h0) id⟩

theorem getMark_f (l : List Nat) (hb : ∀ c ∈ l, c < 256) (hm : l.length ≤ 140737488351232) (i : Int) (k : Nat) (hk : 2 * l.length + 3 ≤ k) :
    num_GetMark.f k (ofN l) i = some (((getMarkP l i).1 : Int), (getMarkP l i).2) := by
  unfold num_GetMark.f getMarkP
  obtain ⟨k, rfl⟩ : ∃ m, k = m + 1 := ⟨k - 1, by omega⟩
  by_cases hi : i < 0
  · rw [if_pos hi, if_pos (.inl hi)]
    rw [num_GetMark.j0, if_pos rfl]; rfl
  · rw [if_neg hi, num_GetMark.j0]
    by_cases hl : (l.length : Int) < i
    · rw [if_pos (decide_eq_true (by rw [ofN_length]; exact hl)), if_pos (.inr hl)]; rfl
    · obtain ⟨i, rfl⟩ := Int.eq_ofNat_of_zero_le (by omega : 0 ≤ i)
      rw [if_neg (show ¬ decide ((i : Int) > ((ofN l).length : Int)) = true by rw [decide_eq_true_eq, ofN_length]; exact hl), if_neg (show ¬ ((i : Int) < 0 ∨ (l.length : Int) < (i : Int)) by omega), if_pos (show (0 : Int) ≤ (i : Int) by omega), if_pos (show (i : Int) ≤ ((ofN l).length : Int) by rw [ofN_length]; omega), show ((i : Int)).toNat = i from by omega, ofN_drop, ofN_length]
      have := getMark_l0 i (l.drop i) (fun c hc => hb c (List.mem_of_mem_drop hc)) (by rw [List.length_drop]; omega) (l.drop i).length k 0 0 (by rw [List.length_drop]; omega) (by omega) (by omega)
      rw [List.drop_zero, Nat.add_zero] at this
      exact this

theorem same_f (l m : List Nat) (hl : ∀ c ∈ l, c < 256) (hm : ∀ c ∈ m, c < 256) : cardexref00_Same.f (ofN l) (ofN m) = some (decide (l = m)) :=
  congrArg some (str_eq hl hm)
end Go.Proofs.Ytpanefmemabckaa.NumPure
