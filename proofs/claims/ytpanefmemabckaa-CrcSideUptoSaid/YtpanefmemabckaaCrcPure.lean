/- What crc's functions compute, as plain functions on numbers and lists; for every number below 2^32 and every list of bytes. -/
import Derived.Test.YtpanefmemabckaaCrcAx1
import Derived.Laws.BitsAllLaws
namespace Go.Proofs.Ytpanefmemabckaa.CrcPure
open Go.RowKit Go.Proofs.Ytpanefmemabckaa.CrcA Go.Proofs.YtpanefmemabckaaW.PrintWords Go.Proofs.YtpanefmemabckaaW.PrintLast

theorem half_cast (b : Nat) : ((b : Int) / 2) = ((b / 2 : Nat) : Int) := by omega

theorem times_round (k a b n m : Nat) (ha : a < 4294967296) (hb : b < 4294967296) (hn : n < 4294967296) (hm : m < 4294967296) (h0 : 0 < m) :
    crc_times.l0 (k + 1) a b n m = crc_times.l0 k a (CM.bit b : Nat) ((if 0 < a &&& m then n ^^^ b else n : Nat) : Int) ((m / 2 : Nat) : Int) := by
  have e1 : Go.bits .and .u32 (b : Int) 1 = ((b % 2 : Nat) : Int) := by
    have := u32_and_nat b 1 hb (by omega)
    rw [Nat.and_one_is_mod] at this
    exact this
  have e2 : Go.bits .xor .u32 ((b : Int) / 2) 2197175160 = (((b / 2) ^^^ CM.D : Nat) : Int) := by
    rw [half_cast]
    exact u32_xor_nat (b / 2) CM.D (by omega) (by decide)
  have e3 := u32_and_nat a m ha hm
  have e4 := u32_xor_nat n b hn hb
  simp only [crc_times.l0]
  rw [if_pos (by omega), e1, e2, e3, e4, half_cast, half_cast]
  by_cases hb1 : b % 2 = 0
  · have eb : CM.bit b = b / 2 := by unfold CM.bit; rw [if_pos hb1]
    have nb : ¬ ((b % 2 : Nat) : Int) > 0 := by omega
    rw [eb]
    by_cases c : 0 < a &&& m
    · rw [if_pos (show ((a &&& m : Nat) : Int) > 0 from by omega), if_neg nb, if_pos c]
    · rw [if_neg (show ¬ ((a &&& m : Nat) : Int) > 0 from by omega), if_neg nb, if_neg c]
  · have eb : CM.bit b = (b / 2) ^^^ CM.D := by unfold CM.bit; rw [if_neg hb1]
    have nb : ((b % 2 : Nat) : Int) > 0 := by omega
    rw [eb]
    by_cases c : 0 < a &&& m
    · rw [if_pos (show ((a &&& m : Nat) : Int) > 0 from by omega), if_pos nb, if_pos c]
    · rw [if_neg (show ¬ ((a &&& m : Nat) : Int) > 0 from by omega), if_pos nb, if_neg c]

theorem and_pow (a j : Nat) : (0 < a &&& 2 ^ j) ↔ a.testBit j = true := by
  have e : a &&& 2 ^ j = if a.testBit j then 2 ^ j else 0 := by
    apply Nat.eq_of_testBit_eq
    intro i
    rw [Nat.testBit_and, Nat.testBit_two_pow]
    by_cases h : j = i
    · subst h
      cases a.testBit j <;> simp
    · cases a.testBit j <;> simp [h]
  rw [e]
  cases a.testBit j
  · simp
  · simp [Nat.two_pow_pos]

theorem times_l0 (j : Nat) : ∀ (k a b n : Nat), j ≤ 32 → j < k → a < 4294967296 → b < 4294967296 → n < 4294967296 →
    crc_times.l0 k a b n ((2 ^ j / 2 : Nat) : Int) = some ((CM.timesFrom j a b n : Nat) : Int) := by
  induction j with
  | zero =>
    intro k a b n _ hk _ _ _
    obtain ⟨k, rfl⟩ : ∃ m, k = m + 1 := ⟨k - 1, by omega⟩
    simp only [crc_times.l0]
    rw [if_neg (by decide)]; rfl
  | succ j ih =>
    intro k a b n hj hk ha hb hn
    obtain ⟨k, rfl⟩ : ∃ m, k = m + 1 := ⟨k - 1, by omega⟩
    have e : 2 ^ (j + 1) / 2 = 2 ^ j := by rw [Nat.pow_succ]; omega
    have hp : 2 ^ j < 4294967296 := Nat.lt_of_lt_of_le (Nat.pow_lt_pow_right (by omega) (show j < 32 from by omega)) (by decide)
    rw [e, times_round k a b n (2 ^ j) ha hb hn hp (Nat.two_pow_pos j), CM.timesFrom]
    have ec : (if 0 < a &&& 2 ^ j then n ^^^ b else n) = (if a.testBit j = true then n ^^^ b else n) := by
      by_cases h : a.testBit j = true
      · rw [if_pos h, if_pos ((and_pow a j).2 h)]
      · rw [if_neg h, if_neg (fun h' => h ((and_pow a j).1 h'))]
    rw [ec]
    refine ih k a _ _ (by omega) (by omega) ha (CM.bit_lt hb) ?_
    split
    · exact CM.xor_lt hn hb
    · exact hn

theorem times_f (k a b : Nat) (hk : 33 ≤ k) (ha : a < 4294967296) (hb : b < 4294967296) : crc_times.f k a b = some ((CM.times a b : Nat) : Int) :=
  times_l0 32 k a b 0 (by omega) (by omega) ha hb (by omega)

theorem and_one_i64 (n : Nat) (hn : n < 9223372036854775808) : Go.bits .and .i64 (n : Int) 1 = ((n % 2 : Nat) : Int) := by
  have := Go.bits_mask .i64 63 (by decide) (fun n h0 h1 => Go.IntWalk.i64_in _ (by omega)) 1 (by decide) (n : Int) (by omega) (by omega)
  rw [show (2 : Int) ^ 1 - 1 = 1 from rfl, show (2 : Int) ^ 1 = 2 from rfl] at this
  rw [this]; omega

theorem on_l0 (n : Nat) : ∀ (k r m : Nat), n + 33 < k → n < 9223372036854775808 → r < 4294967296 →
    crc_On.l0 k r n ((CM.by_ m : Nat) : Int) = some ((CM.bits (m * n) r : Nat) : Int) := by
  induction n using Nat.strongRecOn with
  | _ n ih =>
    intro k r m hk hn hr
    obtain ⟨k, rfl⟩ : ∃ m, k = m + 1 := ⟨k - 1, by omega⟩
    simp only [crc_On.l0]
    by_cases h0 : n = 0
    · subst h0
      rw [if_neg (by decide), Nat.mul_zero]; rfl
    · rw [if_pos (by omega), and_one_i64 n hn, times_f k _ _ (by omega) (CM.by_lt m) hr, times_f k _ _ (by omega) (CM.by_lt m) (CM.by_lt m)]
      simp only [Option.bind_some]
      rw [half_cast, CM.times_by m r hr, CM.by_by m m, ih (n / 2) (by omega) k _ _ (by omega) (by omega) (CM.bits_lt m hr), ih (n / 2) (by omega) k _ _ (by omega) (by omega) hr]
      have e : ∀ q, (m + m) * q = m * (2 * q) := fun q => by rw [← Nat.mul_assoc, Nat.mul_comm m 2, Nat.two_mul]
      by_cases h1 : n % 2 = 0
      · rw [if_neg (by omega), e, show 2 * (n / 2) = n from by omega]
      · have e3 : m + m * (2 * (n / 2)) = m * n := by
          have : n = 2 * (n / 2) + 1 := by omega
          conv => rhs; rw [this, Nat.mul_add, Nat.mul_one]
          omega
        rw [if_pos (by omega), ← CM.bits_add, e, e3]

theorem on_f (k r n : Nat) (hk : n + 33 < k) (hn : n < 9223372036854775808) (hr : r < 4294967296) : crc_On.f k r n = some ((CM.on r n : Nat) : Int) := by
  have := on_l0 n k r 8 hk hn hr
  rw [← CM.on_def] at this
  exact this

theorem on_neg (k r : Nat) (n : Int) (hk : 0 < k) (hn : n ≤ 0) : crc_On.f k r n = some (r : Int) := by
  obtain ⟨k, rfl⟩ : ∃ m, k = m + 1 := ⟨k - 1, by omega⟩
  simp only [crc_On.f, crc_On.l0]
  rw [if_neg (by omega)]

theorem into_f (r c : Nat) (hr : r < 4294967296) (hc : c < 256) : crc_Into.f r c = some ((CM.into r c : Nat) : Int) := by
  unfold crc_Into.f
  rw [if_pos (by omega)]; rfl

/-- a list of bytes, as the walk has it, is a list of numbers -/
def ofN (l : List Nat) : List Int := l.map fun (n : Nat) => (n : Int)
theorem ofN_length (l : List Nat) : (ofN l).length = l.length := by simp [ofN]

theorem more_l0 (l : List Nat) (hl : l.length ≤ 140737488351232) (hb : ∀ c ∈ l, c < 256) (d : Nat) : ∀ (k r i : Nat), d < k → l.length - i = d → i ≤ l.length → r < 4294967296 →
    crc_More.l0 k (ofN l) r l.length i = some ((CM.feed r (l.drop i) ^^^ CM.whole : Nat) : Int) := by
  induction d with
  | zero =>
    intro k r i hk hd hi hr
    obtain ⟨k, rfl⟩ : ∃ m, k = m + 1 := ⟨k - 1, by omega⟩
    simp only [crc_More.l0]
    rw [if_neg (by omega), List.drop_of_length_le (by omega), CM.feed]
    exact congrArg some (u32_xor_nat r CM.whole hr (by decide))
  | succ d ih =>
    intro k r i hk hd hi hr
    obtain ⟨k, rfl⟩ : ∃ m, k = m + 1 := ⟨k - 1, by omega⟩
    have hlt : i < l.length := by omega
    have hc : l[i] < 256 := hb _ (List.getElem_mem hlt)
    have e : rd (ofN l) i = ((l[i] : Nat) : Int) := by simp [rd, ofN, hlt]
    simp only [crc_More.l0]
    rw [if_pos (by omega), if_pos (by omega), if_pos (by rw [ofN_length]; omega), e, into_f r _ hr hc]
    simp only [Option.bind_some]
    rw [show wrap64 ((i : Int) + 1) = ((i + 1 : Nat) : Int) from by unfold wrap64; omega, ih k _ (i + 1) (by omega) (by omega) (by omega) (CM.into_lt hr hc), List.drop_eq_getElem_cons hlt, CM.feed]

theorem more_f (l : List Nat) (hl : l.length ≤ 140737488351232) (hb : ∀ c ∈ l, c < 256) (k s : Nat) (hk : l.length < k) (hs : s < 4294967296) :
    crc_More.f k s (ofN l) = some ((CM.more s l : Nat) : Int) := by
  unfold crc_More.f
  rw [show Go.bits .xor .u32 (s : Int) 4294967295 = ((s ^^^ CM.whole : Nat) : Int) from u32_xor_nat s CM.whole hs (by decide), ofN_length]
  have := more_l0 l hl hb l.length k (s ^^^ CM.whole) 0 hk (by omega) (by omega) (CM.xor_lt hs (by decide))
  rw [List.drop_zero] at this
  exact this

theorem of_f (l : List Nat) (hl : l.length ≤ 140737488351232) (hb : ∀ c ∈ l, c < 256) (k : Nat) (hk : l.length < k) :
    crc_Of.f k (ofN l) = some ((CM.of l : Nat) : Int) := by
  unfold crc_Of.f
  have := more_f l hl hb k 0 hk (by omega)
  rw [show ((0 : Nat) : Int) = 0 from rfl] at this
  rw [this]; rfl

theorem join_f (k a b n : Nat) (hk : n + 33 < k) (hn : n < 9223372036854775808) (ha : a < 4294967296) (hb : b < 4294967296) :
    crc_Join.f k a b n = some ((CM.join a b n : Nat) : Int) := by
  unfold crc_Join.f
  rw [on_f k a n hk hn ha]
  simp only [Option.bind_some]
  exact congrArg some (u32_xor_nat _ _ (CM.on_lt n ha) hb)

end Go.Proofs.Ytpanefmemabckaa.CrcPure
