/- What the reference's crc functions compute: the same plain functions; for every number below 2^32 and every list of bytes. -/
import Derived.Test.YtpanefmemabckaaCrcPure
import Derived.Test.YtpanefmemabckaaCrcRx1
namespace Go.Proofs.Ytpanefmemabckaa.CrcRef
open Go.RowKit Go.Proofs.Ytpanefmemabckaa.CrcR Go.Proofs.Ytpanefmemabckaa.CrcPure Go.Proofs.YtpanefmemabckaaW.PrintWords Go.Proofs.YtpanefmemabckaaW.PrintLast

theorem bit_f (r : Nat) (hr : r < 4294967296) : cardexref03_bit.f r = some ((CM.bit r : Nat) : Int) := by
  have e1 : Go.bits .and .u32 (r : Int) 1 = ((r % 2 : Nat) : Int) := by
    have := u32_and_nat r 1 hr (by omega)
    rw [Nat.and_one_is_mod] at this
    exact this
  have e2 : Go.bits .xor .u32 ((r : Int) / 2) 2197175160 = (((r / 2) ^^^ CM.D : Nat) : Int) := by
    rw [half_cast]
    exact u32_xor_nat (r / 2) CM.D (by omega) (by decide)
  unfold cardexref03_bit.f CM.bit
  rw [e1, e2, half_cast]
  by_cases h : r % 2 = 0
  · rw [if_pos (by omega), if_pos h]
  · rw [if_neg (by omega), if_neg h]

/-- the inner loop: what is left of eight bits; then the outer loop goes on -/
theorem l1_end (k r n i : Nat) : cardexref03_On.l1 (k + 1) r n i (8 : Nat) = cardexref03_On.l0 k r n (wrap64 ((i : Int) + 1)) := by
  rw [cardexref03_On.l1, if_neg (by omega)]
theorem l1_step (k r n i j : Nat) (hj : j < 8) (hr : r < 4294967296) : cardexref03_On.l1 (k + 1) r n i j = cardexref03_On.l1 k ((CM.bit r : Nat) : Int) n i ((j + 1 : Nat) : Int) := by
  rw [cardexref03_On.l1, if_pos (by omega), bit_f r hr, Option.bind_some, show wrap64 ((j : Int) + 1) = ((j + 1 : Nat) : Int) from by unfold wrap64; omega]
theorem on_l1 (n i : Nat) (d : Nat) : ∀ (k r j : Nat), j + d = 8 → r < 4294967296 →
    cardexref03_On.l1 (k + d + 1) r n i j = cardexref03_On.l0 k ((CM.bits d r : Nat) : Int) n (wrap64 ((i : Int) + 1)) := by
  induction d with
  | zero =>
    intro k r j hj hr
    obtain rfl : j = 8 := by omega
    exact l1_end k r n i
  | succ d ih =>
    intro k r j hj hr
    have e := l1_step (k + d + 1) r n i j (by omega) hr
    have e2 := ih k (CM.bit r) (j + 1) (by omega) (CM.bit_lt hr)
    exact e.trans e2

theorem on_l0 (n : Nat) (hn : n < 9223372036854775000) (d : Nat) : ∀ (k r i : Nat), 10 * d + 1 ≤ k → i + d = n → r < 4294967296 →
    cardexref03_On.l0 k r n i = some ((CM.on r d : Nat) : Int) := by
  induction d with
  | zero =>
    intro k r i hk hi hr
    obtain ⟨k, rfl⟩ : ∃ m, k = m + 1 := ⟨k - 1, by omega⟩
    rw [cardexref03_On.l0, if_neg (by omega), CM.on_zero]
  | succ d ih =>
    intro k r i hk hi hr
    obtain ⟨k, rfl⟩ : ∃ m, k = m + 8 + 1 + 1 := ⟨k - 10, by omega⟩
    rw [cardexref03_On.l0, if_pos (by omega), show (0 : Int) = ((0 : Nat) : Int) from rfl, on_l1 n i 8 k r 0 (by omega) hr, show wrap64 ((i : Int) + 1) = ((i + 1 : Nat) : Int) from by unfold wrap64; omega,
      ih k _ (i + 1) (by omega) (by omega) (CM.bits_lt 8 hr)]
    have : CM.bits 8 r = CM.on r 1 := (CM.on_def r 1).symm
    rw [this, CM.on_add, Nat.add_comm]

theorem on_f (k r n : Nat) (hk : 10 * n + 1 ≤ k) (hn : n < 9223372036854775000) (hr : r < 4294967296) : cardexref03_On.f k r n = some ((CM.on r n : Nat) : Int) :=
  on_l0 n hn n k r 0 hk (by omega) hr
theorem on_neg (k r : Nat) (n : Int) (hk : 0 < k) (hn : n ≤ 0) : cardexref03_On.f k r n = some (r : Int) := by
  obtain ⟨k, rfl⟩ : ∃ m, k = m + 1 := ⟨k - 1, by omega⟩
  unfold cardexref03_On.f
  rw [cardexref03_On.l0, if_neg (by omega)]

theorem into_f (k r c : Nat) (hk : 20 ≤ k) (hr : r < 4294967296) (hc : c < 256) : cardexref03_Into.f k r c = some ((CM.into r c : Nat) : Int) := by
  unfold cardexref03_Into.f
  rw [show ((c : Int)) % 4294967296 = (c : Int) from by omega, u32_xor_nat r c hr (by omega), show (1 : Int) = ((1 : Nat) : Int) from rfl, on_f k _ 1 (by omega) (by omega) (CM.xor_lt hr (by omega))]
  rw [CM.into_def]; rfl

theorem turned_f (r : Nat) (hr : r < 4294967296) : cardexref03_turned.f r = some ((r ^^^ CM.whole : Nat) : Int) := by
  unfold cardexref03_turned.f
  have e : r ^^^ CM.whole = 4294967295 - r := by
    apply Nat.eq_of_testBit_eq
    intro i
    have h1 := Nat.testBit_two_pow_sub_succ (show r < 2 ^ 32 from hr) i
    rw [show (2 : Nat) ^ 32 - (r + 1) = 4294967295 - r from by omega] at h1
    rw [h1, Nat.testBit_xor, show CM.whole = 2 ^ 32 - 1 from rfl, Nat.testBit_two_pow_sub_one]
    by_cases h : i < 32
    · simp [h]
    · have : r < 2 ^ i := Nat.lt_of_lt_of_le (show r < 2 ^ 32 from hr) (Nat.pow_le_pow_right (by decide) (by omega))
      simp [h, Nat.testBit_lt_two_pow this]
  rw [e]
  congr 1
  omega

theorem more_l0 (l : List Nat) : ∀ (k r : Nat), l.length + 30 ≤ k → (∀ c ∈ l, c < 256) → r < 4294967296 →
    cardexref03_More.l0 k (ofN l) r = some ((CM.feed r l ^^^ CM.whole : Nat) : Int) := by
  induction l with
  | nil =>
    intro k r hk _ hr
    obtain ⟨k, rfl⟩ : ∃ m, k = m + 1 := ⟨k - 1, by omega⟩
    rw [cardexref03_More.l0, if_neg (by decide), turned_f r hr]; rfl
  | cons c l ih =>
    intro k r hk hb hr
    rw [List.length_cons] at hk
    obtain ⟨k, rfl⟩ : ∃ m, k = m + 1 := ⟨k - 1, by omega⟩
    have hc := hb c List.mem_cons_self
    have e0 : rd (ofN (c :: l)) 0 = (c : Int) := rfl
    have hl : ((ofN (c :: l)).length : Int) = (l.length : Int) + 1 := by rw [ofN_length, List.length_cons]; omega
    rw [cardexref03_More.l0, hl, if_pos (by omega), if_pos (by omega), e0, into_f k r c (by omega) hr hc]
    simp only [Option.bind_some]
    rw [if_pos (by omega), show (ofN (c :: l)).drop 1 = ofN l from rfl, ih k _ (by omega) (fun d hd => hb d (List.mem_cons_of_mem _ hd)) (CM.into_lt hr hc), CM.feed]

theorem more_f (l : List Nat) (hb : ∀ c ∈ l, c < 256) (k s : Nat) (hk : l.length + 30 ≤ k) (hs : s < 4294967296) :
    cardexref03_More.f k s (ofN l) = some ((CM.more s l : Nat) : Int) := by
  unfold cardexref03_More.f
  rw [turned_f s hs]
  simp only [Option.bind_some]
  exact more_l0 l k _ hk hb (CM.xor_lt hs (by decide))

theorem of_f (l : List Nat) (hb : ∀ c ∈ l, c < 256) (k : Nat) (hk : l.length + 30 ≤ k) : cardexref03_Of.f k (ofN l) = some ((CM.of l : Nat) : Int) := by
  unfold cardexref03_Of.f
  have e := turned_f 4294967295 (by decide)
  rw [show ((4294967295 : Nat) : Int) = 4294967295 from rfl, show 4294967295 ^^^ CM.whole = 0 from Nat.xor_self _] at e
  rw [e]
  simp only [Option.bind_some]
  rw [more_f l hb k 0 hk (by omega)]; rfl

theorem join_f (k a b n : Nat) (hk : 10 * n + 1 ≤ k) (hn : n < 9223372036854775000) (ha : a < 4294967296) (hb : b < 4294967296) :
    cardexref03_Join.f k a b n = some ((CM.join a b n : Nat) : Int) := by
  unfold cardexref03_Join.f
  rw [on_f k a n hk hn ha]
  simp only [Option.bind_some]
  exact congrArg some (u32_xor_nat _ _ (CM.on_lt n ha) hb)
end Go.Proofs.Ytpanefmemabckaa.CrcRef
