/- What CrcOn asks of numbers is true of every four numbers below 2^32. -/
import Derived.Test.YtpanefmemabckaaCrcOnx1
import Derived.Test.YtpanefmemabckaaCrcPure
namespace Go.Proofs.Ytpanefmemabckaa.Pure
open Go.RowKit Go.Proofs.Ytpanefmemabckaa.CrcOn Go.Proofs.Ytpanefmemabckaa.CrcA Go.Proofs.Ytpanefmemabckaa.CrcPure Go.Proofs.YtpanefmemabckaaW.PrintWords Go.Proofs.YtpanefmemabckaaW.PrintLast

theorem CrcOn_l0 (a i : Nat) (ha : a < 4294967296) (hi : i < 1073741824) (d : Nat) : ∀ (k j : Nat), d + i + 200 < k → j + d = i % 100 →
    cardexlaw03_CrcOn.l0 k a i ((CM.on a j : Nat) : Int) j = some true := by
  have e0 : Int.tmod (i : Int) 100 = ((i % 100 : Nat) : Int) := rfl
  induction d with
  | zero =>
    intro k j hk hj
    obtain ⟨k, rfl⟩ : ∃ m, k = m + 1 := ⟨k - 1, by omega⟩
    simp only [cardexlaw03_CrcOn.l0, e0]
    rw [if_neg (by omega), on_f k a (i % 100) (by omega) (by omega) ha]
    simp only [Option.bind_some]
    rw [show j = i % 100 from by omega, if_pos rfl]; rfl
  | succ d ih =>
    intro k j hk hj
    obtain ⟨k, rfl⟩ : ∃ m, k = m + 1 := ⟨k - 1, by omega⟩
    simp only [cardexlaw03_CrcOn.l0, e0]
    rw [if_pos (by omega), show (0 : Int) = ((0 : Nat) : Int) from rfl, into_f _ 0 (CM.on_lt j ha) (by omega)]
    simp only [Option.bind_some]
    rw [show wrap64 ((j : Int) + 1) = ((j + 1 : Nat) : Int) from by unfold wrap64; omega, CM.into_def, Nat.xor_zero, CM.on_add]
    exact ih k (j + 1) (by omega) (by omega)

theorem CrcOn : cardexlaw03_CrcOn.Pure := by
  intro a0 a1 a2 a3 h0 h1 h2 h3
  have nat : ∀ x : Int, (Lit.int .u32 x).wf = true → ∃ n : Nat, x = n ∧ n < 4294967296 := by
    intro x h
    have : 0 ≤ x ∧ x < 4294967296 := by
      simp [Lit.wf, IntKind.min, IntKind.max, IntKind.bits, IntKind.signed] at h
      omega
    obtain ⟨n, rfl⟩ := Int.eq_ofNat_of_zero_le this.1
    exact ⟨n, rfl, by omega⟩
  obtain ⟨a, rfl, ha⟩ := nat a0 h0
  obtain ⟨b, rfl, hb⟩ := nat a1 h1
  obtain ⟨n, rfl, hn⟩ := nat a2 h2
  obtain ⟨m, rfl, hm⟩ := nat a3 h3
  clear h0 h1 h2 h3 nat
  obtain ⟨i, hi⟩ : ∃ i, i = n % 1073741824 := ⟨_, rfl⟩
  obtain ⟨k, hk⟩ : ∃ k, k = m % 1073741824 := ⟨_, rfl⟩
  have ei : wrap64 (Int.tmod (n : Int) 1073741824) = (i : Int) := by
    rw [show Int.tmod (n : Int) 1073741824 = ((n % 1073741824 : Nat) : Int) from rfl, hi]
    unfold wrap64; omega
  have ek : wrap64 (Int.tmod (m : Int) 1073741824) = (k : Int) := by
    rw [show Int.tmod (m : Int) 1073741824 = ((m % 1073741824 : Nat) : Int) from rfl, hk]
    unfold wrap64; omega
  have hi' : i < 1073741824 := by omega
  have hk' : k < 1073741824 := by omega
  clear hi hk
  have es : wrap64 ((i : Int) + (k : Int)) = ((i + k : Nat) : Int) := by unfold wrap64; omega
  have en : wrap64 (-(k : Int)) ≤ 0 := by unfold wrap64; omega
  have ex : ∀ x y : Nat, x < 4294967296 → y < 4294967296 → Go.bits .xor .u32 (x : Int) (y : Int) = ((x ^^^ y : Nat) : Int) := u32_xor_nat
  refine ⟨i + k + 1000, ?_⟩
  unfold cardexlaw03_CrcOn.f
  rw [ei, ek, es, ex a b ha hb, on_f _ a i (by omega) (by omega) ha]
  simp only [Option.bind_some]
  rw [on_f _ _ k (by omega) (by omega) (CM.on_lt i ha), on_f _ a (i + k) (by omega) (by omega) ha, on_f _ b i (by omega) (by omega) hb, on_f _ _ i (by omega) (by omega) (CM.xor_lt ha hb), on_neg _ a _ (by omega) en]
  simp only [Option.bind_some]
  rw [ex _ _ (CM.on_lt i ha) (CM.on_lt i hb), CM.on_add, if_pos rfl, ← CM.on_xor, if_pos rfl]
  obtain ⟨q, hq⟩ : ∃ q, i + k + 1000 = q + 1 := ⟨i + k + 999, by omega⟩
  rw [hq]
  simp only [cardexlaw03_CrcOn.j0]
  rw [if_neg (by simp)]
  have := CrcOn_l0 a i ha hi' (i % 100) q 0 (by omega) (by omega)
  rw [CM.on_zero] at this
  exact this

end Go.Proofs.Ytpanefmemabckaa.Pure
