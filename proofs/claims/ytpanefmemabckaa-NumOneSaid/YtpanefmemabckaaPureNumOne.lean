/- What NumOne asks of two numbers is true of every two numbers below 2^32. -/
import Derived.Test.YtpanefmemabckaaNumMx1
import Derived.Test.YtpanefmemabckaaNumPure
import Derived.Test.YtpanefmemabckaaNumLives
namespace Go.Proofs.Ytpanefmemabckaa.Pure
open Go.RowKit Go.Proofs.Ytpanefmemabckaa.NumM Go.Proofs.Ytpanefmemabckaa.Bytes Go.Proofs.Ytpanefmemabckaa.NumMath Go.Proofs.YtpanefmemabckaaW.PrintWords Go.Proofs.YtpanefmemabckaaW.PrintLast

theorem NumOne : cardexlaw01_NumOne.Pure := by
  intro a0 a1 h0 h1
  obtain ⟨n, rfl, hn⟩ := nat_u32 h0
  obtain ⟨m, rfl, hm⟩ := nat_u32 h1
  have ln := markP_length n hn
  have lm := markP_length m hm
  refine ⟨101, ?_⟩
  unfold cardexlaw01_NumOne.f
  rw [NumPure.mark_f _ n (by omega) hn, NumPure.mark_f _ m (by omega) hm]
  simp only [Option.bind_some]
  rw [ofN_length, ofN_length, if_neg (by omega), if_neg (by omega), decide_eq_false (by omega), cardexlaw01_NumOne.j0, if_neg (by decide), ofN_length, ofN_length]
  by_cases hle : (markP n).length ≤ (markP m).length
  · rw [if_pos (by omega), if_pos (by omega), show (((markP n).length : Int)).toNat = (markP n).length from by omega, ofN_take, NumPure.same_f _ _ (markP_lt n) (fun c hc => markP_lt m c (List.mem_of_mem_take hc))]
    simp only [Option.bind_some]
    have key : decide (markP n = (markP m).take (markP n).length) = ((n : Int) == (m : Int)) := by
      by_cases h : n = m
      · subst h
        rw [List.take_length]
        simp
      · rw [decide_eq_false (fun h' => h (mark_prefix hn hm h')), beq_eq_false_iff_ne.mpr (by omega)]
    rw [key, if_neg (by simp), NumLives.lives _ (by omega)]; rfl
  · rw [if_neg (by omega), NumLives.lives _ (by omega)]; rfl
end Go.Proofs.Ytpanefmemabckaa.Pure
