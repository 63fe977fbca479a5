/- What NumMarks asks of a number, a list of bytes and a place is true of all of them. -/
import Derived.Test.YtpanefmemabckaaNumMx1
import Derived.Test.YtpanefmemabckaaNumRef
import Derived.Test.YtpanefmemabckaaNumLives
namespace Go.Proofs.Ytpanefmemabckaa.Pure
open Go.RowKit Go.Proofs.Ytpanefmemabckaa.NumM Go.Proofs.Ytpanefmemabckaa.Bytes Go.Proofs.Ytpanefmemabckaa.NumMath Go.Proofs.YtpanefmemabckaaW.PrintWords Go.Proofs.YtpanefmemabckaaW.PrintLast

theorem NumMarks : cardexlaw01_NumMarks.Pure := by
  intro a0 l1 a2 h0 hm1 hs1 hw1 h2
  obtain ⟨n, rfl, hn⟩ := nat_u32 h0
  obtain ⟨l, rfl, hl⟩ := bytes_of hw1
  rw [ofN_length] at hs1
  have hs : l.length ≤ 140737488351232 := by omega
  refine ⟨2 * l.length + 100, ?_⟩
  unfold cardexlaw01_NumMarks.f
  rw [NumPure.getMark_f l hl hs a2 _ (by omega), NumRef.getMark_f l hl hs a2 _ (by omega), NumPure.mark_f _ n (by omega) hn, NumRef.mark_f _ n (by omega) hn]
  simp only [Option.bind_some]
  rw [NumPure.same_f _ _ (markP_lt n) (markP_lt n)]
  simp [NumLives.lives _ (show 40 ≤ 2 * l.length + 100 by omega)]
end Go.Proofs.Ytpanefmemabckaa.Pure
