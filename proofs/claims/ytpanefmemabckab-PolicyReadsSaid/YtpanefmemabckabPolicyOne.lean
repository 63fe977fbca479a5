/- PolicyOne returns true at every list of bytes: the walk. -/
import Derived.Test.YtpanefmemabckabPolicyPure
import Derived.Test.YtpanefmemabckabPolicyLives
import Derived.Test.YtpanefmemabckabWide
namespace Go.Proofs.Ytpanefmemabckab.PolicyOne
open Go.RowKit Go.Proofs.Ytpanefmemabckab.NumA Go.Proofs.Ytpanefmemabckab.NumMath Go.Proofs.Ytpanefmemabckab.Bytes Go.Proofs.Ytpanefmemabckab.PolicyPure Go.Proofs.YtpanefmemabckabW.PrintWords Go.Proofs.YtpanefmemabckabW.PrintLast
open Go.Proofs.Ytpanefmemabckab.PolicyRead (readV read_calls)
set_option linter.unusedSimpArgs false

theorem bytes_calls (k t o : Nat) (b : Bool) (w : World) (hk : k < 4294967296) (ht : t < 4294967296) (ho : o < 4294967296) :
    Calls Try.prog 20 #[.agg #[.int .u32 k, .int .u32 t, .int .u32 o, .bool b]] w fun e w' => ∃ v, e = .returned v ∧
      Kd.R (Kd.int .u8) 5 w' w.heap.size (fun _ => True) v (ofN (bytesP k t o b)) ∧ Below w.heap.size w w' := PolicyBytes.bytes_calls k t o b w hk ht ho

set_option maxRecDepth 100000 in
set_option maxHeartbeats 4000000 in
theorem walk (A2 : Option Addr) (l2 : List Int) (c2 : Nat) (w : World)
    (hr2 : Kd.C (Kd.int .u8) w A2 l2.length l2) (hc2 : l2.length ≤ c2) (hw2 : ∀ x ∈ l2, (Lit.int .u8 x).wf = true) (hs2 : l2.length * 1 ≤ 140737488351232) :
    Calls Try.prog 5 #[.slice A2 l2.length c2] w fun e w' => e = .returned (.bool true) ∧ Below w.heap.size w w' := by
  obtain ⟨l, rfl, hb⟩ := bytes_of hw2
  have hs : l.length ≤ 140737488351232 := by rw [ofN_length] at hs2; omega
  have HR := Aside0.mk hr2
  have HC := Aside0.mk hc2
  have HS := Aside0.mk hs
  have HBY := Aside0.mk hb
  have SM := Aside0.mk (NumPure.same_f l l hb hb)
  have WY := readV_ways l hb
  clear hr2 hc2 hs hb hw2 hs2
  go_enter Try.func5, Try.ntmps5
  go_wp2_with fail
  refine (read_calls A2 c2 l _ HR.out HC.out HBY.out HS.out).mono ?_
  rintro e w1 ⟨rfl, hb1⟩
  have B1 := Aside0.mk hb1
  clear hb1
  rcases WY with hv | hv | ⟨k, t, o, x, hk, ht, ho, hv, hx⟩
  · rw [hv]
    clear hv
    have B2 := Aside0.mk (B1.out.alloc B1.out.size (.cells #[.int .u32 0, .int .u32 0, .int .u32 0, .bool false] 40))
    clear B1
    go_wp2_with fail
    refine (PolicyLives.lives_calls _).mono ?_
    rintro e w2 ⟨rfl, hb2⟩
    have B3 := Aside0.mk (below_then B2.out B2.out.size hb2)
    clear hb2 B2
    go_wp2_with fail
    go_ret
    exact ⟨rfl, B3.out⟩
  · rw [hv]
    clear hv
    have B2 := Aside0.mk (B1.out.alloc B1.out.size (.cells #[.int .u32 0, .int .u32 0, .int .u32 0, .bool false] 40))
    clear B1
    go_wp2_with fail
    refine (PolicyLives.lives_calls _).mono ?_
    rintro e w2 ⟨rfl, hb2⟩
    have B3 := Aside0.mk (below_then B2.out B2.out.size hb2)
    clear hb2 B2
    go_wp2_with fail
    go_ret
    exact ⟨rfl, B3.out⟩
  · rw [hv]
    have B2 := Aside0.mk (B1.out.alloc B1.out.size (.cells #[.int .u32 k, .int .u32 t, .int .u32 o, .bool x] 40))
    have HK := Aside0.mk hk
    have HT := Aside0.mk ht
    have HO := Aside0.mk ho
    have HX := Aside0.mk hx
    clear B1 hv hk ht ho hx
    go_wp2_with fail
    refine (bytes_calls k t o x _ HK.out HT.out HO.out).mono ?_
    rintro e w2 ⟨v2, rfl, ho2, hb2⟩
    rw [HX.out] at ho2
    obtain ⟨A3, c3, rfl⟩ := Kd.R_slice ho2
    have O2 := Aside0.mk ho2
    have B3 := Aside0.mk (below_then B2.out B2.out.size hb2)
    clear hb2 B2 ho2
    go_wp2_with fail
    refine (cardexref00_Same.calls _ _ (ofN l) _ _ (ofN l) true _ (Kd.R_reads' O2.out).2.2 (Kd.R_reads' O2.out).2.1 (Kd.C_below HR.out B3.out) HC.out (by rw [SM.out]; simp)).mono ?_
    rintro e6 w6 ⟨rfl, hd6⟩
    have B6 := Aside0.mk (below_then B3.out B3.out.size hd6.below)
    clear hd6 O2 B3
    go_wp2_with fail
    refine (PolicyLives.lives_calls _).mono ?_
    rintro e w7 ⟨rfl, hb7⟩
    have B7 := Aside0.mk (below_then B6.out B6.out.size hb7)
    clear hb7 B6
    go_wp2_with fail
    go_ret
    exact ⟨rfl, B7.out⟩
end Go.Proofs.Ytpanefmemabckab.PolicyOne
