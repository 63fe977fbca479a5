/- CrcJoins returns true at every row of pieces that are together not too long. -/
import Derived.Test.YtpanefmemabckaaPureCrcJoins
import Derived.Test.YtpanefmemabckaaBytes
namespace Go.Proofs.Ytpanefmemabckaa.CrcJoins
open Go.RowKit Go.Proofs.Ytpanefmemabckaa.CrcJ Go.Proofs.Ytpanefmemabckaa.CrcA Go.Proofs.Ytpanefmemabckaa.CrcPure Go.Proofs.YtpanefmemabckaaW.PrintWords Go.Proofs.YtpanefmemabckaaW.PrintLast

theorem rows_of : ∀ (L : List (List Int)), (∀ l ∈ L, ∀ x ∈ l, (Lit.int .u8 x).wf = true) → ∃ M : List (List Nat), L = M.map ofN ∧ ∀ p ∈ M, ∀ c ∈ p, c < 256
  | [], _ => ⟨[], rfl, by simp⟩
  | l :: L, h => by
    obtain ⟨M, e, hM⟩ := rows_of L fun x hx => h x (List.mem_cons_of_mem _ hx)
    obtain ⟨m, em, hm⟩ := Bytes.bytes_of (h l List.mem_cons_self)
    have em' : l = ofN m := em
    refine ⟨m :: M, by rw [e, em']; rfl, fun p hp => ?_⟩
    rcases List.mem_cons.1 hp with rfl | hp
    · exact hm
    · exact hM p hp

theorem walk (A : Option Addr) (L : List (List Int)) (c : Nat) (w : World) (hr : Kd.C (Kd.slice 5 (Kd.int .u8)) w A L.length L) (hc : L.length ≤ c) (hw : ∀ l ∈ L, ∀ x ∈ l, (Lit.int .u8 x).wf = true)
    (hb : (L.map List.length).sum + L.length ≤ 1048576) :
    Calls Try.prog 6 #[.slice A L.length c] w fun e w' => e = .returned (.bool true) ∧ Below w.heap.size w w' := by
  obtain ⟨M, rfl, hM⟩ := rows_of L hw
  have e : ((M.map ofN).map List.length).sum = M.flatten.length := by
    rw [List.length_flatten, List.map_map]
    congr 1
    apply List.map_congr_left
    intro l _
    exact ofN_length l
  have e2 : (M.map ofN).length = M.length := List.length_map _
  exact cardexlaw03_CrcJoins.calls (M.flatten.length + 200) A c (M.map ofN) true w hr hc (PureJ.joins M hM (by omega) (by omega))
end Go.Proofs.Ytpanefmemabckaa.CrcJoins
