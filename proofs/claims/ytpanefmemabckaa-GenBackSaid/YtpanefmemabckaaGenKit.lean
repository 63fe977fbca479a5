/- A row without elements, of a block of its own. -/
import Derived.Test.YtpanefmemabckaaWWords
namespace Go.Proofs.Ytpanefmemabckaa.GenKit
open Go.RowKit Go.Proofs.YtpanefmemabckaaW.PrintWords

theorem R_empty {α : Type} (d : Kd α) (e base : Nat) (W : World) (hb : base ≤ W.heap.size) : d.R e (W.alloc (.cells #[] e)) base (fun _ => True) (.slice (some ⟨W.heap.size, 0, none⟩) 0 0) [] := by
  refine ⟨fun k hk => trivial, [], ?_, ?_⟩
  · have h2 := World.ownsRow_lit (base := base) (e := e) (size := d.sz) W #[] 0 hb (by decide) (by simp)
    simpa using h2
  · exact ⟨by simp, by simp⟩
end Go.Proofs.Ytpanefmemabckaa.GenKit
