/- How a law's argument that is four bytes by value reads. -/
import Derived.Test.YtpanefmemabckaaRead
import Derived.Lib.SmallJoins
namespace Go.Proofs.Ytpanefmemabckaa.Read
open Go.ChangeShapes Go.WideShapes Go.ChangeAt Go.RowKit Go.Joins Go.Proofs.YtpanefmemabckaaW.PrintWords Go.Proofs.YtpanefmemabckaaW.PrintLast
section
variable {H : Type} {enc : TypeId × Value → H} {W : World}

set_option maxRecDepth 100000 in
theorem okWide_array {t e : TypeId} {n : Nat} {r : Reach} {base : Nat} {v : Value} (ht : Try.prog.underlying t = some (.array n e)) (h : Value.okWide Try.prog W r base t v) : ∃ cs, v = .agg cs ∧ cs.size = Try.prog.cellsOf t := by
  simp only [Value.okWide, ht] at h
  obtain ⟨cs, h1, h2, _⟩ := h
  exact ⟨cs, h1, h2⟩

set_option maxRecDepth 100000 in
theorem four {t e : TypeId} {v : Value} {d : DataW H} {p : List MemPlace} {k : IntKind} (ht : Try.prog.underlying t = some (.array 4 e)) (he : Try.prog.underlying e = some (.int k)) (hc : Try.prog.cellsOf t = 4) (hce : Try.prog.cellsOf e = 1)
    {base : Nat} (hok : Value.okWide Try.prog W .any base t v) (h : DataW.Trod enc Try.prog W 0 (fun _ => true) true t v d p) :
    ∃ x0 x1 x2 x3, v = .agg #[.int k x0, .int k x1, .int k x2, .int k x3] ∧ (Lit.int k x0).wf = true ∧ (Lit.int k x1).wf = true ∧ (Lit.int k x2).wf = true ∧ (Lit.int k x3).wf = true := by
  obtain ⟨cs, rfl, hsz⟩ := okWide_array ht hok
  obtain ⟨c0, c1, c2, c3, rfl⟩ := array4 (hsz.trans hc)
  obtain ⟨fuel, hf⟩ := h
  obtain ⟨xs, m, _, hx, _, hxs, hel⟩ := DataW.trod_array ht hf
  have g : ∀ i, i < 4 → ∃ y, DataW.trod enc Try.prog W 0 (fun _ => true) true m e (([c0, c1, c2, c3].drop (i * 1)).take 1) = some y := by
    intro i hi
    have := hel i hi
    rw [hce] at this
    exact ⟨xs[i], this.trans (List.getElem?_eq_getElem (by omega))⟩
  obtain ⟨_, g0⟩ := g 0 (by omega)
  obtain ⟨_, g1⟩ := g 1 (by omega)
  obtain ⟨_, g2⟩ := g 2 (by omega)
  obtain ⟨_, g3⟩ := g 3 (by omega)
  obtain ⟨x0, e0, _, w0⟩ := DataW.trod_int he g0
  obtain ⟨x1, e1, _, w1⟩ := DataW.trod_int he g1
  obtain ⟨x2, e2, _, w2⟩ := DataW.trod_int he g2
  obtain ⟨x3, e3, _, w3⟩ := DataW.trod_int he g3
  simp at e0 e1 e2 e3
  subst e0; subst e1; subst e2; subst e3
  exact ⟨x0, x1, x2, x3, rfl, w0, w1, w2, w3⟩
end
end Go.Proofs.Ytpanefmemabckaa.Read
