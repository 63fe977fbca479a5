/- How a law's argument that is a row of steps (three cells each) reads. -/
import Derived.Test.YtpanefmemabckaaRead
import Derived.ChangeArms
import Derived.Lib.SmallJoins
namespace Go.Proofs.Ytpanefmemabckaa.Read
open Go.ChangeShapes Go.WideShapes Go.ChangeAt Go.RowKit Go.Joins Go.Proofs.YtpanefmemabckaaW.PrintWords Go.Proofs.YtpanefmemabckaaW.PrintLast
section
variable {H : Type} {enc : TypeId × Value → H} {W : World}

theorem cells_three {a : Addr} {cs : List Value} (h : W.cells? 0 a 3 = some cs) : ∃ c0 c1 c2, cs = [c0, c1, c2] ∧ W.cell? a = some c0 ∧ W.cell? ⟨a.block, a.off + 1, none⟩ = some c1 ∧ W.cell? ⟨a.block, a.off + 2, none⟩ = some c2 := by
  have e0 : a.add 0 = a := by simp [Addr.add]
  have e1 : a.add 1 = ⟨a.block, a.off + 1, none⟩ := by simp [Addr.add]
  have e2 : a.add 2 = ⟨a.block, a.off + 2, none⟩ := by simp [Addr.add]
  unfold World.cells? at h
  split at h
  · simp only [List.range_succ, List.range_zero, List.nil_append, List.cons_append, List.mapM_cons, List.mapM_nil, e0, e1, e2] at h
    cases h0 : W.cell? a with
    | none => simp [h0] at h
    | some c0 =>
      cases h1 : W.cell? ⟨a.block, a.off + 1, none⟩ with
      | none => simp [h0, h1] at h
      | some c1 =>
        cases h2 : W.cell? ⟨a.block, a.off + 2, none⟩ with
        | none => simp [h0, h1, h2] at h
        | some c2 =>
          simp [h0, h1, h2] at h
          exact ⟨c0, c1, c2, h.symm, rfl, rfl, rfl⟩
  · cases h

set_option maxRecDepth 100000 in
theorem steps {t e : TypeId} {f0 f1 f2 : Field} {v : Value} {d : DataW H} {p : List MemPlace} (ht : Try.prog.underlying t = some (.slice e)) (he : Try.prog.underlying e = some (.struct #[f0, f1, f2])) (hce : Try.prog.cellsOf e = 3)
    (h0 : Try.prog.underlying f0.type = some (.int .u8)) (h1 : Try.prog.underlying f1.type = some (.int .u32)) (h2 : Try.prog.underlying f2.type = some .bool)
    (ho : f0.offset = 0 ∧ f1.offset = 1 ∧ f2.offset = 2) (hc : Try.prog.cellsOf f0.type = 1 ∧ Try.prog.cellsOf f1.type = 1 ∧ Try.prog.cellsOf f2.type = 1)
    {base : Nat} (hok : Value.okWide Try.prog W .any base t v) (h : DataW.Trod enc Try.prog W 0 (fun _ => true) true t v d p) :
    ∃ (A : Option Addr) (n c : Nat), v = .slice A n c ∧ ∀ i : Nat, i < n → ∃ ad ph p sw, A = some ad ∧ W.cell? (ad.add (i * 3)) = some (.int .u8 ph) ∧ W.cell? ⟨(ad.add (i * 3)).block, (ad.add (i * 3)).off + 1, none⟩ = some (.int .u32 p) ∧ W.cell? ⟨(ad.add (i * 3)).block, (ad.add (i * 3)).off + 2, none⟩ = some (.bool sw) := by
  obtain ⟨a, len, cap, rfl⟩ := okWide_slice ht hok
  refine ⟨a, len, cap, rfl, fun i hi => ?_⟩
  obtain ⟨fuel, hd⟩ := h
  rcases DataW.trod_slice ht hd with ⟨hcs, hx⟩ | ⟨ad, l, c, elems, rest, n, _, hcs, hx, _, hl, hm, hlen, hel, _⟩
  · simp [Value.cells] at hcs
    omega
  · simp [Value.cells] at hcs
    obtain ⟨rfl, rfl, rfl⟩ := hcs
    have hE := hel i hi
    rw [hce, List.getElem?_eq_getElem (by omega)] at hE
    simp only [Option.bind_eq_some_iff] at hE
    obtain ⟨cs, hc1, hy⟩ := hE
    obtain ⟨c0, c1, c2, rfl, k0, k1, k2⟩ := cells_three hc1
    obtain ⟨xs, m, _, _, _, hxs, hf⟩ := DataW.trod_struct he hy
    have g : ∀ (j : Nat) (f : Field), #[f0, f1, f2][j]? = some f → j < 3 → ∃ y, DataW.trod enc Try.prog W 0 (fun _ => true) true m f.type (([c0, c1, c2].drop f.offset).take (Try.prog.cellsOf f.type)) = some y := by
      intro j f hj hj3
      have := hf j f hj
      exact ⟨xs[j]'(by simp at hxs; omega), this.trans (List.getElem?_eq_getElem (by simp at hxs; omega))⟩
    obtain ⟨_, g0⟩ := g 0 f0 rfl (by omega)
    obtain ⟨_, g1⟩ := g 1 f1 rfl (by omega)
    obtain ⟨_, g2⟩ := g 2 f2 rfl (by omega)
    rw [ho.1, hc.1] at g0
    rw [ho.2.1, hc.2.1] at g1
    rw [ho.2.2, hc.2.2] at g2
    obtain ⟨x0, e0, _, _⟩ := DataW.trod_int h0 g0
    obtain ⟨x1, e1, _, _⟩ := DataW.trod_int h1 g1
    obtain ⟨x2, e2, _⟩ := DataW.trod_bool h2 g2
    simp at e0 e1 e2
    subst e0; subst e1; subst e2
    exact ⟨ad, x0, x1, x2, rfl, k0, k1, k2⟩
end
end Go.Proofs.Ytpanefmemabckaa.Read
