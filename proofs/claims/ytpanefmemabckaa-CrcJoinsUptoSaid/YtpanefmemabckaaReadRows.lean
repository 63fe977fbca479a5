/- How a law's argument that is a row of rows of integers reads, with its bulk. -/
import Derived.Test.YtpanefmemabckaaRead
import Derived.ChangeArms
namespace Go.Proofs.Ytpanefmemabckaa.Read
open Go.ChangeShapes Go.WideShapes Go.ChangeAt Go.RowKit Go.Proofs.YtpanefmemabckaaW.PrintWords Go.Proofs.YtpanefmemabckaaW.PrintLast

theorem pick {α : Type} (n : Nat) (Q : Nat → α → Prop) (h : ∀ i, i < n → ∃ x, Q i x) : ∃ L : List α, L.length = n ∧ ∀ i x, L[i]? = some x → Q i x := by
  induction n with
  | zero => exact ⟨[], rfl, fun i x hx => by simp at hx⟩
  | succ n ih =>
    obtain ⟨L, hL, hQ⟩ := ih fun i hi => h i (by omega)
    obtain ⟨x, hx⟩ := h n (by omega)
    refine ⟨L ++ [x], by simp [hL], fun i y hy => ?_⟩
    rcases Nat.lt_or_ge i n with hlt | hge
    · rw [List.getElem?_append_left (by omega)] at hy
      exact hQ i y hy
    · rw [List.getElem?_append_right (by omega), hL] at hy
      have : i - n = 0 := by
        rcases Nat.eq_zero_or_pos (i - n) with h0 | h0
        · exact h0
        · rw [List.getElem?_eq_none (by simp; omega)] at hy; cases hy
      rw [this] at hy
      have e : i = n := by omega
      subst e
      simp only [List.getElem?_cons_zero, Option.some.injEq] at hy
      subst hy; exact hx

theorem sum_le {α H : Type} (f : α → Nat) : ∀ (L : List α) (ds : List (DataW H)), L.length = ds.length → (∀ (i : Nat) x d, L[i]? = some x → ds[i]? = some d → f x + 1 ≤ Rows.uptoBulk d) →
    (L.map f).sum + L.length ≤ Rows.uptoBulkAll ds
  | [], [], _, _ => by simp [Rows.uptoBulkAll]
  | [], _ :: _, h, _ => by simp at h
  | _ :: _, [], h, _ => by simp at h
  | x :: L, d :: ds, h, hp => by
    have h1 := hp 0 x d rfl rfl
    have h2 := sum_le f L ds (by simpa using h) fun i y e hy he => hp (i + 1) y e (by simpa using hy) (by simpa using he)
    simp only [Rows.uptoBulkAll, List.map_cons, List.sum_cons, List.length_cons]
    omega

section
variable {H : Type} {enc : TypeId × Value → H} {W : World}

theorem cells_one {a : Addr} {c1 : List Value} (h : W.cells? 0 a 1 = some c1) : ∃ c, c1 = [c] ∧ W.cell? a = some c := by
  have e0 : a.add 0 = a := by simp [Addr.add]
  unfold World.cells? at h
  split at h
  · simp only [List.range_succ, List.range_zero, List.nil_append, List.mapM_cons, List.mapM_nil, e0] at h
    cases hcc : W.cell? a with
    | none => simp [hcc] at h
    | some c => simp [hcc] at h; exact ⟨c, h.symm, rfl⟩
  · cases h

set_option maxRecDepth 100000 in
/-- a row of integers, from its cells -/
theorem ints_cells {t e : TypeId} {k : IntKind} {fuel : Nat} {cs : List Value} {x : DataW H × List MemPlace} (ht : Try.prog.underlying t = some (.slice e)) (he : Try.prog.underlying e = some (.int k)) (hc : Try.prog.cellsOf e = 1)
    (hf : DataW.trod enc Try.prog W 0 (fun _ => true) true fuel t cs = some x) :
    ∃ (A : Option Addr) (l : List Int) (c : Nat), cs = [.slice A l.length c] ∧ l.length ≤ c ∧ Kd.C (Kd.int k) W A l.length l ∧ (∀ x ∈ l, (Lit.int k x).wf = true) ∧ l.length + 1 ≤ Rows.uptoBulk x.1 := by
  rcases open_ints ht he hc hf with ⟨hcs, _⟩ | ⟨a, l, c, zs, hcs, _, hl, hm, hz, hx, hcell, hwz⟩
  · obtain ⟨l0, e0, hr, _, hw, hc0⟩ := ReadsInt.ofRowC (w := W) (k := k) (a := none) (len := 0) (cap := 0) (zs := []) (.inl ⟨rfl, rfl, rfl, rfl⟩)
    have : l0 = [] := List.eq_nil_of_length_eq_zero e0.symm
    subst this
    exact ⟨none, [], 0, hcs, hc0, Kd.C_of_reads (d := (0 : Int)) (h1 := fun _ => rfl) hr, hw, one_le _⟩
  · have hz' : zs.length = c := by simpa using hz
    obtain ⟨l0, e0, hr, _, hw, hc0⟩ := ReadsInt.ofRowC (w := W) (k := k) (a := some a) (len := l) (cap := c) (zs := zs) (.inr ⟨a, rfl, hl, hm, hz', hcell, hwz⟩)
    subst e0
    refine ⟨some a, l0, c, hcs, hc0, Kd.C_of_reads (d := (0 : Int)) (h1 := fun _ => rfl) hr, hw, ?_⟩
    rw [hx]
    simp only [Rows.uptoBulk]
    have := length_le (lits (H := H) k (zs.take l0.length))
    have e : (lits (H := H) k (zs.take l0.length)).length = l0.length := by
      simp only [lits, List.length_map, List.length_take]; omega
    omega

set_option maxRecDepth 100000 in
/-- a row of rows of integers -/
theorem rows {t e f : TypeId} {k : IntKind} {v : Value} {d : DataW H} {p : List MemPlace} (ht : Try.prog.underlying t = some (.slice e)) (he : Try.prog.underlying e = some (.slice f)) (hf : Try.prog.underlying f = some (.int k))
    (hce : Try.prog.cellsOf e = 1) (hcf : Try.prog.cellsOf f = 1) (h : DataW.Trod enc Try.prog W 0 (fun _ => true) true t v d p) {base : Nat} (hok : Value.okWide Try.prog W .any base t v) (g : Nat) :
    ∃ (A : Option Addr) (L : List (List Int)) (c : Nat), v = .slice A L.length c ∧ L.length ≤ c ∧ Kd.C (Kd.slice g (Kd.int k)) W A L.length L ∧ (∀ l ∈ L, ∀ x ∈ l, (Lit.int k x).wf = true) ∧ (L.map List.length).sum + L.length + 1 ≤ Rows.uptoBulk d := by
  obtain ⟨a, len, cap, rfl⟩ := okWide_slice ht hok
  obtain ⟨fuel, hd⟩ := h
  rcases DataW.trod_slice ht hd with ⟨hcs, hx⟩ | ⟨ad, l, c, elems, rest, n, _, hcs, hx, _, hl, hm, hlen, hel, _⟩
  · simp [Value.cells] at hcs
    obtain ⟨rfl, rfl, rfl⟩ := hcs
    exact ⟨none, [], 0, rfl, Nat.le_refl _, Kd.C_nil _ _, by simp, by simpa using one_le d⟩
  · simp [Value.cells] at hcs
    obtain ⟨rfl, rfl, rfl⟩ := hcs
    obtain ⟨L, hL, hQ⟩ := pick len (fun i (x : List Int) => ∃ A c y, elems[i]? = some y ∧ W.cell? (ad.add i) = some (.slice A x.length c) ∧ x.length ≤ c ∧ Kd.C (Kd.int k) W A x.length x ∧ (∀ z ∈ x, (Lit.int k z).wf = true) ∧ x.length + 1 ≤ Rows.uptoBulk y.1) (by
      intro i hi
      have hE := hel i hi
      rw [hce, Nat.mul_one, List.getElem?_eq_getElem (by omega)] at hE
      simp only [Option.bind_eq_some_iff] at hE
      obtain ⟨c1, hc1, hy1⟩ := hE
      obtain ⟨v1, rfl, hcell⟩ := cells_one hc1
      obtain ⟨A1, l1, c2, e1, h1, h2, h3, h4⟩ := ints_cells he hf hcf hy1
      obtain rfl := List.singleton_inj.mp e1
      exact ⟨l1, A1, c2, _, List.getElem?_eq_getElem (by omega), hcell, h1, h2, h3, h4⟩)
    subst hL
    refine ⟨some ad, L, cap, rfl, hl, ⟨rfl, by unfold maxLen at hm; omega, fun _ => ⟨ad, rfl, fun j p hj => ?_⟩⟩, fun l hl => ?_, ?_⟩
    · obtain ⟨A, c, y, _, hcell, h1, h2, _⟩ := hQ j p hj
      refine ⟨[.slice A p.length c], rfl, ⟨A, c, rfl, h1, h2⟩, fun i u hu => ?_⟩
      cases i with
      | zero =>
        have : u = .slice A p.length c := by simpa using hu.symm
        subst this
        show W.cell? (ad.add (j * 1 + 0)) = _
        rw [Nat.mul_one, Nat.add_zero]; exact hcell
      | succ i => rw [List.getElem?_eq_none (by simp)] at hu; cases hu
    · obtain ⟨j, hj⟩ := List.mem_iff_getElem?.1 hl
      obtain ⟨_, _, _, _, _, _, _, h3, _⟩ := hQ j l hj
      exact h3
    · simp only [Prod.mk.injEq] at hx
      rw [hx.1]
      simp only [Rows.uptoBulk]
      have := sum_le List.length L (elems.map (·.1)) (by simp [hlen]) (by
        intro i x dd hxi hdi
        obtain ⟨_, _, y, hy, _, _, _, _, h4⟩ := hQ i x hxi
        rw [List.getElem?_map, hy] at hdi
        simp only [Option.map_some, Option.some.injEq] at hdi
        subst hdi; exact h4)
      omega
end
end Go.Proofs.Ytpanefmemabckaa.Read
