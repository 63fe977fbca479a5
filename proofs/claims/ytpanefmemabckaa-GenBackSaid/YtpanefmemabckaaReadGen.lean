/- How a law's arguments that are a Gen, a view, a list of clients read. -/
import Derived.Test.YtpanefmemabckaaRead
import Derived.ChangeArms
import Derived.Lib.SmallJoins
import Derived.Test.YtpanefmemabckaaGenRep
import Derived.SizedLaws
namespace Go.Proofs.Ytpanefmemabckaa.ReadG
open Go.ChangeShapes Go.WideShapes Go.ChangeAt Go.RowKit Go.Joins Go.Proofs.YtpanefmemabckaaW.PrintWords Go.Proofs.YtpanefmemabckaaW.PrintLast
open Go.Proofs.Ytpanefmemabckaa.GenS Go.Proofs.Ytpanefmemabckaa.GenRep Go.Proofs.Ytpanefmemabckaa.GenPure
section
variable {H : Type} {enc : TypeId × Value → H} {W : World}

theorem pick {α : Type} (n : Nat) (Q : Nat → α → Prop) (h : ∀ i, i < n → ∃ x, Q i x) : ∃ L : List α, L.length = n ∧ ∀ i x, L[i]? = some x → Q i x := by
  induction n with
  | zero => exact ⟨[], rfl, fun i x hx => by simp at hx⟩
  | succ n ih =>
    obtain ⟨L, hL, hQ⟩ := ih fun i hi => h i (by omega)
    obtain ⟨x, hx⟩ := h n (by omega)
    refine ⟨L ++ [x], by simp [hL], fun i y hy => ?_⟩
    rcases Nat.lt_or_ge i n with hlt | hge
    · rw [List.getElem?_append_left (by omega)] at hy
      exact hQ i y hy
    · rw [List.getElem?_append_right (by omega), hL] at hy
      have : i - n = 0 := by
        rcases Nat.eq_zero_or_pos (i - n) with h0 | h0
        · exact h0
        · rw [List.getElem?_eq_none (by simp; omega)] at hy; cases hy
      rw [this] at hy
      have e : i = n := by omega
      subst e
      simp only [List.getElem?_cons_zero, Option.some.injEq] at hy
      subst hy; exact hx
theorem cells_three {a : Addr} {cs : List Value} (h : W.cells? 0 a 3 = some cs) : ∃ c0 c1 c2, cs = [c0, c1, c2] ∧ W.cell? a = some c0 ∧ W.cell? ⟨a.block, a.off + 1, none⟩ = some c1 ∧ W.cell? ⟨a.block, a.off + 2, none⟩ = some c2 := by
  have e0 : a.add 0 = a := by simp [Addr.add]
  have e1 : a.add 1 = ⟨a.block, a.off + 1, none⟩ := by simp [Addr.add]
  have e2 : a.add 2 = ⟨a.block, a.off + 2, none⟩ := by simp [Addr.add]
  unfold World.cells? at h
  split at h
  · simp only [List.range_succ, List.range_zero, List.nil_append, List.cons_append, List.mapM_cons, List.mapM_nil, e0, e1, e2] at h
    cases h0 : W.cell? a with
    | none => simp [h0] at h
    | some c0 =>
      cases h1 : W.cell? ⟨a.block, a.off + 1, none⟩ with
      | none => simp [h0, h1] at h
      | some c1 =>
        cases h2 : W.cell? ⟨a.block, a.off + 2, none⟩ with
        | none => simp [h0, h1, h2] at h
        | some c2 =>
          simp [h0, h1, h2] at h
          exact ⟨c0, c1, c2, h.symm, rfl, rfl, rfl⟩
  · cases h
set_option maxRecDepth 100000 in
theorem ints_cells {t e : TypeId} {k : IntKind} {fuel : Nat} {cs : List Value} {x : DataW H × List MemPlace} (ht : Try.prog.underlying t = some (.slice e)) (he : Try.prog.underlying e = some (.int k)) (hc : Try.prog.cellsOf e = 1)
    (hf : DataW.trod enc Try.prog W 0 (fun _ => true) true fuel t cs = some x) :
    ∃ (A : Option Addr) (l : List Int) (c : Nat), cs = [.slice A l.length c] ∧ l.length ≤ c ∧ Kd.C (Kd.int k) W A l.length l ∧ (∀ x ∈ l, (Lit.int k x).wf = true) := by
  rcases open_ints ht he hc hf with ⟨hcs, _⟩ | ⟨a, l, c, zs, hcs, _, hl, hm, hz, hx, hcell, hwz⟩
  · obtain ⟨l0, e0, hr, _, hw, hc0⟩ := ReadsInt.ofRowC (w := W) (k := k) (a := none) (len := 0) (cap := 0) (zs := []) (.inl ⟨rfl, rfl, rfl, rfl⟩)
    have : l0 = [] := List.eq_nil_of_length_eq_zero e0.symm
    subst this
    exact ⟨none, [], 0, hcs, hc0, Kd.C_of_reads (d := (0 : Int)) (h1 := fun _ => rfl) hr, hw⟩
  · have hz' : zs.length = c := by simpa using hz
    obtain ⟨l0, e0, hr, _, hw, hc0⟩ := ReadsInt.ofRowC (w := W) (k := k) (a := some a) (len := l) (cap := c) (zs := zs) (.inr ⟨a, rfl, hl, hm, hz', hcell, hwz⟩)
    subst e0
    exact ⟨some a, l0, c, hcs, hc0, Kd.C_of_reads (d := (0 : Int)) (h1 := fun _ => rfl) hr, hw⟩
/-- what a datum's rows weigh, no more than a machine holds -/
def Wt (t : TypeId) (d : DataW H) : Prop := ∀ n ∈ d.weights Try.prog t, n ≤ 140737488351232
theorem wt_top {ts : List TypeId} {ds : List (DataW H)} (hsz : (DataW.weightsEach Try.prog ts ds).all (· ≤ reachBytes) = true) {j : Nat} {t : TypeId} {d : DataW H} (ht : ts[j]? = some t) (hd : ds[j]? = some d) : Wt t d := fun n hn => by
  have := List.all_eq_true.1 hsz _ (DataW.weights_mem_each ht hd n hn)
  have h : n ≤ reachBytes := by simpa using this
  exact h
theorem wt_agg {t : TypeId} {fs : Array Field} {parts : List (DataW H)} (hu : Try.prog.underlying t = some (.struct fs)) (h : Wt t (.agg parts)) {j : Nat} {f : Field} {x : DataW H} (hf : fs[j]? = some f) (hx : parts[j]? = some x) : Wt f.type x := fun n hn => by
  refine h n ?_
  have : n ∈ DataW.weightsEach Try.prog (fs.toList.map (·.type)) parts := DataW.weights_mem_each (by rw [List.getElem?_map, Array.getElem?_toList, hf]; rfl) hx n hn
  simpa [DataW.weights, hu] using this
theorem wt_slice {t e : TypeId} {elems rest : List (DataW H)} (hu : Try.prog.underlying t = some (.slice e)) (h : Wt t (.slice elems rest)) : elems.length * Try.prog.bytesOf e ≤ 140737488351232 := by
  have := h ((elems.length + rest.length) * Try.prog.bytesOf e) (by simp [DataW.weights, hu])
  exact Nat.le_trans (Nat.mul_le_mul_right _ (Nat.le_add_right _ _)) this
theorem cells_two {a : Addr} {cs : List Value} (h : W.cells? 0 a 2 = some cs) : ∃ c0 c1, cs = [c0, c1] ∧ W.cell? a = some c0 ∧ W.cell? ⟨a.block, a.off + 1, none⟩ = some c1 := by
  have e0 : a.add 0 = a := by simp [Addr.add]
  have e1 : a.add 1 = ⟨a.block, a.off + 1, none⟩ := by simp [Addr.add]
  unfold World.cells? at h
  split at h
  · simp only [List.range_succ, List.range_zero, List.nil_append, List.cons_append, List.mapM_cons, List.mapM_nil, e0, e1] at h
    cases h0 : W.cell? a with
    | none => simp [h0] at h
    | some c0 =>
      cases h1 : W.cell? ⟨a.block, a.off + 1, none⟩ with
      | none => simp [h0, h1] at h
      | some c1 =>
        simp [h0, h1] at h
        exact ⟨c0, c1, h.symm, rfl, rfl⟩
  · cases h

set_option maxRecDepth 100000 in
/-- a row of bytes -/
theorem row_bytes {t : TypeId} {fuel : Nat} {cs : List Value} {x : DataW H × List MemPlace} (ht : Try.prog.underlying t = some (.slice 5)) (hf : DataW.trod enc Try.prog W 0 (fun _ => true) true fuel t cs = some x) (hw : Wt t x.1) :
    ∃ (v : Value) (l : List Int), cs = [v] ∧ RowC kB W v l ∧ BytesOk l ∧ l.length ≤ 140737488351232 := by
  obtain ⟨A, l, c, hcs, hl, hc, hb⟩ := ints_cells ht Try.underlying5 (by kernel_rfl) hf
  refine ⟨_, l, hcs, ⟨A, c, rfl, hl, hc⟩, hb, ?_⟩
  rcases DataW.trod_slice ht hf with ⟨h1, _⟩ | ⟨a, len, cap, elems, rest, n, _, h1, hx, _, _, _, hlen, _⟩
  · rw [hcs] at h1
    simp at h1
    omega
  · rw [hcs] at h1
    simp at h1
    rw [hx] at hw
    have := wt_slice ht hw
    rw [show Try.prog.bytesOf 5 = 1 from by kernel_rfl, List.length_map] at this
    omega
theorem u32_of {x : Int} (h : (Lit.int .u32 x).wf = true) : 0 ≤ x ∧ x < 4294967296 := by obtain ⟨n, rfl, hn⟩ := Bytes.nat_u32 h; omega
theorem u64_of {x : Int} (h : (Lit.int .u64 x).wf = true) : 0 ≤ x ∧ x < 18446744073709551616 := by obtain ⟨n, rfl, hn⟩ := Bytes.nat_u64 h; omega
theorem u8_of {x : Int} (h : (Lit.int .u8 x).wf = true) : 0 ≤ x ∧ x < 256 := by obtain ⟨n, rfl, hn⟩ := Bytes.nat_u8 h; omega
set_option maxRecDepth 100000 in
/-- a view -/
theorem row_seen {t : TypeId} {fuel : Nat} {cs : List Value} {x : DataW H × List MemPlace} (ht : Try.prog.underlying t = some (.slice 111)) (hf : DataW.trod enc Try.prog W 0 (fun _ => true) true fuel t cs = some x) (hw : Wt t x.1) :
    ∃ (v : Value) (l : List S111), cs = [v] ∧ RowC kS W v l ∧ l.length ≤ 140737488351232 ∧ ∀ y ∈ l, okS y := by
  rcases DataW.trod_slice ht hf with ⟨h1, _⟩ | ⟨a, len, cap, elems, rest, n, _, h1, hx, _, hlc, hcm, hlen, hel, _⟩
  · exact ⟨_, [], h1, RowC.nil _ _, by simp, fun y hy => by cases hy⟩
  · have hb : len ≤ 140737488351232 := by
      rw [hx] at hw
      have := wt_slice ht hw
      rw [show Try.prog.bytesOf 111 = 16 from by kernel_rfl, List.length_map] at this
      omega
    have hce : Try.prog.cellsOf 111 = 2 := by kernel_rfl
    obtain ⟨L, hL, hq⟩ := pick len (fun i (y : S111) => W.cell? (a.add (i * 2)) = some (.int .u32 y.f0) ∧ W.cell? ⟨(a.add (i * 2)).block, (a.add (i * 2)).off + 1, none⟩ = some (.int .u64 y.f1) ∧ okS y) (fun i hi => by
      have hE := hel i hi
      rw [hce, List.getElem?_eq_getElem (by omega)] at hE
      simp only [Option.bind_eq_some_iff] at hE
      obtain ⟨cs2, hc2, hy⟩ := hE
      obtain ⟨c0, c1, rfl, k0, k1⟩ := cells_two hc2
      obtain ⟨xs, m, _, _, _, hxs, hfl⟩ := DataW.trod_struct Try.underlying111 hy
      simp at hxs
      have g0 := hfl 0 _ rfl
      rw [List.getElem?_eq_getElem (by omega)] at g0
      change DataW.trod enc Try.prog W 0 (fun _ => true) true m 22 ((List.drop 0 [c0, c1]).take (Try.prog.cellsOf 22)) = _ at g0
      rw [show Try.prog.cellsOf 22 = 1 from by kernel_rfl] at g0
      obtain ⟨x0, e0, _, u0⟩ := DataW.trod_int Try.underlying22 g0
      have g1 := hfl 1 _ rfl
      rw [List.getElem?_eq_getElem (by omega)] at g1
      change DataW.trod enc Try.prog W 0 (fun _ => true) true m 70 ((List.drop 1 [c0, c1]).take (Try.prog.cellsOf 70)) = _ at g1
      rw [show Try.prog.cellsOf 70 = 1 from by kernel_rfl] at g1
      obtain ⟨x1, e1, _, u1⟩ := DataW.trod_int Try.underlying70 g1
      simp at e0 e1
      exact ⟨⟨x0, x1⟩, by rw [k0, e0], by rw [k1, e1], u32_of u0, u64_of u1⟩)
    subst hL
    refine ⟨_, L, h1, ⟨some a, cap, rfl, hlc, rfl, by omega, fun _ => ⟨a, rfl, fun j p hj => ⟨[.int .u32 p.f0, .int .u64 p.f1], rfl, k111_mk W p, fun i u hu => ?_⟩⟩⟩, hb, fun y hy => by obtain ⟨j, hj⟩ := List.mem_iff_getElem?.1 hy; exact (hq j y hj).2.2⟩
    obtain ⟨q0, q1, _⟩ := hq j p hj
    have hi : i = 0 ∨ i = 1 := by
      rcases Nat.lt_or_ge i 2 with h | h
      · omega
      · rw [List.getElem?_eq_none (by simpa using h)] at hu; cases hu
    rcases hi with rfl | rfl
    · simp at hu
      rw [← hu]; exact q0
    · simp at hu
      rw [← hu]
      show W.cell? (a.add (j * 2 + 1)) = _
      rw [add_field _ _ 1 (by omega)]; exact q1
set_option maxRecDepth 100000 in
/-- a list of clients -/
theorem row_clients {t : TypeId} {fuel : Nat} {cs : List Value} {x : DataW H × List MemPlace} (ht : Try.prog.underlying t = some (.slice 114)) (hf : DataW.trod enc Try.prog W 0 (fun _ => true) true fuel t cs = some x) (hw : Wt t x.1) :
    ∃ (v : Value) (l : List S114), cs = [v] ∧ RowC kC W v l ∧ l.length ≤ 140737488351232 ∧ ∀ y ∈ l, okC y := by
  rcases DataW.trod_slice ht hf with ⟨h1, _⟩ | ⟨a, len, cap, elems, rest, n, _, h1, hx, _, hlc, hcm, hlen, hel, _⟩
  · exact ⟨_, [], h1, RowC.nil _ _, by simp, fun y hy => by cases hy⟩
  · have hb : len ≤ 140737488351232 := by
      rw [hx] at hw
      have := wt_slice ht hw
      rw [show Try.prog.bytesOf 114 = 16 from by kernel_rfl, List.length_map] at this
      omega
    have hce : Try.prog.cellsOf 114 = 3 := by kernel_rfl
    obtain ⟨L, hL, hq⟩ := pick len (fun i (y : S114) => W.cell? (a.add (i * 3)) = some (.int .u32 y.f0) ∧ W.cell? ⟨(a.add (i * 3)).block, (a.add (i * 3)).off + 1, none⟩ = some (.int .u32 y.f1) ∧ W.cell? ⟨(a.add (i * 3)).block, (a.add (i * 3)).off + 2, none⟩ = some (.int .u64 y.f2) ∧ okC y) (fun i hi => by
      have hE := hel i hi
      rw [hce, List.getElem?_eq_getElem (by omega)] at hE
      simp only [Option.bind_eq_some_iff] at hE
      obtain ⟨cs2, hc2, hy⟩ := hE
      obtain ⟨c0, c1, c2, rfl, k0, k1, k2⟩ := cells_three hc2
      obtain ⟨xs, m, _, _, _, hxs, hfl⟩ := DataW.trod_struct Try.underlying114 hy
      simp at hxs
      have g0 := hfl 0 _ rfl
      rw [List.getElem?_eq_getElem (by omega)] at g0
      change DataW.trod enc Try.prog W 0 (fun _ => true) true m 22 ((List.drop 0 [c0, c1, c2]).take (Try.prog.cellsOf 22)) = _ at g0
      rw [show Try.prog.cellsOf 22 = 1 from by kernel_rfl] at g0
      obtain ⟨x0, e0, _, u0⟩ := DataW.trod_int Try.underlying22 g0
      have g1 := hfl 1 _ rfl
      rw [List.getElem?_eq_getElem (by omega)] at g1
      change DataW.trod enc Try.prog W 0 (fun _ => true) true m 22 ((List.drop 1 [c0, c1, c2]).take (Try.prog.cellsOf 22)) = _ at g1
      rw [show Try.prog.cellsOf 22 = 1 from by kernel_rfl] at g1
      obtain ⟨x1, e1, _, u1⟩ := DataW.trod_int Try.underlying22 g1
      have g2 := hfl 2 _ rfl
      rw [List.getElem?_eq_getElem (by omega)] at g2
      change DataW.trod enc Try.prog W 0 (fun _ => true) true m 70 ((List.drop 2 [c0, c1, c2]).take (Try.prog.cellsOf 70)) = _ at g2
      rw [show Try.prog.cellsOf 70 = 1 from by kernel_rfl] at g2
      obtain ⟨x2, e2, _, u2⟩ := DataW.trod_int Try.underlying70 g2
      simp at e0 e1 e2
      exact ⟨⟨x0, x1, x2⟩, by rw [k0, e0], by rw [k1, e1], by rw [k2, e2], u32_of u0, u32_of u1, u64_of u2⟩)
    subst hL
    refine ⟨_, L, h1, ⟨some a, cap, rfl, hlc, rfl, by omega, fun _ => ⟨a, rfl, fun j p hj => ⟨[.int .u32 p.f0, .int .u32 p.f1, .int .u64 p.f2], rfl, k114_mk W p, fun i u hu => ?_⟩⟩⟩, hb, fun y hy => by obtain ⟨j, hj⟩ := List.mem_iff_getElem?.1 hy; exact (hq j y hj).2.2.2⟩
    obtain ⟨q0, q1, q2, _⟩ := hq j p hj
    have hi : i = 0 ∨ i = 1 ∨ i = 2 := by
      rcases Nat.lt_or_ge i 3 with h | h
      · omega
      · rw [List.getElem?_eq_none (by simpa using h)] at hu; cases hu
    rcases hi with rfl | rfl | rfl
    · simp at hu
      rw [← hu]; exact q0
    · simp at hu
      rw [← hu]
      show W.cell? (a.add (j * 3 + 1)) = _
      rw [add_field _ _ 1 (by omega)]; exact q1
    · simp at hu
      rw [← hu]
      show W.cell? (a.add (j * 3 + 2)) = _
      rw [add_field _ _ 2 (by omega)]; exact q2
set_option maxRecDepth 100000 in
/-- a half -/
theorem half {fuel : Nat} {a b c : Value} {x : DataW H × List MemPlace} (hf : DataW.trod enc Try.prog W 0 (fun _ => true) true fuel 56 [a, b, c] = some x) (hw : Wt 56 x.1) :
    ∃ (k : Int) (l : List S111) (m : List S114), a = .int .u32 k ∧ RowC kS W b l ∧ RowC kC W c m ∧ l.length ≤ 140737488351232 ∧ m.length ≤ 140737488351232 ∧ (0 ≤ k ∧ k < 4294967296) ∧ (∀ y ∈ l, okS y) ∧ ∀ y ∈ m, okC y := by
  obtain ⟨xs, m, _, hx, _, hxs, hfl⟩ := DataW.trod_struct Try.underlying56 hf
  simp at hxs
  rw [hx] at hw
  have hp : ∀ j (hj : j < xs.length), (xs.map (·.1))[j]? = some xs[j].1 := fun j hj => by simp [hj]
  have g0 := hfl 0 _ rfl
  have g1 := hfl 1 _ rfl
  have g2 := hfl 2 _ rfl
  rw [List.getElem?_eq_getElem (by omega)] at g0 g1 g2
  change DataW.trod enc Try.prog W 0 (fun _ => true) true m 22 ((List.drop 0 [a, b, c]).take (Try.prog.cellsOf 22)) = _ at g0
  change DataW.trod enc Try.prog W 0 (fun _ => true) true m 53 ((List.drop 1 [a, b, c]).take (Try.prog.cellsOf 53)) = _ at g1
  change DataW.trod enc Try.prog W 0 (fun _ => true) true m 54 ((List.drop 2 [a, b, c]).take (Try.prog.cellsOf 54)) = _ at g2
  rw [show Try.prog.cellsOf 22 = 1 from by kernel_rfl] at g0
  rw [show Try.prog.cellsOf 53 = 1 from by kernel_rfl] at g1
  rw [show Try.prog.cellsOf 54 = 1 from by kernel_rfl] at g2
  obtain ⟨k, e0, _, u0⟩ := DataW.trod_int Try.underlying22 g0
  obtain ⟨v1, l1, e1, r1, b1, o1⟩ := row_seen Try.underlying53 g1 (wt_agg Try.underlying56 hw (j := 1) rfl (hp 1 (by omega)))
  obtain ⟨v2, l2, e2, r2, b2, o2⟩ := row_clients Try.underlying54 g2 (wt_agg Try.underlying56 hw (j := 2) rfl (hp 2 (by omega)))
  simp at e0 e1 e2
  subst e1 e2
  exact ⟨k, l1, l2, e0, r1, r2, b1, b2, u32_of u0, o1, o2⟩
theorem eleven {α : Type} : ∀ (l : List α), l.length = 11 → ∃ c0 c1 c2 c3 c4 c5 c6 c7 c8 c9 c10, l = [c0, c1, c2, c3, c4, c5, c6, c7, c8, c9, c10]
  | [c0, c1, c2, c3, c4, c5, c6, c7, c8, c9, c10], _ => ⟨c0, c1, c2, c3, c4, c5, c6, c7, c8, c9, c10, rfl⟩
set_option maxRecDepth 100000 in
/-- a Gen -/
theorem genW {v : Value} {d : DataW H} {p : List MemPlace} {base : Nat} (hok : Value.okWide Try.prog W .any base 58 v) (h : DataW.Trod enc Try.prog W 0 (fun _ => true) true 58 v d p) (hw : Wt 58 d) :
    ∃ (g : G) (s1 s2 s3 s4 s5 s6 : Value), v = genV g s1 s2 s3 s4 s5 s6 ∧ GenC W g s1 s2 s3 s4 s5 s6 ∧ GenB g ∧ GenL g 140737488351232 ∧ GenW g := by
  obtain ⟨cs, rfl, hsz⟩ := okWide_struct Try.underlying58 hok
  rw [show Try.prog.cellsOf 58 = 11 from by kernel_rfl] at hsz
  obtain ⟨c0, c1, c2, c3, c4, c5, c6, c7, c8, c9, c10, hc⟩ := eleven cs.toList (by simpa using hsz)
  obtain rfl : cs = #[c0, c1, c2, c3, c4, c5, c6, c7, c8, c9, c10] := by cases cs; simpa using hc
  obtain ⟨fuel, hd⟩ := h
  obtain ⟨xs, m, _, hx, _, hxs, hfl⟩ := DataW.trod_struct Try.underlying58 hd
  simp at hxs
  have hx1 := (Prod.mk.inj hx).1
  rw [hx1] at hw
  have hp : ∀ j (hj : j < xs.length), (xs.map (·.1))[j]? = some xs[j].1 := fun j hj => by simp [hj]
  have g0 := hfl 0 _ rfl
  rw [List.getElem?_eq_getElem (by omega)] at g0
  change DataW.trod enc Try.prog W 0 (fun _ => true) true m 56 ((List.drop 0 [c0, c1, c2, c3, c4, c5, c6, c7, c8, c9, c10]).take (Try.prog.cellsOf 56)) = _ at g0
  rw [show Try.prog.cellsOf 56 = 3 from by kernel_rfl] at g0
  change DataW.trod enc Try.prog W 0 (fun _ => true) true m 56 [c0, c1, c2] = _ at g0
  have w0 := wt_agg Try.underlying58 hw (j := 0) rfl (hp 0 (by omega))
  obtain ⟨k0, l0, m0, ek0, rl0, rm0, bl0, bm0, uk0, ol0, om0⟩ := half g0 w0
  have g1 := hfl 1 _ rfl
  rw [List.getElem?_eq_getElem (by omega)] at g1
  change DataW.trod enc Try.prog W 0 (fun _ => true) true m 56 ((List.drop 3 [c0, c1, c2, c3, c4, c5, c6, c7, c8, c9, c10]).take (Try.prog.cellsOf 56)) = _ at g1
  rw [show Try.prog.cellsOf 56 = 3 from by kernel_rfl] at g1
  change DataW.trod enc Try.prog W 0 (fun _ => true) true m 56 [c3, c4, c5] = _ at g1
  have w1 := wt_agg Try.underlying58 hw (j := 1) rfl (hp 1 (by omega))
  obtain ⟨k1, l1, m1, ek1, rl1, rm1, bl1, bm1, uk1, ol1, om1⟩ := half g1 w1
  have g2 := hfl 2 _ rfl
  rw [List.getElem?_eq_getElem (by omega)] at g2
  change DataW.trod enc Try.prog W 0 (fun _ => true) true m 42 ((List.drop 6 [c0, c1, c2, c3, c4, c5, c6, c7, c8, c9, c10]).take (Try.prog.cellsOf 42)) = _ at g2
  rw [show Try.prog.cellsOf 42 = 1 from by kernel_rfl] at g2
  obtain ⟨v2, l2, e2, r2, o2, b2⟩ := row_bytes Try.underlying42 g2 (wt_agg Try.underlying58 hw (j := 2) rfl (hp 2 (by omega)))
  have g3 := hfl 3 _ rfl
  rw [List.getElem?_eq_getElem (by omega)] at g3
  change DataW.trod enc Try.prog W 0 (fun _ => true) true m 42 ((List.drop 7 [c0, c1, c2, c3, c4, c5, c6, c7, c8, c9, c10]).take (Try.prog.cellsOf 42)) = _ at g3
  rw [show Try.prog.cellsOf 42 = 1 from by kernel_rfl] at g3
  obtain ⟨v3, l3, e3, r3, o3, b3⟩ := row_bytes Try.underlying42 g3 (wt_agg Try.underlying58 hw (j := 3) rfl (hp 3 (by omega)))
  have g4 := hfl 4 _ rfl
  rw [List.getElem?_eq_getElem (by omega)] at g4
  change DataW.trod enc Try.prog W 0 (fun _ => true) true m 4 ((List.drop 8 [c0, c1, c2, c3, c4, c5, c6, c7, c8, c9, c10]).take (Try.prog.cellsOf 4)) = _ at g4
  rw [show Try.prog.cellsOf 4 = 1 from by kernel_rfl] at g4
  obtain ⟨q4, e4, _⟩ := DataW.trod_bool Try.underlying4 g4
  have g5 := hfl 5 _ rfl
  rw [List.getElem?_eq_getElem (by omega)] at g5
  change DataW.trod enc Try.prog W 0 (fun _ => true) true m 5 ((List.drop 9 [c0, c1, c2, c3, c4, c5, c6, c7, c8, c9, c10]).take (Try.prog.cellsOf 5)) = _ at g5
  rw [show Try.prog.cellsOf 5 = 1 from by kernel_rfl] at g5
  obtain ⟨q5, e5, _, u5⟩ := DataW.trod_int Try.underlying5 g5
  have g6 := hfl 6 _ rfl
  rw [List.getElem?_eq_getElem (by omega)] at g6
  change DataW.trod enc Try.prog W 0 (fun _ => true) true m 5 ((List.drop 10 [c0, c1, c2, c3, c4, c5, c6, c7, c8, c9, c10]).take (Try.prog.cellsOf 5)) = _ at g6
  rw [show Try.prog.cellsOf 5 = 1 from by kernel_rfl] at g6
  obtain ⟨q6, e6, _, u6⟩ := DataW.trod_int Try.underlying5 g6
  simp at e2 e3 e4 e5 e6
  subst e2 e3 e4 e5 e6 ek0 ek1
  exact ⟨⟨k0, l0, m0, k1, l1, m1, l2, l3, q4, q5, q6⟩, c1, c2, c4, c5, c6, c7, rfl, ⟨rl0, rm0, rl1, rm1, r2, r3⟩, ⟨o2, o3⟩, ⟨bl0, bm0, bl1, bm1, b2, b3⟩, ⟨uk0, ol0, om0, uk1, ol1, om1, u8_of u5, u8_of u6⟩⟩
set_option maxRecDepth 100000 in
theorem gen {v : Value} {d : DataW H} {p : List MemPlace} {base : Nat} (hok : Value.okWide Try.prog W .any base 58 v) (h : DataW.Trod enc Try.prog W 0 (fun _ => true) true 58 v d p) (hw : Wt 58 d) :
    ∃ (g : G) (s1 s2 s3 s4 s5 s6 : Value), v = genV g s1 s2 s3 s4 s5 s6 ∧ GenC W g s1 s2 s3 s4 s5 s6 ∧ GenB g ∧ GenL g 140737488351232 := by
  obtain ⟨g, s1, s2, s3, s4, s5, s6, e, h1, h2, h3, _⟩ := genW hok h hw
  exact ⟨g, s1, s2, s3, s4, s5, s6, e, h1, h2, h3⟩
set_option maxRecDepth 100000 in
theorem seen_arg {v : Value} {d : DataW H} {p : List MemPlace} (h : DataW.Trod enc Try.prog W 0 (fun _ => true) true 53 v d p) (hw : Wt 53 d) (hv : v.cells.toList = [v]) :
    ∃ l : List S111, RowC kS W v l ∧ l.length ≤ 140737488351232 := by
  obtain ⟨fuel, hd⟩ := h
  obtain ⟨v', l, e, r, b, _⟩ := row_seen Try.underlying53 hd hw
  rw [hv] at e
  simp at e
  subst e
  exact ⟨l, r, b⟩
set_option maxRecDepth 100000 in
theorem clients_arg {v : Value} {d : DataW H} {p : List MemPlace} (h : DataW.Trod enc Try.prog W 0 (fun _ => true) true 54 v d p) (hw : Wt 54 d) (hv : v.cells.toList = [v]) :
    ∃ l : List S114, RowC kC W v l ∧ l.length ≤ 140737488351232 := by
  obtain ⟨fuel, hd⟩ := h
  obtain ⟨v', l, e, r, b, _⟩ := row_clients Try.underlying54 hd hw
  rw [hv] at e
  simp at e
  subst e
  exact ⟨l, r, b⟩
set_option maxRecDepth 100000 in
theorem bytes_arg {v : Value} {d : DataW H} {p : List MemPlace} (h : DataW.Trod enc Try.prog W 0 (fun _ => true) true 42 v d p) (hw : Wt 42 d) (hv : v.cells.toList = [v]) :
    ∃ l : List Int, RowC kB W v l ∧ BytesOk l ∧ l.length ≤ 140737488351232 := by
  obtain ⟨fuel, hd⟩ := h
  obtain ⟨v', l, e, r, o, b⟩ := row_bytes Try.underlying42 hd hw
  rw [hv] at e
  simp at e
  subst e
  exact ⟨l, r, o, b⟩
set_option maxRecDepth 100000 in
theorem slice_cells {t e : TypeId} {v : Value} {base : Nat} (ht : Try.prog.underlying t = some (.slice e)) (hok : Value.okWide Try.prog W .any base t v) : v.cells.toList = [v] := by
  obtain ⟨a, len, cap, rfl⟩ := okWide_slice ht hok
  simp [Value.cells]
end
end Go.Proofs.Ytpanefmemabckaa.ReadG
