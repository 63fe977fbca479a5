/- A row of bytes whose spare room holds bytes, too: what append leaves; Spoil turns all of it. For every such row. -/
import Derived.Test.YtpanefmemabckaaWide
import Derived.Maps.AppendAt
namespace Go.Proofs.Ytpanefmemabckaa.Ints
open Go.RowKit Go.Proofs.Ytpanefmemabckaa.Wide Go.Proofs.YtpanefmemabckaaW.PrintWords Go.Proofs.YtpanefmemabckaaW.PrintLast

def allInts (cs : Array Value) : Prop := ∀ u ∈ cs.toList, ∃ z : Int, u = .int .u8 z
/-- nil, or a slice of a block of the program's own, of bytes, to its end -/
def IntsV (W : World) (v : Value) : Prop :=
  v = .slice none 0 0 ∨ ∃ (g n cap : Nat) (cs : Array Value), v = .slice (some ⟨g, 0, none⟩) n cap ∧ W.heap[g]? = some (.cells cs 5 (0, 0)) ∧ cs.size = cap ∧ cap ≤ 9223372036854775807 ∧ allInts cs
theorem ints_get {cs : Array Value} (h : allInts cs) (i : Nat) (hi : i < cs.size) : ∃ z : Int, cs[i]? = some (.int .u8 z) := by
  obtain ⟨z, hz⟩ := h cs[i] (by simp)
  exact ⟨z, by rw [Array.getElem?_eq_getElem hi, hz]⟩
theorem ints_set {cs : Array Value} (h : allInts cs) (i : Nat) (z : Int) : allInts (cs.setIfInBounds i (.int .u8 z)) := by
  intro u hu
  rw [Array.toList_setIfInBounds] at hu
  rcases List.mem_or_eq_of_mem_set hu with hu | rfl
  · exact h u hu
  · exact ⟨z, rfl⟩
theorem IntsV.nil (W : World) : IntsV W (.slice none 0 0) := .inl rfl
theorem IntsV.block {W W' : World} {v : Value} (h : IntsV W v) (hb : ∀ g, v.ownBlock = some g → W'.heap[g]? = W.heap[g]?) : IntsV W' v := by
  rcases h with rfl | ⟨g, n, cap, cs, rfl, hg, hc⟩
  · exact .inl rfl
  · exact .inr ⟨g, n, cap, cs, rfl, (hb g (by simp [Value.ownBlock])).trans hg, hc⟩
theorem IntsV.lt {W : World} {v : Value} (h : IntsV W v) : ∀ g, v.ownBlock = some g → g < W.heap.size := by
  intro k hk
  rcases h with rfl | ⟨g, n, cap, cs, rfl, hg, hc⟩
  · simp [Value.ownBlock] at hk
  · simp [Value.ownBlock] at hk
    subst hk
    exact blk_lt hg
theorem IntsV.below {W W' : World} {v : Value} (h : IntsV W v) (hb : Below W.heap.size W W') : IntsV W' v := h.block fun g hg => hb.block g (h.lt g hg)
theorem IntsV.set {W : World} {v : Value} (h : IntsV W v) {r t : Nat} {cs : Array Value} (hb : W.heap[r]? = some (.cells cs t (0, 0))) (ht : t ≠ 5) (j : Nat) (u : Value) : IntsV (W.setCell ⟨r, j, none⟩ u) v := by
  rcases h with rfl | ⟨g, n, cap, cs', rfl, hg, hc⟩
  · exact .inl rfl
  · exact .inr ⟨g, n, cap, cs', rfl, blk_far hg (p := ⟨r, j, none⟩) (blk_ne hg hb (Ne.symm ht)) u, hc⟩
theorem reps_enc {W : World} {ys : List Int} {news : List Value} (h : Reps ((Kd.int .u8).K W) 1 ys news) : news = encs (Value.int .u8) ys := by
  apply List.ext_getElem?
  intro j
  rcases Nat.lt_or_ge j ys.length with hj | hj
  · have h2 := h.2 j _ (List.getElem?_eq_getElem hj)
    have hl : j < news.length := by have := h.1; omega
    have h3 : (news.drop (j * 1)).take 1 = [.int .u8 ys[j]] := h2
    rw [Nat.mul_one, List.drop_eq_getElem_cons hl] at h3
    have h4 : news[j] = .int .u8 ys[j] := by
      exact (List.cons.inj (show news[j] :: List.take 0 (List.drop (j + 1) news) = [.int .u8 ys[j]] from h3)).1
    rw [List.getElem?_eq_getElem hl, h4]
    simp [encs, List.getElem?_map, List.getElem?_eq_getElem hj]
  · rw [List.getElem?_eq_none (by have := h.1; omega), List.getElem?_eq_none (by simp [encs]; omega)]
theorem ints_encs (l : List Int) : ∀ u ∈ encs (Value.int .u8) l, ∃ z : Int, u = .int .u8 z := by
  intro u hu
  obtain ⟨z, _, rfl⟩ := List.mem_map.1 hu
  exact ⟨z, rfl⟩
theorem ints_zeros (n : Nat) : ∀ u ∈ (Builtin.zeroCells (Value.int .u8 0).cells n).toList, ∃ z : Int, u = .int .u8 z := by
  intro u hu
  simp [Builtin.zeroCells, Value.cells] at hu
  obtain ⟨i, _, hu⟩ := hu
  rw [Nat.mod_one] at hu
  exact ⟨0, hu.symm⟩
abbrev tB : Nat := 42
/-- append(v, ys...) -/
theorem append_ints (W : World) (base : Nat) (ty : TypeId) (v : Value) (xs ys : List Int) (A : Option Addr) (m c : Nat) (HO : Kd.R (Kd.int .u8) 5 W base (fun _ => True) v xs) (HI : IntsV W v)
    (HR : Kd.C (Kd.int .u8) W A m ys) (hbase : base ≤ W.heap.size) (hl : xs.length + m ≤ 140737488355328) :
    ∃ v1 w1, (Builtin.append_ #[42, 42] ty #[v, .slice A m c]).run Try.prog W = .ok v1 w1 ∧ Kd.R (Kd.int .u8) 5 w1 base (fun _ => True) v1 (xs ++ ys) ∧ IntsV w1 v1 ∧ W.grownBy w1 v.ownBlock ∧
      (v1.ownBlock = v.ownBlock ∨ ∃ b, v1.ownBlock = some b ∧ W.heap.size ≤ b) := by
  obtain ⟨i0, hi, hz0, hz1, hz2⟩ := info_parts info8
  have ht : Try.prog.underlying 42 = some (.slice 5) := Try.underlying42
  have hown := Kd.own_of_R HO
  have hm : ys.length = m := HR.1
  rcases A with _ | ad
  · have h0 : m = 0 := by
      rcases Nat.eq_zero_or_pos m with h0 | h0
      · exact h0
      · obtain ⟨ad, h, _⟩ := HR.2.2 h0
        cases h
    subst h0
    obtain rfl : ys = [] := List.eq_nil_of_length_eq_zero hm
    refine ⟨v, W, ?_, by rw [List.append_nil]; exact HO, HI, World.grownBy.refl W _, .inl rfl⟩
    rcases hown.2 with ⟨rfl, hn⟩ | ⟨g, cap, cur, rfl, _, _, hnc, _⟩
    · simp [Builtin.append_, run_underlying ht, sizeOf, typeInfo, hi, Builtin.lenOf, Builtin.firstCells]
    · simp [Builtin.append_, run_underlying ht, sizeOf, typeInfo, hi, Builtin.lenOf, Builtin.firstCells, hnc, storeCells]
  · obtain ⟨news, hnr, hnc⟩ := ReadsRow.inner_ HR
    obtain rfl := reps_enc hnr
    have hone : ∀ u ∈ encs (Value.int .u8) ys, u.oneCell' = true := by
      intro u hu
      obtain ⟨z, rfl⟩ := ints_encs ys u hu
      rfl
    have hnl : (encs (Value.int .u8) ys).length = m * 1 := by rw [← hm]; simp [encs]
    have h63 : xs.length + m ≤ maxLen := by unfold maxLen; omega
    obtain ⟨v1, w1, hrun, h2, hg, _, hat⟩ := run_append_own_at (P := Try.prog) W base 42 ty 5 i0 (.int .u8 0) 1 1 ht hi hz0 hz1 hz2 (by rfl) (by decide) v xs.length _ hown ad m c _ hnl hnc hone h63 (by omega) hbase
    have hat' : v1.ownBlock = v.ownBlock ∨ ∃ b, v1.ownBlock = some b ∧ W.heap.size ≤ b := by
      rcases hat with hat | hat
      · exact .inl hat
      · exact .inr ⟨_, hat, Nat.le_refl _⟩
    refine ⟨v1, w1, hrun, Kd.R_of_own (by rw [List.length_append, hm]; simpa [encs] using h2) (fun _ _ => trivial), ?_, hg, hat'⟩
    have hall : ∀ {l : List Value}, (∀ u ∈ l, ∃ z : Int, u = .int .u8 z) → ∀ {l' : List Value}, (∀ u ∈ l', ∃ z : Int, u = .int .u8 z) → ∀ u ∈ l ++ l', ∃ z : Int, u = .int .u8 z :=
      fun h _ h' u hu => (List.mem_append.1 hu).elim (h u) (h' u)
    have hw : ∀ (n old : Nat), n ≤ maxLen → grownCap W n old 5 ≤ 9223372036854775807 := fun n old hn => by
      have := grownCap_le_maxLen W n old 5 hn
      unfold maxLen at this
      omega
    rcases hown.2 with ⟨rfl, hn0⟩ | ⟨g, cap, cur, rfl, _, hgc, hncap, hcm, hcs, htake⟩
    · obtain rfl : xs = [] := List.eq_nil_of_length_eq_zero hn0
      rcases Nat.eq_zero_or_pos m with h0 | h0
      · subst h0
        obtain rfl : ys = [] := List.eq_nil_of_length_eq_zero hm
        have hr : (Builtin.append_ #[42, 42] ty #[.slice none 0 0, .slice (some ad) 0 c]).run Try.prog W = .ok (.slice none 0 0) W := by
          simp [Builtin.append_, run_underlying ht, sizeOf, typeInfo, hi, Builtin.lenOf, Builtin.firstCells, loadCells, loadCellsFrom]
        rw [hr] at hrun
        injection hrun with e1 e2
        subst e1 e2
        exact .inl rfl
      · have hr := run_append_nil (P := Try.prog) W 42 ty 5 i0 (.int .u8 0) ht hi hz0 ad m c _ (by rw [hz1]; exact hnl) hnc h0 (by omega) (by rw [hz2]; omega)
        rw [hr] at hrun
        injection hrun with e1 e2
        subst e1 e2
        have hge := grownCap_ge W m 0 5
        refine .inr ⟨_, _, _, _, rfl, heap_alloc_new W.drew _, ?_, hw _ _ (by simpa using h63), ?_⟩
        · rw [Array.size_append, List.size_toArray, hnl, size_zeroCells, show (Value.int IntKind.u8 0).cells.size = 1 from rfl]
          omega
        · intro u hu
          rw [Array.toList_append] at hu
          exact hall (ints_encs ys) (ints_zeros _) u hu
    · obtain ⟨cs, hci⟩ : ∃ cs, cs = cur := ⟨_, rfl⟩
      have hints : allInts cur := by
        rcases HI with h | ⟨g', n', cap', cs', he, hgc', _, _, hi'⟩
        · cases h
        · injection he with h1 h2 h3
          injection h1 with h1
          injection h1 with h1
          subst h1
          rw [hgc'] at hgc
          injection hgc with hgc
          injection hgc with hgc
          subst hgc
          exact hi'
      have hcm' : cap ≤ 9223372036854775807 := by unfold maxLen at hcm; omega
      by_cases hroom : xs.length + m ≤ cap
      · have hr := run_append_room (P := Try.prog) W 42 ty 5 i0 ht hi g xs.length cap cur hgc ad m c _ (by rw [hz1]; exact hnl) hnc hone hroom (by rw [hz1, hnl]; omega)
        rw [hr] at hrun
        injection hrun with e1 e2
        subst e1 e2
        refine .inr ⟨g, _, cap, _, rfl, setRow_heap W g cur _ 5 _ hgc, ?_, hcm', ?_⟩
        · rw [hz1]
          simp only [List.size_toArray, List.length_append, List.length_take, List.length_drop, Array.length_toList, hnl]
          omega
        · intro u hu
          exact hall (hall (fun u hu => hints u (List.mem_of_mem_take hu)) (ints_encs ys)) (fun u hu => hints u (List.mem_of_mem_drop hu)) u hu
      · have holds := hown.cells (g := g) (by simp [Value.ownBlock])
        have hr := run_append_grow (P := Try.prog) W 42 ty 5 i0 (.int .u8 0) ht hi hz0 ⟨g, 0, none⟩ xs.length cap _ (by rw [hz1]; exact hown.1) holds ad m c _ (by rw [hz1]; exact hnl) hnc (by omega) (by omega) (by rw [hz2]; exact growslice_fits (by omega) (by omega))
        rw [hr] at hrun
        injection hrun with e1 e2
        subst e1 e2
        have hge := grownCap_ge W (xs.length + m) cap 5
        refine .inr ⟨_, _, _, _, rfl, heap_alloc_new W.drew _, ?_, hw _ _ h63, ?_⟩
        · rw [Array.size_append, Array.size_append, List.size_toArray, List.size_toArray, hnl, hown.1, size_zeroCells, show (Value.int IntKind.u8 0).cells.size = 1 from rfl]
          omega
        · intro u hu
          rw [Array.toList_append, Array.toList_append] at hu
          exact hall (hall (ints_encs xs) (ints_encs ys)) (ints_zeros _) u hu
section
variable {ops : Array Oper} {rest : List Oper} {o : Oper} {a : Act} {Q : Exit → Act → World → Prop}
/-- at the operation, in a plain region; behind 'at_builtin' -/
theorem wpList_append_ints {w0 W : World} (base : Nat) (hgd : o.guard = none) (s x : Operand) (ho : o.op = .call { callee := .builtin .append, args := #[s, x], argTypes := #[42, 42] })
    (v : Value) (xs ys : List Int) (A : Option Addr) (m c : Nat) (hs : a.eval s = v) (hx : a.eval x = .slice A m c) (HO : Kd.R (Kd.int .u8) 5 W base (fun _ => True) v xs) (HI : IntsV W v)
    (HR : Kd.C (Kd.int .u8) W A m ys) (HB : Below base w0 W) (hbase : base ≤ W.heap.size) (hl : xs.length + m ≤ 140737488355328)
    (h : ∀ v1 w1, Kd.R (Kd.int .u8) 5 w1 base (fun _ => True) v1 (xs ++ ys) → IntsV w1 v1 → Below base w0 w1 → wpList Try.prog ops Q rest (a.put o.dst v1) w1) : wpList Try.prog ops Q (o :: rest) a W :=
  wpList_plain hgd fun K hK => by
    obtain ⟨v1, w1, hr, h1, h2, h3, h4⟩ := append_ints W base o.type v xs ys A m c HO HI HR hbase hl
    unfold Oper.wp execOp
    simp only [ho, resolve, invoke, builtin, Sem.run_bind, Sem.run_pure, Result.andThen_ok, List.map_toArray, List.map_cons, List.map_nil, hs, hx, hr]
    exact hK _ _ (h v1 w1 h1 h2 (HB.grown h3 hbase (fun k hk => Kd.R_base HO k hk)))
end
set_option maxRecDepth 100000 in
set_option maxHeartbeats 2000000 in
/-- Spoil writes the row's own block alone, and leaves bytes there -/
theorem spoil_calls (v : Value) (W : World) (by_ : Int) (HI : IntsV W v) : Calls Try.prog 57 #[v, .int .u8 by_] W fun e w' => e = .returned (.tuple #[]) ∧ W.grownBy w' v.ownBlock ∧ ∀ u, IntsV W u → IntsV w' u := by
  rcases HI with rfl | ⟨g, n, cap, cs, rfl, hg, hc, hm, hi⟩
  · go_enter Try.func57, Try.ntmps57
    go_wp2_with fail
    go_loop [5] (fun i => i = .int .i64 0) (fun _ => 0)
    case atStart => rfl
    case round =>
      subst hrel
      go_wp2_with fail
      go_end0
      exact ⟨rfl, World.grownBy.refl W _, fun _ h => h⟩
  · have HG := Aside0.mk hg
    have HC := Aside0.mk hc
    have HI := Aside0.mk hi
    clear hg hi
    go_enter Try.func57, Try.ntmps57
    go_wp2_with fail
    go_loopw [5] (fun i wr => ∃ (k : Nat) (ds : Array Value), k ≤ cap ∧ i = .int .i64 k ∧ Aside0 (wr.heap[g]? = some (.cells ds 5 (0, 0)) ∧ ds.size = cap ∧ allInts ds ∧ W.grownBy wr (some g))) (fun i _ => cap - (intOf i).toNat)
    case atStart => exact ⟨0, cs, by omega, rfl, ⟨HG.out, HC.out, HI.out, World.grownBy.refl W _⟩⟩
    case round =>
      obtain ⟨k, ds, hk, rfl, hst⟩ := hrel
      by_cases hlt : k < cap
      · obtain ⟨z, hz⟩ := ints_get hst.out.2.2.1 k (by have := hst.out.2.1; omega)
        have q0 := blk_cell hst.out.1 k
        rw [hz] at q0
        have r0 := blk_frozen hst.out.1 k
        clear hz
        go_wp2_with fail
        go_roundw
        case rel => exact ⟨k + 1, _, by omega, by go_num, ⟨blk_set hst.out.1 k _, by simpa using hst.out.2.1, ints_set hst.out.2.2.1 k _, ⟨hst.out.2.2.2.os, hst.out.2.2.2.tape, hst.out.2.2.2.output, by simpa using hst.out.2.2.2.size, fun b hb hne => by
          rw [Below.heap_setCell _ _ _ _ (fun e => hne (by rw [e]))]; exact hst.out.2.2.2.block b hb hne⟩⟩⟩
        case measure => simp [intOf]; omega
      · obtain rfl : k = cap := by omega
        go_wp2_with fail
        go_end0
        refine ⟨rfl, hst.out.2.2.2, fun u hu => ?_⟩
        rcases hu with rfl | ⟨g', n', cap', cs', rfl, hg', hc', hm', hi'⟩
        · exact .inl rfl
        · by_cases e : g' = g
          · subst e
            have h2 := HG.out
            rw [hg'] at h2
            injection h2 with h2
            injection h2 with h2
            subst h2
            exact .inr ⟨g', n', cap', ds, rfl, hst.out.1, by have := HC.out; have := hst.out.2.1; omega, hm', hst.out.2.2.1⟩
          · exact .inr ⟨g', n', cap', cs', rfl, (hst.out.2.2.2.block g' (blk_lt hg') (fun h => e (by injection h))).trans hg', hc', hm', hi'⟩
end Go.Proofs.Ytpanefmemabckaa.Ints
