/- What the reference's Known, How, Base and gen.Base answer. -/
import Derived.Test.YtpanefmemabckabGenKnown
namespace Go.Proofs.Ytpanefmemabckab.GenBase
open Go.RowKit Go.Proofs.Ytpanefmemabckab.NumA Go.Proofs.Ytpanefmemabckab.GenS Go.Proofs.Ytpanefmemabckab.GenRep Go.Proofs.Ytpanefmemabckab.GenBlk Go.Proofs.Ytpanefmemabckab.GenPure Go.Proofs.Ytpanefmemabckab.GenCalls Go.Proofs.Ytpanefmemabckab.GenKnown Go.Proofs.YtpanefmemabckabW.PrintWords Go.Proofs.YtpanefmemabckabW.PrintLast
set_option linter.unusedSimpArgs false

theorem refknown_l0 (l : List S60) (a : Int) (hm : l.length ≤ 1000000) (d : Nat) : ∀ (k i : Nat), d < k → i + d = l.length → cardexref22_Known.l0 k l a i = some (if idx (l.drop i) a i < 0 then (0, 0, 0, false) else ((rd_T60 l (idx (l.drop i) a i)).f0, (rd_T60 l (idx (l.drop i) a i)).f1, (rd_T60 l (idx (l.drop i) a i)).f2, true)) := by
  induction d with
  | zero =>
    intro k i hk hi
    cases k with
    | zero => omega
    | succ k =>
      rw [cardexref22_Known.l0, if_neg (by omega), List.drop_eq_nil_of_le (by omega), idx, if_pos (by decide)]
  | succ d ih =>
    intro k i hk hi
    cases k with
    | zero => omega
    | succ k =>
      have h1 : i < l.length := by omega
      have e1 : rd_T60 l i = l[i] := by simp [rd_T60, h1]
      have ew : wrap64 ((i : Int) + 1) = ((i + 1 : Nat) : Int) := by unfold wrap64; omega
      rw [cardexref22_Known.l0, if_pos (by omega), if_pos (by omega), e1, List.drop_eq_getElem_cons h1, idx]
      by_cases h : l[i].f0 = a
      · rw [if_pos h, if_pos h, if_neg (by omega), e1]
      · rw [if_neg h, if_neg h, ew, ih k (i + 1) (by omega) (by omega)]
theorem refknown_calls (s : Value) (l : List S60) (a : Int) (w : World) (hs : RowC kC w s l) (hl : l.length ≤ 1000000) :
    Calls Try.prog 41 #[s, .int .u32 a] w fun e w' => e = .returned (.tuple #[cliV (known l a).1, .bool (known l a).2]) ∧ Below w.heap.size w w' := by
  obtain ⟨A, c, rfl, hc, hr⟩ := hs
  obtain ⟨K, hK⟩ : ∃ K, K = 1000001 := ⟨_, rfl⟩
  have hf := refknown_l0 l a hl l.length K 0 (by omega) (by omega)
  rw [List.drop_zero] at hf
  have hf' : cardexref22_Known.f K l a = some ((known l a).1.f0, (known l a).1.f1, (known l a).1.f2, (known l a).2) := by
    unfold cardexref22_Known.f known
    rw [show (0 : Int) = ((0 : Nat) : Int) from rfl, hf]
    by_cases h : idx l a 0 < 0
    · rw [if_pos h]
      rw [if_pos (show idx l a 0 < ((0 : Nat) : Int) from h)]
      rfl
    · rw [if_neg h]
      rw [if_neg (show ¬ idx l a 0 < ((0 : Nat) : Int) from h)]
  clear hK hf
  exact (cardexref22_Known.calls K A c l a _ _ _ _ w hr hc hf').mono fun _ _ ⟨e, h⟩ => ⟨e, by first | exact h | exact h.below⟩
theorem refhow_f (g : G) (key : Int) (rq : List Int) (bg : GenB g) (bq : BytesOk rq) : cardexref22_How.f 9 g.k1 g.v1 g.c1 g.k2 g.v2 g.c2 g.rq g.rp g.ls g.su g.wi key rq = some (howP g key rq) := by
  have he : cardexref00_Same.f g.rq rq = some (decide (g.rq = rq)) := congrArg some (str_same bg.1 bq)
  unfold cardexref22_How.f howP
  have hj1 : ∀ (b : Bool), cardexref22_How.j1 8 key b g.k1 g.v1 g.c1 g.k2 g.v2 g.c2 g.rq g.rp g.ls g.su g.wi = some (if b = true then 3 else if key = 0 then 1 else if key = g.k2 then 4 else 0) := by
    intro b
    rw [cardexref22_How.j1]
    cases b
    · simp only [Bool.false_eq_true, if_false]
      split
      · rfl
      · split <;> rfl
    · rfl
  have hj0 : ∀ (b : Bool), cardexref22_How.j0 9 key rq b g.k1 g.v1 g.c1 g.k2 g.v2 g.c2 g.rq g.rp g.ls g.su g.wi = some (if b = true then 2 else if key = g.k2 ∧ g.k1 ≠ 0 ∧ rq = g.rq then 3 else if key = 0 then 1 else if key = g.k2 then 4 else 0) := by
    intro b
    rw [cardexref22_How.j0]
    cases b
    · simp only [Bool.false_eq_true, if_false]
      by_cases h2 : g.k1 = 0
      · simp only [if_pos h2, hj1, Bool.false_eq_true, if_false, if_neg (show ¬ (key = g.k2 ∧ g.k1 ≠ 0 ∧ rq = g.rq) from fun h => h.2.1 h2)]
      · by_cases h1 : key = g.k2
        · by_cases h3 : rq = g.rq
          · simp only [if_pos h1, if_neg h2, he, decide_eq_true h3.symm, Option.bind_some, hj1, if_true, if_pos (show key = g.k2 ∧ g.k1 ≠ 0 ∧ rq = g.rq from ⟨h1, h2, h3⟩)]
          · simp only [if_pos h1, if_neg h2, he, decide_eq_false (fun e : g.rq = rq => h3 e.symm), Option.bind_some, hj1, Bool.false_eq_true, if_false, if_neg (show ¬ (key = g.k2 ∧ g.k1 ≠ 0 ∧ rq = g.rq) from fun h => h3 h.2.2)]
        · simp only [if_neg h1, if_neg h2, hj1, Bool.false_eq_true, if_false, if_neg (show ¬ (key = g.k2 ∧ g.k1 ≠ 0 ∧ rq = g.rq) from fun h => h1 h.1)]
    · simp only [if_true]
  by_cases h0 : key = 0
  · simp only [if_pos h0, hj0, Bool.false_eq_true, if_false, if_neg (show ¬ (key = g.k1 ∧ key ≠ 0) from fun h => h.2 h0)]
  · by_cases h1 : key = g.k1
    · have hb : (key == g.k1) = true := beq_iff_eq.mpr h1
      simp only [if_neg h0, hb, hj0, if_true, if_pos (show key = g.k1 ∧ key ≠ 0 from ⟨h1, h0⟩)]
    · have hb : (key == g.k1) = false := beq_eq_false_iff_ne.mpr h1
      simp only [if_neg h0, hb, hj0, Bool.false_eq_true, if_false, if_neg (show ¬ (key = g.k1 ∧ key ≠ 0) from fun h => h1 h.1)]
theorem refhow_calls {w : World} {g : G} {s1 s2 s3 s4 s5 s6 sq : Value} {key : Int} {rq : List Int} (hg : GenC w g s1 s2 s3 s4 s5 s6) (hq : RowC kB w sq rq) (bg : GenB g) (bq : BytesOk rq) :
    Calls Try.prog 42 #[genV g s1 s2 s3 s4 s5 s6, .int .u32 key, sq] w fun e w' => e = .returned (.int .u8 (howP g key rq)) ∧ Below w.heap.size w w' := by
  obtain ⟨⟨A1, c1, rfl, l1, r1⟩, ⟨A2, c2, rfl, l2, r2⟩, ⟨A3, c3, rfl, l3, r3⟩, ⟨A4, c4, rfl, l4, r4⟩, ⟨A5, c5, rfl, l5, r5⟩, ⟨A6, c6, rfl, l6, r6⟩⟩ := hg
  obtain ⟨B1, d1, rfl, m1, q1⟩ := hq
  exact cardexref22_How.calls 9 g.k1 A1 c1 g.v1 A2 c2 g.c1 g.k2 A3 c3 g.v2 A4 c4 g.c2 A5 c5 g.rq A6 c6 g.rp g.ls g.su g.wi key B1 d1 rq _ w r1 l1 r2 l2 r3 l3 r4 l4 r5 l5 r6 l6 q1 m1 (refhow_f g key rq bg bq)
/-- the view on which a request is done, the clients that are known -/
def baseV (g : G) (how : Int) : List S58 := if how = 2 then g.v1 else if how = 4 then g.v2 else []
def baseC (g : G) (how : Int) : List S60 := if how = 2 then g.c1 ++ g.c2 else if how = 4 then g.c1 ++ g.c2 else []
theorem base_calls {w : World} {g : G} {s1 s2 s3 s4 s5 s6 : Value} {how : Int} (hg : GenC w g s1 s2 s3 s4 s5 s6) (hl : GenL g 400000) :
    Calls Try.prog 34 #[genV g s1 s2 s3 s4 s5 s6, .int .u8 how] w fun e w' => ∃ v u, e = .returned (.tuple #[v, u]) ∧ RowR kS 58 w' w.heap.size v (baseV g how) ∧ RowR kC 60 w' w.heap.size u (baseC g how) ∧ Below w.heap.size w w' := by
  obtain ⟨⟨A1, c1, rfl, l1, r1⟩, ⟨A2, c2, rfl, l2, r2⟩, ⟨A3, c3, rfl, l3, r3⟩, ⟨A4, c4, rfl, l4, r4⟩, ⟨A5, c5, rfl, l5, r5⟩, ⟨A6, c6, rfl, l6, r6⟩⟩ := hg
  have h1 := hl.h1
  have h2 := hl.h2
  have h3 := hl.h3
  have h4 := hl.h4
  have hf : gen_Base.f g.k1 g.v1 g.c1 g.k2 g.v2 g.c2 g.rq g.rp g.ls g.su g.wi how = some (baseV g how, baseC g how) := by
    unfold gen_Base.f api_Client.f api_Seen.f baseV baseC
    rw [if_pos (by omega), Option.bind_some, if_pos (by omega), Option.bind_some]
    by_cases e2 : how = 2
    · simp only [if_pos e2]
      rw [if_pos (by omega), Option.bind_some]
    · simp only [if_neg e2]
      by_cases e4 : how = 4
      · simp only [if_pos e4]
        rw [if_pos (by omega), Option.bind_some]
      · simp only [if_neg e4]
  exact gen_Base.calls g.k1 A1 c1 g.v1 A2 c2 g.c1 g.k2 A3 c3 g.v2 A4 c4 g.c2 A5 c5 g.rq A6 c6 g.rp g.ls g.su g.wi how _ _ w r1 l1 r2 l2 r3 l3 r4 l4 r5 l5 r6 l6 hf
theorem refbase_calls {w : World} {g : G} {s1 s2 s3 s4 s5 s6 : Value} {how : Int} (hg : GenC w g s1 s2 s3 s4 s5 s6) (hl : GenL g 400000) :
    Calls Try.prog 39 #[genV g s1 s2 s3 s4 s5 s6, .int .u8 how] w fun e w' => ∃ v u, e = .returned (.tuple #[v, u]) ∧ RowC kS w' v (baseV g how) ∧ RowC kC w' u (baseC g how) ∧ Below w.heap.size w w' := by
  obtain ⟨⟨A1, c1, rfl, l1, r1⟩, ⟨A2, c2, rfl, l2, r2⟩, ⟨A3, c3, rfl, l3, r3⟩, ⟨A4, c4, rfl, l4, r4⟩, ⟨A5, c5, rfl, l5, r5⟩, ⟨A6, c6, rfl, l6, r6⟩⟩ := hg
  have h1 := hl.h1
  have h2 := hl.h2
  have h3 := hl.h3
  have h4 := hl.h4
  have hf : cardexref22_Base.f g.k1 g.v1 g.c1 g.k2 g.v2 g.c2 g.rq g.rp g.ls g.su g.wi how = some (baseV g how, baseC g how) := by
    unfold cardexref22_Base.f cardexref22_views.f cardexref22_clients.f baseV baseC
    by_cases e2 : how = 2
    · simp only [if_pos e2]
      rw [if_pos (by simp; omega), Option.bind_some, if_pos (by simp; omega), Option.bind_some, List.nil_append, List.nil_append, if_pos (by omega), Option.bind_some]
    · simp only [if_neg e2]
      by_cases e4 : how = 4
      · simp only [if_pos e4]
        rw [if_pos (by simp; omega), Option.bind_some, if_pos (by simp; omega), Option.bind_some, List.nil_append, List.nil_append, if_pos (by omega), Option.bind_some]
      · simp only [if_neg e4]
  refine (cardexref22_Base.calls g.k1 A1 c1 g.v1 A2 c2 g.c1 g.k2 A3 c3 g.v2 A4 c4 g.c2 A5 c5 g.rq A6 c6 g.rp g.ls g.su g.wi how _ _ w r1 l1 r2 l2 r3 l3 r4 l4 r5 l5 r6 l6 hf).mono ?_
  rintro e w' ⟨v, u, he, hv, hu, hb⟩
  exact ⟨v, u, he, RowC.of hv, RowC.of hu, hb⟩
end Go.Proofs.Ytpanefmemabckab.GenBase
