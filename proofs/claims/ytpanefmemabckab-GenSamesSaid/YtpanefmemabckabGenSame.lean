/- gen.Same: whether two Gens are the same. -/
import Derived.Test.YtpanefmemabckabGenRep
import Derived.Test.YtpanefmemabckabGenEx
namespace Go.Proofs.Ytpanefmemabckab.GenSame
open Go.RowKit Go.Proofs.Ytpanefmemabckab.NumA Go.Proofs.Ytpanefmemabckab.GenS Go.Proofs.Ytpanefmemabckab.GenRep Go.Proofs.Ytpanefmemabckab.GenBlk Go.Proofs.Ytpanefmemabckab.GenCalls Go.Proofs.Ytpanefmemabckab.Bytes Go.Proofs.YtpanefmemabckabW.PrintWords Go.Proofs.YtpanefmemabckabW.PrintLast
open Go.Proofs.Ytpanefmemabckab.GenPure (BytesOk GenB sameB sameB_iff str_same)

theorem seen_l0 (l m : List S58) (hlen : l.length = m.length) (hm : l.length ≤ 1000000) (d : Nat) : ∀ (k i : Nat), d < k → i + d = l.length → ∃ b, GenE.api_Seen.l0 k l m l.length i = some b ∧ (b = true ↔ l.drop i = m.drop i) := by
  induction d with
  | zero =>
    intro k i hk hi
    cases k with
    | zero => omega
    | succ k =>
      rw [GenE.api_Seen.l0, if_neg (by omega)]
      refine ⟨true, rfl, fun _ => ?_, fun _ => rfl⟩
      rw [List.drop_eq_nil_of_le (by omega), List.drop_eq_nil_of_le (by omega)]
  | succ d ih =>
    intro k i hk hi
    cases k with
    | zero => omega
    | succ k =>
      have h1 : i < l.length := by omega
      have h2 : i < m.length := by omega
      rw [GenE.api_Seen.l0, if_pos (by omega), if_pos (by omega), if_pos (by omega), if_pos (by omega)]
      have e1 : rd_T58 l i = l[i] := by simp [rd_T58, h1]
      have e2 : rd_T58 m i = m[i] := by simp [rd_T58, h2]
      rw [e1, e2, List.drop_eq_getElem_cons h1, List.drop_eq_getElem_cons h2]
      obtain ⟨b, hb, hbi⟩ := ih k (i + 1) (by omega) (by omega)
      have ew : wrap64 ((i : Int) + 1) = ((i + 1 : Nat) : Int) := by unfold wrap64; omega
      split
      · next h =>
        refine ⟨false, rfl, (fun e => by cases e), fun e => ?_⟩
        injection e with e _
        rw [e] at h
        simp at h
      · next h =>
        rw [ew]
        refine ⟨b, hb, ?_⟩
        rw [hbi]
        have he : l[i] = m[i] := by
          cases hx : l[i] with
          | mk a1 a2 =>
            cases hy : m[i] with
            | mk b1 b2 =>
              rw [hx, hy] at h
              simp at h
              rw [h.1, h.2]
        rw [he]
        exact ⟨fun e => by rw [e], fun e => (List.cons.inj e).2⟩
theorem seen_same (l m : List S58) (hm : l.length ≤ 1000000) (k : Nat) (hk : l.length < k) : ∃ b, GenE.api_Seen.f k l m = some b ∧ (b = true ↔ l = m) := by
  unfold GenE.api_Seen.f
  by_cases h : l.length = m.length
  · rw [if_pos (by omega)]
    exact seen_l0 l m h hm l.length k 0 hk (by omega)
  · rw [if_neg (by omega)]
    exact ⟨false, rfl, (fun e => by cases e), fun e => absurd (by rw [e]) h⟩
theorem clients_l0 (l m : List S60) (hlen : l.length = m.length) (hm : l.length ≤ 1000000) (d : Nat) : ∀ (k i : Nat), d < k → i + d = l.length → ∃ b, GenE.api_Client.l0 k l m l.length i = some b ∧ (b = true ↔ l.drop i = m.drop i) := by
  induction d with
  | zero =>
    intro k i hk hi
    cases k with
    | zero => omega
    | succ k =>
      rw [GenE.api_Client.l0, if_neg (by omega)]
      refine ⟨true, rfl, fun _ => ?_, fun _ => rfl⟩
      rw [List.drop_eq_nil_of_le (by omega), List.drop_eq_nil_of_le (by omega)]
  | succ d ih =>
    intro k i hk hi
    cases k with
    | zero => omega
    | succ k =>
      have h1 : i < l.length := by omega
      have h2 : i < m.length := by omega
      rw [GenE.api_Client.l0, if_pos (by omega), if_pos (by omega), if_pos (by omega), if_pos (by omega)]
      have e1 : rd_T60 l i = l[i] := by simp [rd_T60, h1]
      have e2 : rd_T60 m i = m[i] := by simp [rd_T60, h2]
      rw [e1, e2, List.drop_eq_getElem_cons h1, List.drop_eq_getElem_cons h2]
      obtain ⟨b, hb, hbi⟩ := ih k (i + 1) (by omega) (by omega)
      have ew : wrap64 ((i : Int) + 1) = ((i + 1 : Nat) : Int) := by unfold wrap64; omega
      split
      · next h =>
        refine ⟨false, rfl, (fun e => by cases e), fun e => ?_⟩
        injection e with e _
        rw [e] at h
        simp at h
      · next h =>
        rw [ew]
        refine ⟨b, hb, ?_⟩
        rw [hbi]
        have he : l[i] = m[i] := by
          cases hx : l[i] with
          | mk a1 a2 a3 =>
            cases hy : m[i] with
            | mk b1 b2 b3 =>
              rw [hx, hy] at h
              simp at h
              rw [h.1, h.2.1, h.2.2]
        rw [he]
        exact ⟨fun e => by rw [e], fun e => (List.cons.inj e).2⟩
theorem clients_same (l m : List S60) (hm : l.length ≤ 1000000) (k : Nat) (hk : l.length < k) : ∃ b, GenE.api_Client.f k l m = some b ∧ (b = true ↔ l = m) := by
  unfold GenE.api_Client.f
  by_cases h : l.length = m.length
  · rw [if_pos (by omega)]
    exact clients_l0 l m h hm l.length k 0 hk (by omega)
  · rw [if_neg (by omega)]
    exact ⟨false, rfl, (fun e => by cases e), fun e => absurd (by rw [e]) h⟩

theorem half_same (k1 : Int) (l : List S58) (m : List S60) (k2 : Int) (l' : List S58) (m' : List S60) (hl : l.length ≤ 400000) (hm : m.length ≤ 400000) (k : Nat) (hk : 400000 < k) :
    ∃ b, GenE.gen_halves.f k k1 l m k2 l' m' = some b ∧ (b = true ↔ k1 = k2 ∧ l = l' ∧ m = m') := by
  unfold GenE.gen_halves.f
  obtain ⟨b1, h1, i1⟩ := seen_same l l' (by omega) k (by omega)
  obtain ⟨b2, h2, i2⟩ := clients_same m m' (by omega) k (by omega)
  by_cases e : k1 = k2
  · rw [if_pos e, h1, Option.bind_some]
    cases b1 with
    | true =>
      rw [if_pos rfl, h2, Option.bind_some]
      exact ⟨b2, rfl, fun h => ⟨e, i1.1 rfl, i2.1 h⟩, fun h => i2.2 h.2.2⟩
    | false =>
      rw [if_neg (by simp)]
      exact ⟨false, rfl, (fun h => by cases h), fun h => absurd (i1.2 h.2.1) (by simp)⟩
  · rw [if_neg e]
    exact ⟨false, rfl, (fun h => by cases h), fun h => absurd h.1 e⟩
theorem same_f (g h : G) (lg : GenL g 400000) (bg : GenB g) (bh : GenB h) (k : Nat) (hk : 400000 < k) :
    GenE.gen_Same.f k g.k1 g.v1 g.c1 g.k2 g.v2 g.c2 g.rq g.rp g.ls g.su g.wi h.k1 h.v1 h.c1 h.k2 h.v2 h.c2 h.rq h.rp h.ls h.su h.wi = some (sameB g h) := by
  have key : ∀ b : Bool, (b = true ↔ g = h) → some b = some (sameB g h) := by
    intro b hb
    congr 1
    rw [Bool.eq_iff_iff, hb, sameB_iff]
  obtain ⟨b1, h1, i1⟩ := half_same g.k1 g.v1 g.c1 h.k1 h.v1 h.c1 lg.h1 lg.h2 k hk
  obtain ⟨b2, h2, i2⟩ := half_same g.k2 g.v2 g.c2 h.k2 h.v2 h.c2 lg.h3 lg.h4 k hk
  have h3 : bytes_Equal.f g.rq h.rq = some (decide (g.rq = h.rq)) := congrArg some (str_same bg.1 bh.1)
  have h4 : bytes_Equal.f g.rp h.rp = some (decide (g.rp = h.rp)) := congrArg some (str_same bg.2 bh.2)
  unfold GenE.gen_Same.f
  rw [h1, h2, h3, h4]
  simp only [Option.bind_some]
  obtain ⟨k1, v1, c1, k2, v2, c2, rq, rp, ls, su, wi⟩ := g
  obtain ⟨k1', v1', c1', k2', v2', c2', rq', rp', ls', su', wi'⟩ := h
  simp only at i1 i2 key ⊢
  repeat' split
  all_goals refine key _ ?_
  all_goals simp only [G.mk.injEq]
  all_goals simp_all
theorem same_calls {w : World} {g h : G} {s1 s2 s3 s4 s5 s6 t1 t2 t3 t4 t5 t6 : Value} (hg : GenC w g s1 s2 s3 s4 s5 s6) (hh : GenC w h t1 t2 t3 t4 t5 t6) (lg : GenL g 400000) (bg : GenB g) (bh : GenB h) :
    Calls Try.prog 38 #[genV g s1 s2 s3 s4 s5 s6, genV h t1 t2 t3 t4 t5 t6] w fun e w' => e = .returned (.bool (sameB g h)) ∧ Below w.heap.size w w' := by
  obtain ⟨⟨A1, c1, rfl, l1, r1⟩, ⟨A2, c2, rfl, l2, r2⟩, ⟨A3, c3, rfl, l3, r3⟩, ⟨A4, c4, rfl, l4, r4⟩, ⟨A5, c5, rfl, l5, r5⟩, ⟨A6, c6, rfl, l6, r6⟩⟩ := hg
  obtain ⟨⟨B1, d1, rfl, m1, q1⟩, ⟨B2, d2, rfl, m2, q2⟩, ⟨B3, d3, rfl, m3, q3⟩, ⟨B4, d4, rfl, m4, q4⟩, ⟨B5, d5, rfl, m5, q5⟩, ⟨B6, d6, rfl, m6, q6⟩⟩ := hh
  obtain ⟨K, hK⟩ : ∃ K, K = 400001 := ⟨_, rfl⟩
  have hf := same_f g h lg bg bh K (by omega)
  clear hK
  exact GenE.gen_Same.calls K g.k1 A1 c1 g.v1 A2 c2 g.c1 g.k2 A3 c3 g.v2 A4 c4 g.c2 A5 c5 g.rq A6 c6 g.rp g.ls g.su g.wi h.k1 B1 d1 h.v1 B2 d2 h.c1 h.k2 B3 d3 h.v2 B4 d4 h.c2 B5 d5 h.rq B6 d6 h.rp h.ls h.su h.wi _ w r1 l1 r2 l2 r3 l3 r4 l4 r5 l5 r6 l6 q1 m1 q2 m2 q3 m3 q4 m4 q5 m5 q6 m6 hf
end Go.Proofs.Ytpanefmemabckab.GenSame
