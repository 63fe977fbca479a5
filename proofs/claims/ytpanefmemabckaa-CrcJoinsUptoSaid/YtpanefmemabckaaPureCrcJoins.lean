/- What CrcJoins asks of pieces is true of every pieces that are together not too long for memory. -/
import Derived.Test.YtpanefmemabckaaCrcJx1
import Derived.Test.YtpanefmemabckaaCrcPure
namespace Go.Proofs.Ytpanefmemabckaa.PureJ
open Go.RowKit Go.Proofs.Ytpanefmemabckaa.CrcJ Go.Proofs.Ytpanefmemabckaa.CrcA Go.Proofs.Ytpanefmemabckaa.CrcPure Go.Proofs.YtpanefmemabckaaW.PrintWords Go.Proofs.YtpanefmemabckaaW.PrintLast

theorem len_take (L : List (List Nat)) (i : Nat) : (L.take i).flatten.length ≤ L.flatten.length := by
  have h := congrArg (fun M => (List.flatten M).length) (List.take_append_drop i L)
  simp only [List.flatten_append, List.length_append] at h; omega
theorem len_drop (L : List (List Nat)) (i : Nat) : (L.drop i).flatten.length ≤ L.flatten.length := by
  have h := congrArg (fun M => (List.flatten M).length) (List.take_append_drop i L)
  simp only [List.flatten_append, List.length_append] at h; omega
theorem len_mem {L : List (List Nat)} {p : List Nat} (h : p ∈ L) : p.length ≤ L.flatten.length := by
  obtain ⟨s, t, rfl⟩ := List.append_of_mem h
  simp only [List.flatten_append, List.flatten_cons, List.length_append]; omega
theorem small {L : List (List Nat)} (hb : ∀ p ∈ L, ∀ c ∈ p, c < 256) : ∀ c ∈ L.flatten, c < 256 := by
  intro c hc
  obtain ⟨p, hp, hcp⟩ := List.mem_flatten.1 hc
  exact hb p hp c hcp
theorem rd_L (L : List (List Nat)) (i : Nat) (h : i < L.length) : rd_L2 (L.map ofN) (i : Int) = ofN L[i] := by
  simp [rd_L2, h]

/-- the first i pieces -/
def P (L : List (List Nat)) (i : Nat) : List Nat := (L.take i).flatten
/-- the last i of the first m pieces -/
def Q (L : List (List Nat)) (m i : Nat) : List Nat := ((L.take m).drop (m - i)).flatten
theorem P_succ (L : List (List Nat)) (i : Nat) (h : i < L.length) : P L (i + 1) = P L i ++ L[i] := by
  unfold P; rw [List.take_succ_eq_append_getElem h, List.flatten_append, List.flatten_singleton]
theorem Q_succ (L : List (List Nat)) (m i : Nat) (hm : m ≤ L.length) (h : i < m) : Q L m (i + 1) = L[m - 1 - i]'(by omega) ++ Q L m i := by
  unfold Q
  rw [show m - (i + 1) = m - 1 - i from by omega, List.drop_eq_getElem_cons (by rw [List.length_take]; omega), List.flatten_cons, List.getElem_take, show m - 1 - i + 1 = m - i from by omega]
theorem P_len (L : List (List Nat)) (i : Nat) : (P L i).length ≤ L.flatten.length := len_take L i
theorem Q_len (L : List (List Nat)) (m i : Nat) : (Q L m i).length ≤ L.flatten.length := Nat.le_trans (len_drop _ _) (len_take L m)
theorem P_small {L : List (List Nat)} (hb : ∀ p ∈ L, ∀ c ∈ p, c < 256) (i : Nat) : ∀ c ∈ P L i, c < 256 := small fun p hp => hb p (List.mem_of_mem_take hp)
theorem Q_small {L : List (List Nat)} (hb : ∀ p ∈ L, ∀ c ∈ p, c < 256) (m i : Nat) : ∀ c ∈ Q L m i, c < 256 := small fun p hp => hb p (List.mem_of_mem_take (List.mem_of_mem_drop hp))

theorem loop (L : List (List Nat)) (hb : ∀ p ∈ L, ∀ c ∈ p, c < 256) (hT : L.flatten.length ≤ 140737488351232) (hL : L.length ≤ 140737488351232) (m : Nat) (hm : m = min L.length 30) (d : Nat) :
    ∀ (k i : Nat), m - i = d → i ≤ m → L.flatten.length + 100 + 2 * d ≤ k →
    cardexlaw03_CrcJoins.l0 k (L.map ofN) (ofN (P L i)) ((CM.of (P L i) : Nat) : Int) ((CM.of (P L i) : Nat) : Int) ((CM.of (Q L m i) : Nat) : Int) ((Q L m i).length : Nat) (i : Nat) = some true := by
  have hml : m ≤ L.length := by omega
  induction d with
  | zero =>
    intro k i hd hi hk
    obtain ⟨k, rfl⟩ : ∃ j, k = j + 2 := ⟨k - 2, by omega⟩
    have him : i = m := by omega
    have hQ : Q L m i = P L i := by
      subst him; unfold Q P; rw [Nat.sub_self, List.drop_zero]
    have ej : cardexlaw03_CrcJoins.j1 (k + 1) (L.map ofN) (ofN (P L i)) ((CM.of (P L i) : Nat) : Int) ((CM.of (P L i) : Nat) : Int) ((CM.of (Q L m i) : Nat) : Int) ((Q L m i).length : Nat) (i : Nat) false = some true := by
      rw [cardexlaw03_CrcJoins.j1, if_neg (by decide), of_f (P L i) (Nat.le_trans (P_len L i) hT) (P_small hb i) k (by have := P_len L i; omega), Option.bind_some, hQ, if_pos rfl, if_pos rfl, if_pos rfl]
      rfl
    rw [cardexlaw03_CrcJoins.l0]
    by_cases h : (i : Int) < ((L.map ofN).length : Int)
    · rw [if_pos h, decide_eq_false (show ¬ (i : Int) < 30 from by rw [List.length_map] at h; omega)]
      exact ej
    · rw [if_neg h]
      exact ej
  | succ d ih =>
    intro k i hd hi hk
    obtain ⟨k, rfl⟩ : ∃ j, k = j + 2 := ⟨k - 2, by omega⟩
    have hlt : i < L.length := by omega
    have hj : m - 1 - i < L.length := by omega
    have hmem := List.getElem_mem hlt
    have hmem' := List.getElem_mem hj
    have l1 := len_mem hmem
    have l2 := len_mem hmem'
    have l3 := P_len L i
    have l4 := P_len L (i + 1)
    have l5 := Q_len L m i
    have ew : wrap64 (((mn ((L.map ofN).length : Int) 30) - 1) - (i : Int)) = ((m - 1 - i : Nat) : Int) := by
      have : mn ((L.map ofN).length : Int) 30 = (m : Int) := by
        unfold mn; rw [List.length_map]; split <;> omega
      rw [this]; unfold wrap64; omega
    rw [cardexlaw03_CrcJoins.l0, if_pos (by rw [List.length_map]; omega), decide_eq_true (show (i : Int) < 30 from by omega), cardexlaw03_CrcJoins.j1, if_pos rfl, if_pos (by omega), if_pos (by rw [List.length_map]; omega),
      rd_L L i hlt, ofN_length, ofN_length, if_pos (by have := congrArg List.length (P_succ L i hlt); rw [List.length_append] at this; omega),
      of_f L[i] (by omega) (hb _ hmem) k (by omega), Option.bind_some,
      join_f k (CM.of (P L i)) (CM.of L[i]) L[i].length (by omega) (by omega) (CM.of_lt (P_small hb i)) (CM.of_lt (hb _ hmem)), Option.bind_some,
      more_f L[i] (by omega) (hb _ hmem) k (CM.of (P L i)) (by omega) (CM.of_lt (P_small hb i)), Option.bind_some, ew, if_pos (by omega), if_pos (by rw [List.length_map]; omega),
      rd_L L (m - 1 - i) hj, ofN_length, of_f L[m - 1 - i] (by omega) (hb _ hmem') k (by omega), Option.bind_some,
      join_f k (CM.of L[m - 1 - i]) (CM.of (Q L m i)) (Q L m i).length (by omega) (by omega) (CM.of_lt (hb _ hmem')) (CM.of_lt (Q_small hb m i)), Option.bind_some,
      CM.join_of, CM.join_of, CM.more_of, ← P_succ L i hlt, ← Q_succ L m i hml (by omega)]
    have e1 : ofN (P L i) ++ ofN L[i] = ofN (P L (i + 1)) := by rw [P_succ L i hlt]; simp [ofN]
    clear ew
    have e2 : wrap64 (((Q L m i).length : Int) + (L[m - 1 - i].length : Int)) = ((Q L m (i + 1)).length : Nat) := by
      rw [Q_succ L m i hml (by omega), List.length_append]; unfold wrap64; omega
    rw [e1, e2]
    clear e2
    have e3 : wrap64 ((i : Int) + 1) = ((i + 1 : Nat) : Int) := by unfold wrap64; omega
    rw [e3]
    clear e1 e3 l1 l2 l3 l4 l5
    exact ih k (i + 1) (by omega) (by omega) (by omega)

theorem joins (L : List (List Nat)) (hb : ∀ p ∈ L, ∀ c ∈ p, c < 256) (hT : L.flatten.length ≤ 140737488351232) (hL : L.length ≤ 140737488351232) :
    cardexlaw03_CrcJoins.f (L.flatten.length + 200) (L.map ofN) = some true := by
  have e0 := of_f [] (by simp) (by simp) (L.flatten.length + 200) (by simp)
  have h := loop L hb hT hL (min L.length 30) rfl (min L.length 30) (L.flatten.length + 200) 0 (by omega) (by omega) (by omega)
  have hP : P L 0 = [] := by simp [P]
  have hQ : Q L (min L.length 30) 0 = [] := by unfold Q; rw [Nat.sub_zero, List.drop_of_length_le (by rw [List.length_take]; omega)]; rfl
  rw [hP, hQ] at h
  unfold cardexlaw03_CrcJoins.f
  have e0' : crc_Of.f (L.flatten.length + 200) ([] : List Int) = some ((CM.of [] : Nat) : Int) := e0
  rw [e0', Option.bind_some, Option.bind_some, Option.bind_some]
  exact h
end Go.Proofs.Ytpanefmemabckaa.PureJ
