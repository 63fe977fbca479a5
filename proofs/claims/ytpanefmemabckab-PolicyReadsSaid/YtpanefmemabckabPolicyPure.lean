/- What the reference's functions on a device's bytes compute. -/
import Derived.Test.YtpanefmemabckabNumRef
import Derived.Test.YtpanefmemabckabPolRx
import Derived.Test.YtpanefmemabckabPolicyRead
import Derived.Test.YtpanefmemabckabPolicyBytes
namespace Go.Proofs.Ytpanefmemabckab.PolicyPure
open Go.RowKit Go.Proofs.Ytpanefmemabckab.NumA Go.Proofs.Ytpanefmemabckab.NumR Go.Proofs.Ytpanefmemabckab.PolR Go.Proofs.Ytpanefmemabckab.NumMath Go.Proofs.Ytpanefmemabckab.Bytes Go.Proofs.Ytpanefmemabckab.PolicyRead Go.Proofs.YtpanefmemabckabW.PrintWords Go.Proofs.YtpanefmemabckabW.PrintLast

/-- a device's bytes -/
def bytesP (k t o : Nat) (b : Bool) : List Nat := le 4 k ++ le 4 t ++ le 4 o ++ [if b then 1 else 0]
theorem bytesP_length (k t o : Nat) (b : Bool) : (bytesP k t o b).length = 13 := by simp [bytesP, le_length]
theorem bytesP_lt (k t o : Nat) (b : Bool) : ∀ c ∈ bytesP k t o b, c < 256 := by
  intro c hc
  unfold bytesP at hc
  simp only [List.mem_append, List.mem_singleton] at hc
  rcases hc with ((hc | hc) | hc) | hc
  · exact le_lt _ _ c hc
  · exact le_lt _ _ c hc
  · exact le_lt _ _ c hc
  · subst hc; split <;> omega
theorem at_one (b : List Nat) (h : 12 < b.length) : at_ b 12 1 = b.getD 12 0 := by
  unfold at_
  rw [List.drop_eq_getElem_cons h, List.getD_eq_getElem?_getD, List.getElem?_eq_getElem h]
  show b[12] + 256 * 0 = b[12]
  omega
theorem ref_read (b : List Nat) (hb : ∀ c ∈ b, c < 256) (hs : b.length ≤ 140737488351232) :
    cardexref23_Read.f 100 (ofN b) = some ((keyP b 0 : Int), (keyP b 4 : Int), (keyP b 8 : Int), wipeP b, (errP b : Int)) := by
  unfold cardexref23_Read.f
  rw [ofN_length]
  by_cases h : b.length < 13
  · have g : good b = false := decide_eq_false (by omega)
    rw [if_pos (by omega)]
    simp [keyP, wipeP, errP, g, h]
  · have g0 := NumRef.get_f b hb hs 0 4 100 (by omega)
    have g1 := NumRef.get_f b hb hs 4 4 100 (by omega)
    have g2 := NumRef.get_f b hb hs 8 4 100 (by omega)
    have e0 := getP_at b 0 4 (by decide) (by omega)
    have e1 := getP_at b 4 4 (by decide) (by omega)
    have e2 := getP_at b 8 4 (by decide) (by omega)
    have l0 : at_ b 0 4 < 4294967296 := at_lt hb 0 4
    have l1 : at_ b 4 4 < 4294967296 := at_lt hb 4 4
    have l2 : at_ b 8 4 < 4294967296 := at_lt hb 8 4
    rw [show getP b 0 4 = _ from e0] at g0
    rw [show getP b 4 4 = _ from e1] at g1
    rw [show getP b 8 4 = _ from e2] at g2
    rw [if_neg (by omega), g0, g1, g2]
    simp only [Option.bind_some]
    rw [show rd (ofN b) 12 = ((b.getD 12 0 : Nat) : Int) from rd_ofN b 12, ← at_one b (by omega)]
    by_cases h13 : 13 < b.length
    · have g : good b = false := decide_eq_false (by omega)
      rw [if_pos (by omega)]
      simp [keyP, wipeP, errP, g, h]
    · rw [if_neg (by omega), if_pos (by omega)]
      by_cases hx : at_ b 12 1 ≤ 1
      · have g : good b = true := decide_eq_true (by omega)
        rw [if_neg (by omega)]
        simp only [keyP, wipeP, errP, g, h, if_true, if_false, Bool.true_and]
        have m0 : ((at_ b 0 4 : Nat) : Int) % 4294967296 = (at_ b 0 4 : Nat) := by omega
        have m1 : ((at_ b 4 4 : Nat) : Int) % 4294967296 = (at_ b 4 4 : Nat) := by omega
        have m2 : ((at_ b 8 4 : Nat) : Int) % 4294967296 = (at_ b 8 4 : Nat) := by omega
        have m3 : (((at_ b 12 1 : Nat) : Int) == 1) = decide (at_ b 12 1 = 1) := by rw [Bool.eq_iff_iff]; simp; omega
        rw [m0, m1, m2, m3]; rfl
      · have g : good b = false := decide_eq_false (by omega)
        rw [if_pos (by omega)]
        simp [keyP, wipeP, errP, g, h]
theorem ref_put4 (n : Nat) (h : n < 4294967296) : cardexref01_Put.f 100 (IntKind.u64.wrap (n : Int)) 4 = some (ofN (le 4 n), 0) := by
  have e : IntKind.u64.wrap (n : Int) = (n : Int) := by show (n : Int) % 18446744073709551616 = _; omega
  rw [e, NumRef.put_f 100 n 4 (by omega) (by omega)]
  have e : putP n 4 = (le 4 n, 0) := by
    unfold putP
    rw [if_pos ⟨rfl, by show n < 256 ^ 4; omega⟩]; rfl
  rw [e]
theorem ref_bytes (k t o : Nat) (b : Bool) (hk : k < 4294967296) (ht : t < 4294967296) (ho : o < 4294967296) :
    cardexref23_Bytes.f 100 k t o b = some (ofN (bytesP k t o b)) := by
  unfold cardexref23_Bytes.f
  rw [ref_put4 k hk, ref_put4 t ht, ref_put4 o ho]
  simp only [Option.bind_some, ofN_length, le_length, List.length_append]
  cases b
  · simp [bytesP, ofN]
  · simp [bytesP, ofN]
/-- the device of a device's bytes -/
theorem read_bytes (k t o : Nat) (b : Bool) (hk : k < 4294967296) (ht : t < 4294967296) (ho : o < 4294967296) :
    keyP (bytesP k t o b) 0 = k ∧ keyP (bytesP k t o b) 4 = t ∧ keyP (bytesP k t o b) 8 = o ∧ wipeP (bytesP k t o b) = b ∧ errP (bytesP k t o b) = 0 := by
  have a0 : at_ (bytesP k t o b) 0 4 = k := by
    unfold at_ bytesP
    rw [List.drop_zero, List.append_assoc, List.append_assoc, List.take_left' (le_length 4 k), val_le]; omega
  have a1 : at_ (bytesP k t o b) 4 4 = t := by
    unfold at_ bytesP
    rw [List.append_assoc, List.append_assoc, List.drop_left' (le_length 4 k), List.take_left' (le_length 4 t), val_le]; omega
  have a2 : at_ (bytesP k t o b) 8 4 = o := by
    unfold at_ bytesP
    rw [List.append_assoc, List.drop_left' (by simp [le_length]), List.take_left' (le_length 4 o), val_le]; omega
  have a3 : at_ (bytesP k t o b) 12 1 = if b then 1 else 0 := by
    unfold at_ bytesP
    rw [List.drop_left' (by simp [le_length])]
    simp [val]
  have g : good (bytesP k t o b) = true := decide_eq_true ⟨bytesP_length k t o b, by rw [a3]; split <;> omega⟩
  refine ⟨by rw [keyP, if_pos g, a0], by rw [keyP, if_pos g, a1], by rw [keyP, if_pos g, a2], ?_, ?_⟩
  · rw [wipeP, g, a3]; cases b <;> rfl
  · rw [errP, if_neg (by rw [bytesP_length]; omega), if_pos g]
/-- the bytes of the device that was read -/
theorem bytes_read (b : List Nat) (hb : ∀ c ∈ b, c < 256) (h : errP b = 0) : bytesP (keyP b 0) (keyP b 4) (keyP b 8) (wipeP b) = b := by
  have g : good b = true := by
    unfold errP at h
    split at h
    · cases h
    · split at h
      · assumption
      · cases h
  obtain ⟨hl, hx⟩ := of_decide_eq_true g
  have t4 : ∀ i, i + 4 ≤ 13 → le 4 (at_ b i 4) = (b.drop i).take 4 := by
    intro i hi
    have hlen : ((b.drop i).take 4).length = 4 := by rw [List.length_take, List.length_drop]; omega
    have := le_val (l := (b.drop i).take 4) (fun c hc => hb c (List.mem_of_mem_drop (List.mem_of_mem_take hc)))
    rw [hlen] at this
    exact this
  have w1 : [if wipeP b = true then 1 else 0] = b.drop 12 := by
    have h12 : (b.drop 12).length = 1 := by rw [List.length_drop]; omega
    obtain ⟨c, hc⟩ := List.length_eq_one_iff.1 h12
    have e : at_ b 12 1 = c := by unfold at_; rw [hc]; simp [val]
    rw [wipeP, g, hc, e]
    rw [e] at hx
    have : c = 0 ∨ c = 1 := by omega
    rcases this with rfl | rfl <;> rfl
  unfold bytesP
  rw [keyP, if_pos g, keyP, if_pos g, keyP, if_pos g, t4 0 (by omega), t4 4 (by omega), t4 8 (by omega), w1, List.drop_zero]
  have d : ∀ i, b.drop i = (b.drop i).take 4 ++ b.drop (i + 4) := by
    intro i
    rw [show b.drop (i + 4) = (b.drop i).drop 4 from by rw [List.drop_drop], List.take_append_drop]
  conv => rhs; rw [← List.drop_zero (l := b), d 0, d (0 + 4), d (0 + 4 + 4)]
  simp [List.append_assoc]
/-- what was not read -/
theorem err_read (b : List Nat) (h : errP b ≠ 0) : keyP b 0 = 0 ∧ keyP b 4 = 0 ∧ keyP b 8 = 0 ∧ wipeP b = false ∧ (errP b = 4 ∨ errP b = 5) := by
  have g : good b = false := by
    cases hg : good b with
    | false => rfl
    | true =>
      have := of_decide_eq_true hg
      exact absurd (by rw [errP, if_neg (by omega), if_pos hg]) h
  refine ⟨by simp [keyP, g], by simp [keyP, g], by simp [keyP, g], by simp [wipeP, g], ?_⟩
  unfold errP
  rw [g]
  split
  · exact .inl rfl
  · exact .inr rfl
/-- what Read answers, way by way -/
theorem readV_ways (b : List Nat) (hb : ∀ c ∈ b, c < 256) :
    (readV b = .tuple #[.agg #[.int .u32 0, .int .u32 0, .int .u32 0, .bool false], .int .i64 4]) ∨ (readV b = .tuple #[.agg #[.int .u32 0, .int .u32 0, .int .u32 0, .bool false], .int .i64 5]) ∨
    ∃ (k t o : Nat) (x : Bool), k < 4294967296 ∧ t < 4294967296 ∧ o < 4294967296 ∧ readV b = .tuple #[.agg #[.int .u32 k, .int .u32 t, .int .u32 o, .bool x], .int .i64 0] ∧ bytesP k t o x = b := by
  by_cases h : errP b = 0
  · refine .inr (.inr ⟨keyP b 0, keyP b 4, keyP b 8, wipeP b, ?_, ?_, ?_, by unfold readV; rw [h]; rfl, bytes_read b hb h⟩)
    all_goals
      unfold keyP
      split
      · exact at_lt hb _ 4
      · omega
  · obtain ⟨e0, e1, e2, e3, e4⟩ := err_read b h
    rcases e4 with e4 | e4
    · exact .inl (by unfold readV; rw [e0, e1, e2, e3, e4]; rfl)
    · exact .inr (.inl (by unfold readV; rw [e0, e1, e2, e3, e4]; rfl))
end Go.Proofs.Ytpanefmemabckab.PolicyPure
