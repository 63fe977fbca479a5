/- The plain mathematics of numbers and rows as bytes: a number's bytes, a number of bytes, marks. -/
import Derived.Test.YtpanefmemabckaaBytes
namespace Go.Proofs.Ytpanefmemabckaa.NumMath
open Go.Proofs.Ytpanefmemabckaa.Bytes

/-- a number's bytes, the least first -/
def le : Nat → Nat → List Nat
  | 0, _ => []
  | s + 1, n => n % 256 :: le s (n / 256)
/-- the number of bytes -/
def val : List Nat → Nat
  | [] => 0
  | c :: l => c + 256 * val l
theorem le_length (s n : Nat) : (le s n).length = s := by
  induction s generalizing n with
  | zero => rfl
  | succ s ih => rw [le, List.length_cons, ih]
theorem le_lt (s n : Nat) : ∀ c ∈ le s n, c < 256 := by
  induction s generalizing n with
  | zero => simp [le]
  | succ s ih =>
    intro c hc
    rcases List.mem_cons.1 hc with rfl | hc
    · omega
    · exact ih _ c hc
theorem le_snoc (s n : Nat) : le (s + 1) n = le s n ++ [n / 256 ^ s % 256] := by
  induction s generalizing n with
  | zero => simp [le]
  | succ s ih =>
    rw [le, ih, le, List.cons_append, Nat.div_div_eq_div_mul, ← Nat.pow_succ']
theorem val_lt {l : List Nat} (h : ∀ c ∈ l, c < 256) : val l < 256 ^ l.length := by
  induction l with
  | nil => decide
  | cons c l ih =>
    have h1 := h c List.mem_cons_self
    have h2 := ih (fun d hd => h d (List.mem_cons_of_mem _ hd))
    rw [val, List.length_cons, Nat.pow_succ]
    omega
theorem val_append (l m : List Nat) : val (l ++ m) = val l + 256 ^ l.length * val m := by
  induction l with
  | nil => simp [val]
  | cons c l ih =>
    rw [List.cons_append, val, ih, val, List.length_cons, Nat.pow_succ, Nat.mul_add, ← Nat.mul_assoc, Nat.mul_comm 256 (256 ^ _), Nat.add_assoc]
theorem val_le (s n : Nat) : val (le s n) = n % 256 ^ s := by
  induction s generalizing n with
  | zero => simp [le, val, Nat.mod_one]
  | succ s ih =>
    rw [le, val, ih, Nat.pow_succ', Nat.mod_mul]
theorem le_val {l : List Nat} (h : ∀ c ∈ l, c < 256) : le l.length (val l) = l := by
  induction l with
  | nil => rfl
  | cons c l ih =>
    have h1 := h c List.mem_cons_self
    rw [List.length_cons, le, val, show (c + 256 * val l) % 256 = c from by omega, show (c + 256 * val l) / 256 = val l from by omega, ih (fun d hd => h d (List.mem_cons_of_mem _ hd))]

/-- is a number of bytes a size -/
def isSize (a : Int) : Bool := decide (a = 1 ∨ a = 2 ∨ a = 4 ∨ a = 8)
theorem isSize_nat {a : Int} (h : isSize a = true) : ∃ s : Nat, a = s ∧ (s = 1 ∨ s = 2 ∨ s = 4 ∨ s = 8) := by
  have h := of_decide_eq_true h
  rcases h with rfl | rfl | rfl | rfl
  · exact ⟨1, rfl, by decide⟩
  · exact ⟨2, rfl, by decide⟩
  · exact ⟨4, rfl, by decide⟩
  · exact ⟨8, rfl, by decide⟩

/-- a number's bytes, or the error -/
def putP (n : Nat) (a : Int) : List Nat × Int := if isSize a = true ∧ n < 256 ^ a.toNat then (le a.toNat n, 0) else ([], 2)
/-- the number at a place, or the error -/
def getP (l : List Nat) (i a : Int) : Nat × Int :=
  if isSize a = false ∨ i < 0 ∨ (l.length : Int) < i then (0, 2) else if (l.length : Int) - i < a then (0, 4) else (val ((l.drop i.toNat).take a.toNat), 0)
def rowP (l : List Nat) : List Nat := (putP l.length 4).1 ++ l
def getRowP (l : List Nat) (i most : Int) : List Nat × Int × Int :=
  if (getP l i 4).2 = 0 then (if most < ((getP l i 4).1 : Int) then ([], 0, 3) else if (l.length : Int) - (i + 4) < ((getP l i 4).1 : Int) then ([], 0, 4) else ((l.drop (i + 4).toNat).take (getP l i 4).1, i + 4 + (getP l i 4).1, 0)) else ([], 0, (getP l i 4).2)
/-- the groups of a mark ahead of its last one, the least first -/
def groups : Nat → Nat → List Nat
  | 0, _ => []
  | f + 1, m => if m = 0 then [] else (m % 128 + 128) :: groups f (m / 128)
def markP (n : Nat) : List Nat := (groups 5 (n / 128)).reverse ++ [n % 128]
/-- what is read of a mark: the number so far, is it the first byte, the place -/
def gmP : Nat → Bool → Int → List Nat → Nat × Int × Int
  | _, _, _, [] => (0, 0, 4)
  | n, b, i, c :: t => if (b = true ∧ c = 128) ∨ 33554432 ≤ n then (0, 0, 5) else if c < 128 then (n * 128 + c % 128, i + 1, 0) else gmP (n * 128 + c % 128) false (i + 1) t
def getMarkP (l : List Nat) (i : Int) : Nat × Int × Int := if i < 0 ∨ (l.length : Int) < i then (0, 0, 2) else gmP 0 true i (l.drop i.toNat)

theorem getP_ok {l : List Nat} {i a : Int} {n : Nat} (h : getP l i a = (n, 0)) : isSize a = true ∧ 0 ≤ i ∧ i + a ≤ l.length ∧ n = val ((l.drop i.toNat).take a.toNat) := by
  unfold getP at h
  split at h
  · cases h
  · next h1 =>
    split at h
    · cases h
    · next h2 =>
      have hs : isSize a = true := by
        cases hh : isSize a with
        | true => rfl
        | false => exact absurd (.inl hh) h1
      simp only [Prod.mk.injEq, and_true] at h
      exact ⟨hs, by omega, by omega, h.symm⟩
theorem getP_err (l : List Nat) (i a : Int) : (getP l i a).2 = 0 ∨ (getP l i a).2 = 2 ∨ (getP l i a).2 = 4 := by
  unfold getP
  split
  · exact .inr (.inl rfl)
  · split
    · exact .inr (.inr rfl)
    · exact .inl rfl
theorem getP_lt {l : List Nat} (h : ∀ c ∈ l, c < 256) {i a : Int} {n : Nat} (hg : getP l i a = (n, 0)) : n < 256 ^ a.toNat := by
  obtain ⟨hs, h0, h1, rfl⟩ := getP_ok hg
  have hb := val_lt (l := (l.drop i.toNat).take a.toNat) (fun c hc => h c (List.mem_of_mem_drop (List.mem_of_mem_take hc)))
  rw [List.length_take, List.length_drop] at hb
  have : min a.toNat (l.length - i.toNat) = a.toNat := by omega
  rwa [this] at hb
/-- what was put is got -/
theorem get_put {n s : Nat} (hs : isSize (s : Int) = true) (hn : n < 256 ^ s) (l m : List Nat) : getP (l ++ le s n ++ m) l.length s = (n, 0) := by
  unfold getP
  have hl : (l ++ le s n ++ m).length = l.length + s + m.length := by rw [List.length_append, List.length_append, le_length]
  rw [if_neg (by rw [hl, hs]; simp; omega), if_neg (by rw [hl]; omega)]
  rw [show ((l.length : Int)).toNat = l.length from by omega, show ((s : Int)).toNat = s from by omega, List.append_assoc, List.drop_left, List.take_left' (le_length s n), val_le, Nat.mod_eq_of_lt hn]

theorem groups_lt (f m : Nat) : ∀ c ∈ groups f m, 128 ≤ c ∧ c < 256 := by
  induction f generalizing m with
  | zero => simp [groups]
  | succ f ih =>
    intro c hc
    rw [groups] at hc
    split at hc
    · cases hc
    · rcases List.mem_cons.1 hc with rfl | hc
      · omega
      · exact ih _ c hc
theorem groups_length (f m : Nat) : (groups f m).length ≤ f := by
  induction f generalizing m with
  | zero => simp [groups]
  | succ f ih =>
    rw [groups]
    split
    · simp
    · have := ih (m / 128)
      rw [List.length_cons]; omega
theorem groups_length_of (f : Nat) : ∀ m j, m < 128 ^ j → (groups f m).length ≤ j := by
  induction f with
  | zero => intro m j _; simp [groups]
  | succ f ih =>
    intro m j hm
    rw [groups]
    split
    · simp
    · next h0 =>
      cases j with
      | zero => rw [Nat.pow_zero] at hm; omega
      | succ j =>
        have := ih (m / 128) j (by rw [Nat.pow_succ] at hm; omega)
        rw [List.length_cons]; omega
theorem markP_lt (n : Nat) : ∀ c ∈ markP n, c < 256 := by
  intro c hc
  rcases List.mem_append.1 hc with hc | hc
  · exact (groups_lt 5 _ c (List.mem_reverse.1 hc)).2
  · rw [List.mem_singleton.1 hc]; omega
theorem markP_length (n : Nat) (h : n < 4294967296) : 1 ≤ (markP n).length ∧ (markP n).length ≤ 5 := by
  have h1 := groups_length_of 5 (n / 128) 4 (by have : (128 : Nat) ^ 4 = 268435456 := by decide
                                                omega)
  rw [markP, List.length_append, List.length_reverse, List.length_singleton]
  omega

/-- the groups ahead of the last one are read -/
theorem gm_groups (f : Nat) : ∀ (m : Nat) (i : Int) (t : List Nat), m < 128 ^ f → m < 33554432 →
    gmP 0 true i ((groups f m).reverse ++ t) = if m = 0 then gmP 0 true i t else gmP m false (i + (groups f m).length) t := by
  induction f with
  | zero =>
    intro m i t hm _
    rw [Nat.pow_zero] at hm
    rw [if_pos (by omega)]; rfl
  | succ f ih =>
    intro m i t hm h25
    rw [groups]
    by_cases h0 : m = 0
    · rw [if_pos h0, if_pos h0]; rfl
    · rw [if_neg h0, if_neg h0, List.reverse_cons, List.append_assoc, ih (m / 128) i _ (by rw [Nat.pow_succ] at hm; omega) (by omega)]
      rw [List.singleton_append, List.length_cons]
      by_cases h1 : m / 128 = 0
      · have e : groups f (m / 128) = [] := by
          rw [h1]
          cases f with
          | zero => rfl
          | succ f => rw [groups, if_pos rfl]
        rw [if_pos h1, gmP, if_neg (by omega), if_neg (by omega), e]
        rw [show 0 * 128 + (m % 128 + 128) % 128 = m from by omega]
        rfl
      · rw [if_neg h1, gmP, if_neg (by simp; omega), if_neg (by omega)]
        rw [show m / 128 * 128 + (m % 128 + 128) % 128 = m from by omega, Int.add_assoc]
        rfl
/-- a mark is read -/
theorem gm_mark (n : Nat) (h : n < 4294967296) (i : Int) (t : List Nat) : gmP 0 true i (markP n ++ t) = (n, i + (markP n).length, 0) := by
  have h5 : (128 : Nat) ^ 5 = 34359738368 := by decide
  rw [markP, List.append_assoc, gm_groups 5 (n / 128) i _ (by omega) (by omega), List.length_append, List.length_reverse, List.singleton_append, List.length_singleton]
  by_cases h0 : n / 128 = 0
  · have e : groups 5 (n / 128) = [] := by rw [h0]; rfl
    rw [if_pos h0, gmP, if_neg (by omega), if_pos (by omega), e]
    simp; omega
  · rw [if_neg h0, gmP, if_neg (by simp; omega), if_pos (by omega)]
    simp; omega
/-- a mark that another one begins with is the other one -/
theorem mark_prefix {n m : Nat} (hn : n < 4294967296) (hm : m < 4294967296) (h : markP n = (markP m).take (markP n).length) : n = m := by
  have e : markP m = markP n ++ (markP m).drop (markP n).length := by
    conv => lhs; rw [← List.take_append_drop (markP n).length (markP m)]
    rw [← h]
  have h1 := gm_mark n hn 0 ((markP m).drop (markP n).length)
  have h2 := gm_mark m hm 0 []
  rw [← e] at h1
  rw [List.append_nil] at h2
  rw [h1] at h2
  exact (Prod.mk.inj h2).1
theorem getMark_put (n : Nat) (h : n < 4294967296) (l t : List Nat) : getMarkP (l ++ markP n ++ t) l.length = (n, ((l.length + (markP n).length : Nat) : Int), 0) := by
  unfold getMarkP
  rw [if_neg (by rw [List.length_append, List.length_append]; omega), show ((l.length : Int)).toNat = l.length from by omega, List.append_assoc, List.drop_left, gm_mark n h]
  simp
theorem getRow_put (r : List Nat) (h : r.length < 4294967296) (l t : List Nat) : getRowP (l ++ rowP r ++ t) l.length r.length = (r, ((l.length + 4 + r.length : Nat) : Int), 0) := by
  have e4 : (256 : Nat) ^ 4 = 4294967296 := by decide
  have hp : putP r.length 4 = (le 4 r.length, 0) := by
    unfold putP
    rw [if_pos ⟨by decide, by rw [show ((4 : Int)).toNat = 4 from rfl, e4]; exact h⟩]; rfl
  have e : l ++ rowP r ++ t = l ++ le 4 r.length ++ (r ++ t) := by rw [rowP, hp]; simp only [List.append_assoc]
  have hg : getP (l ++ rowP r ++ t) l.length 4 = (r.length, 0) := by
    rw [e]
    exact get_put (s := 4) (by decide) (by rw [e4]; exact h) l (r ++ t)
  have hl : (l ++ rowP r ++ t).length = l.length + 4 + r.length + t.length := by
    rw [e, List.length_append, List.length_append, List.length_append, le_length]; omega
  unfold getRowP
  rw [hg, if_pos rfl, if_neg (by simp), if_neg (by rw [hl]; simp; omega)]
  have hd : (l ++ rowP r ++ t).drop (((l.length : Int) + 4).toNat) = r ++ t := by
    rw [e, show (((l.length : Int) + 4).toNat) = (l ++ le 4 r.length).length from by rw [List.length_append, le_length]; omega, List.drop_left]
  simp only [hd, List.take_left]
  simp
end Go.Proofs.Ytpanefmemabckaa.NumMath
