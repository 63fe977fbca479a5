/- Lists of bytes, as the walk has them (lists of integers) and as plain mathematics has them (lists of natural numbers). -/
import Derived.Test.YtpanefmemabckaaWMore
import Derived.Laws.BitsAllLaws
import Derived.OpenShut
import Derived.Laws.Strings
namespace Go.Proofs.Ytpanefmemabckaa.Bytes
open Go.RowKit Go.Proofs.YtpanefmemabckaaW.PrintWords Go.Proofs.YtpanefmemabckaaW.PrintLast

/-- a list of natural numbers, as the walk has it -/
def ofN (l : List Nat) : List Int := l.map fun (n : Nat) => (n : Int)
theorem ofN_length (l : List Nat) : (ofN l).length = l.length := by simp [ofN]
theorem ofN_nil : ofN [] = [] := rfl
theorem ofN_append (l m : List Nat) : ofN (l ++ m) = ofN l ++ ofN m := by simp [ofN]
theorem ofN_snoc (l : List Nat) (c : Nat) : ofN l ++ [(c : Int)] = ofN (l ++ [c]) := by simp [ofN]
theorem ofN_cons (a : Nat) (m : List Nat) : ofN (a :: m) = (a : Int) :: ofN m := rfl
theorem ofN_take (l : List Nat) (k : Nat) : (ofN l).take k = ofN (l.take k) := by simp [ofN, List.map_take]
theorem ofN_drop (l : List Nat) (k : Nat) : (ofN l).drop k = ofN (l.drop k) := by simp [ofN, List.map_drop]
theorem ofN_reverse (l : List Nat) : (ofN l).reverse = ofN l.reverse := by simp [ofN]
theorem ofN_replicate (k c : Nat) : List.replicate k (c : Int) = ofN (List.replicate k c) := by simp [ofN]
theorem ofN_set (l : List Nat) (i c : Nat) : (ofN l).set i (c : Int) = ofN (l.set i c) := by simp [ofN, List.map_set]
theorem ofN_inj {l m : List Nat} (h : ofN l = ofN m) : l = m := by
  induction l generalizing m with
  | nil => cases m with
    | nil => rfl
    | cons b m => cases h
  | cons a l ih => cases m with
    | nil => cases h
    | cons b m =>
      rw [ofN_cons, ofN_cons] at h
      injection h with h1 h2
      rw [ih h2, Int.ofNat_inj.mp h1]
theorem rd_ofN (l : List Nat) (i : Nat) : rd (ofN l) (i : Int) = ((l.getD i 0 : Nat) : Int) := by
  simp [rd, ofN, List.getD_eq_getElem?_getD, List.getElem?_map]
  cases l[i]? <;> rfl
theorem getD_lt {l : List Nat} (hb : ∀ c ∈ l, c < 256) (i : Nat) : l.getD i 0 < 256 := by
  rw [List.getD_eq_getElem?_getD]
  cases h : l[i]? with
  | none => simp
  | some c => exact hb c (List.mem_of_getElem? h)
/-- what a law's argument is: a list of bytes -/
theorem bytes_of {l : List Int} (h : ∀ x ∈ l, (Lit.int .u8 x).wf = true) : ∃ m : List Nat, l = ofN m ∧ ∀ c ∈ m, c < 256 := by
  induction l with
  | nil => exact ⟨[], rfl, by simp⟩
  | cons a l ih =>
    obtain ⟨m, rfl, hm⟩ := ih (fun x hx => h x (List.mem_cons_of_mem _ hx))
    obtain ⟨h0, h1⟩ := bounds_u8 (h a List.mem_cons_self)
    obtain ⟨n, rfl⟩ := Int.eq_ofNat_of_zero_le h0
    refine ⟨n :: m, rfl, fun c hc => ?_⟩
    rcases List.mem_cons.1 hc with rfl | hc
    · omega
    · exact hm c hc
theorem nat_u32 {x : Int} (h : (Lit.int .u32 x).wf = true) : ∃ n : Nat, x = n ∧ n < 4294967296 := by
  obtain ⟨h0, h1⟩ := bounds_u32 h
  obtain ⟨n, rfl⟩ := Int.eq_ofNat_of_zero_le h0
  exact ⟨n, rfl, by omega⟩
theorem nat_u64 {x : Int} (h : (Lit.int .u64 x).wf = true) : ∃ n : Nat, x = n ∧ n < 18446744073709551616 := by
  obtain ⟨h0, h1⟩ := bounds_u64 h
  obtain ⟨n, rfl⟩ := Int.eq_ofNat_of_zero_le h0
  exact ⟨n, rfl, by omega⟩
theorem nat_u8 {x : Int} (h : (Lit.int .u8 x).wf = true) : ∃ n : Nat, x = n ∧ n < 256 := by
  obtain ⟨h0, h1⟩ := bounds_u8 h
  obtain ⟨n, rfl⟩ := Int.eq_ofNat_of_zero_le h0
  exact ⟨n, rfl, by omega⟩

/-- the comparison of two rows of bytes as strings is that of the rows -/
theorem str_eq {l m : List Nat} (hl : ∀ c ∈ l, c < 256) (hm : ∀ c ∈ m, c < 256) : ((strOfNums (ofN l)).toList == (strOfNums (ofN m)).toList) = decide (l = m) := by
  rw [ByteArray.toList_eq, ByteArray.toList_eq, strOfNums_data, strOfNums_data]
  have key : ∀ l : List Nat, (∀ c ∈ l, c < 256) → ((ofN l).map fun n => UInt8.ofNat n.toNat).map (fun u => u.toNat) = l := by
    intro l h
    simp only [ofN, List.map_map]
    conv => rhs; rw [← List.map_id l]
    apply List.map_congr_left
    intro c hc
    have := h c hc
    simp
    omega
  by_cases h : l = m
  · subst h; simp
  · rw [decide_eq_false h, beq_eq_false_iff_ne]
    intro h'
    apply h
    rw [← key l hl, ← key m hm, h']
end Go.Proofs.Ytpanefmemabckaa.Bytes
