/- The plain mathematics of a Gen's bytes: whether it may be, its bytes, the reader. -/
import Derived.Test.YtpanefmemabckaaGenRep
import Derived.Test.YtpanefmemabckaaNumRefQ
namespace Go.Proofs.Ytpanefmemabckaa.GenMath
open Go.Proofs.Ytpanefmemabckaa.NumMath Go.Proofs.Ytpanefmemabckaa.Bytes Go.Proofs.Ytpanefmemabckaa.GenS Go.Proofs.Ytpanefmemabckaa.GenRep Go.Proofs.Ytpanefmemabckaa.GenPure

abbrev Seen := S111
abbrev Cli := S114
/-- may a view be, behind a number -/
def rise : Int → List Seen → Bool
  | _, [] => true
  | a, x :: l => if x.f0 ≤ a then false else rise x.f0 l
/-- may clients be, behind numbers that were met -/
def clis : List Int → List Cli → Bool
  | _, [] => true
  | m, c :: l => if c.f0 ∈ m ∨ c.f1 = 0 then false else clis (c.f0 :: m) l
def mayH (k : Int) (v : List Seen) (c : List Cli) : Bool := rise 0 v && (decide (c.length ≤ 64) && (!(decide (k = 0) && decide (0 < v.length + c.length)) && clis [0] c))
def mayB (g : G) : Bool :=
  mayH g.k1 g.v1 g.c1 && (mayH g.k2 g.v2 g.c2 && ((decide (g.k1 = 0) || !decide (g.k1 = g.k2)) && ((g.ls || decide (g.su = 0)) && (decide (g.wi ≤ 1) && (decide (g.rq.length ≤ 16384) && decide (g.rp.length ≤ 16384))))))
/-- what a list of clients has met ahead of place i -/
def Met (c : List Cli) (i : Nat) (m : List Int) : Prop := ∀ x, x ∈ m ↔ x = 0 ∨ ∃ k y, k < i ∧ c[k]? = some y ∧ y.f0 = x
theorem met_zero (c : List Cli) : Met c 0 [0] := fun x => by
  constructor
  · intro h; exact .inl (List.mem_singleton.1 h)
  · rintro (h | ⟨k, _, h, _⟩)
    · rw [h]; exact List.mem_singleton.2 rfl
    · omega
theorem met_step {c : List Cli} {i : Nat} {m : List Int} (h : Met c i m) {y : Cli} (hy : c[i]? = some y) : Met c (i + 1) (y.f0 :: m) := fun x => by
  constructor
  · intro hx
    rcases List.mem_cons.1 hx with rfl | hx
    · exact .inr ⟨i, y, by omega, hy, rfl⟩
    · rcases (h x).1 hx with h | ⟨k, z, hk, hz, e⟩
      · exact .inl h
      · exact .inr ⟨k, z, by omega, hz, e⟩
  · rintro (hx | ⟨k, z, hk, hz, e⟩)
    · exact List.mem_cons_of_mem _ ((h x).2 (.inl hx))
    · by_cases hki : k = i
      · subst hki
        rw [hy] at hz
        injection hz with hz
        subst hz
        exact e ▸ List.mem_cons_self
      · exact List.mem_cons_of_mem _ ((h x).2 (.inr ⟨k, z, by omega, hz, e⟩))
/-- the bytes -/
def seenB : List Seen → List Nat
  | [] => []
  | x :: l => le 4 x.f0.toNat ++ (le 8 x.f1.toNat ++ seenB l)
def cliB : List Cli → List Nat
  | [] => []
  | x :: l => le 4 x.f0.toNat ++ (le 4 x.f1.toNat ++ (le 8 x.f2.toNat ++ cliB l))
theorem seenB_append (l m : List Seen) : seenB (l ++ m) = seenB l ++ seenB m := by
  induction l with
  | nil => rfl
  | cons x l ih => simp only [List.cons_append, seenB, ih, List.append_assoc]
theorem cliB_append (l m : List Cli) : cliB (l ++ m) = cliB l ++ cliB m := by
  induction l with
  | nil => rfl
  | cons x l ih => simp only [List.cons_append, cliB, ih, List.append_assoc]
theorem seenB_length (l : List Seen) : (seenB l).length = 12 * l.length := by
  induction l with
  | nil => rfl
  | cons x l ih => simp only [seenB, List.length_append, le_length, ih, List.length_cons]; omega
theorem cliB_length (l : List Cli) : (cliB l).length = 16 * l.length := by
  induction l with
  | nil => rfl
  | cons x l ih => simp only [cliB, List.length_append, le_length, ih, List.length_cons]; omega
def halfB (k : Int) (v : List Seen) (c : List Cli) : List Nat := le 4 k.toNat ++ (le 4 v.length ++ (seenB v ++ (le 4 c.length ++ cliB c)))
def natL (l : List Int) : List Nat := l.map Int.toNat
theorem natL_ofN (m : List Nat) : natL (ofN m) = m := by
  unfold natL ofN
  rw [List.map_map]
  exact (List.map_congr_left (fun x _ => by simp)).trans (List.map_id _)
theorem ofN_natL {l : List Int} (h : BytesOk l) : ofN (natL l) = l := by
  obtain ⟨m, rfl, _⟩ := bytes_of h
  rw [natL_ofN]
theorem natL_lt {l : List Int} (h : BytesOk l) : ∀ c ∈ natL l, c < 256 := by
  intro c hc
  obtain ⟨x, hx, rfl⟩ := List.mem_map.1 hc
  obtain ⟨n, rfl, hn⟩ := nat_u8 (h x hx)
  simpa using hn
def bool01 (b : Bool) : Nat := if b then 1 else 0
def genB (g : G) : List Nat := halfB g.k1 g.v1 g.c1 ++ (halfB g.k2 g.v2 g.c2 ++ (rowP (natL g.rq) ++ (rowP (natL g.rp) ++ [bool01 g.ls, g.su.toNat, g.wi.toNat])))

/-- the reader: where it stands, and its first error -/
def getS (l : List Nat) (st : Nat × Int) (s : Nat) : Nat × (Nat × Int) :=
  if st.2 = 0 then (if (getP l st.1 s).2 = 0 then ((getP l st.1 s).1, (st.1 + s, 0)) else (0, (st.1, (getP l st.1 s).2))) else (0, st)
def manyS (l : List Nat) (st : Nat × Int) (s : Nat) : Nat × (Nat × Int) :=
  if (getS l st 4).2.2 = 0 then (if (l.length - (getS l st 4).2.1) / s < (getS l st 4).1 then (0, ((getS l st 4).2.1, 5)) else getS l st 4) else (0, (getS l st 4).2)
def seenR (l : List Nat) : Nat → Nat → List Seen
  | _, 0 => []
  | a, n + 1 => ⟨(val ((l.drop a).take 4) : Nat), (val ((l.drop (a + 4)).take 8) : Nat)⟩ :: seenR l (a + 12) n
def cliR (l : List Nat) : Nat → Nat → List Cli
  | _, 0 => []
  | a, n + 1 => ⟨(val ((l.drop a).take 4) : Nat), (val ((l.drop (a + 4)).take 4) : Nat), (val ((l.drop (a + 8)).take 8) : Nat)⟩ :: cliR l (a + 16) n
theorem seenR_length (l : List Nat) (a n : Nat) : (seenR l a n).length = n := by
  induction n generalizing a with
  | zero => rfl
  | succ n ih => rw [seenR, List.length_cons, ih]
theorem cliR_length (l : List Nat) (a n : Nat) : (cliR l a n).length = n := by
  induction n generalizing a with
  | zero => rfl
  | succ n ih => rw [cliR, List.length_cons, ih]
theorem seenR_snoc (l : List Nat) (a n : Nat) : seenR l a (n + 1) = seenR l a n ++ [⟨(val ((l.drop (a + 12 * n)).take 4) : Nat), (val ((l.drop (a + 12 * n + 4)).take 8) : Nat)⟩] := by
  induction n generalizing a with
  | zero => simp [seenR]
  | succ n ih => rw [seenR, ih, seenR, List.cons_append, show a + 12 + 12 * n = a + 12 * (n + 1) from by omega]
theorem cliR_snoc (l : List Nat) (a n : Nat) : cliR l a (n + 1) = cliR l a n ++ [⟨(val ((l.drop (a + 16 * n)).take 4) : Nat), (val ((l.drop (a + 16 * n + 4)).take 4) : Nat), (val ((l.drop (a + 16 * n + 8)).take 8) : Nat)⟩] := by
  induction n generalizing a with
  | zero => simp [cliR]
  | succ n ih => rw [cliR, ih, cliR, List.cons_append, show a + 16 + 16 * n = a + 16 * (n + 1) from by omega]
structure HalfR where
  k : Int
  v : List Seen
  c : List Cli
  at_ : Nat
  e : Int
def halfS (l : List Nat) (st : Nat × Int) : HalfR :=
  let k := getS l st 4
  let n := manyS l k.2 12
  let m := manyS l (n.2.1 + 12 * n.1, n.2.2) 16
  ⟨(k.1 : Nat), seenR l n.2.1 n.1, cliR l m.2.1 m.1, m.2.1 + 16 * m.1, m.2.2⟩
def rowS (l : List Nat) (st : Nat × Int) : List Nat × (Nat × Int) :=
  if st.2 = 0 then (if (getRowP l st.1 16384).2.2 = 0 then ((getRowP l st.1 16384).1, ((getRowP l st.1 16384).2.1.toNat, 0)) else ([], (st.1, (getRowP l st.1 16384).2.2))) else ([], st)
abbrev G0 : G := ⟨0, [], [], 0, [], [], [], [], false, 0, 0⟩
structure Raw where
  g : G
  list : Nat
  at_ : Nat
  e : Int
/-- what is read, ahead of the last tests -/
def rawR (l : List Nat) : Raw :=
  let a := halfS l (0, 0)
  let b := halfS l (a.at_, a.e)
  let q := rowS l (b.at_, b.e)
  let p := rowS l q.2
  let x := getS l p.2 1
  let y := getS l x.2 1
  let z := getS l y.2 1
  ⟨⟨a.k, a.v, a.c, b.k, b.v, b.c, ofN q.1, ofN p.1, decide (x.1 = 1), (y.1 : Nat), (z.1 : Nat)⟩, x.1, z.2.1, z.2.2⟩
def genR (l : List Nat) : G × Int :=
  if (rawR l).e = 0 then (if 1 < (rawR l).list ∨ (rawR l).at_ < l.length ∨ mayB (rawR l).g = false then (G0, 5) else ((rawR l).g, 0)) else (G0, (rawR l).e)

/-! what a step of the reader leaves -/
theorem getP_ok {l : List Nat} {a s : Nat} (h : (getP l a s).2 = 0) : a + s ≤ l.length := by
  unfold getP at h
  split at h
  · cases h
  · next h1 =>
    split at h
    · cases h
    · have h2 := h1
      simp only [not_or, Int.not_lt] at h2
      omega
theorem getP_val {l : List Nat} {a s : Nat} (h : (getP l a s).2 = 0) : (getP l a s).1 = val ((l.drop a).take s) := by
  unfold getP at h ⊢
  split
  · next h1 => rw [if_pos h1] at h; cases h
  · next h1 =>
    split
    · next h2 => rw [if_neg h1, if_pos h2] at h; cases h
    · simp
theorem getP_ok_of {l : List Nat} {a s : Nat} (hs : isSize s = true) (h : a + s ≤ l.length) : getP l a s = (val ((l.drop a).take s), 0) := by
  unfold getP
  rw [if_neg (by rw [hs]; simp; omega), if_neg (by omega)]
  simp
theorem getS_le {l : List Nat} {st : Nat × Int} {s : Nat} (h : st.1 ≤ l.length) : (getS l st s).2.1 ≤ l.length := by
  unfold getS
  split
  · split
    · next h1 => exact getP_ok h1
    · exact h
  · exact h
theorem getS_err {l : List Nat} {st : Nat × Int} {s : Nat} (h : (getS l st s).2.2 ≠ 0) : (getS l st s).1 = 0 := by
  unfold getS at h ⊢
  split
  · next h1 =>
    rw [if_pos h1] at h
    split
    · next h2 => rw [if_pos h2] at h; exact absurd rfl h
    · rfl
  · rfl
theorem manyS_le {l : List Nat} {st : Nat × Int} {s : Nat} (h : st.1 ≤ l.length) : (manyS l st s).2.1 ≤ l.length := by
  unfold manyS
  split
  · split <;> exact getS_le h
  · exact getS_le h
theorem manyS_room {l : List Nat} {st : Nat × Int} {s : Nat} (h : st.1 ≤ l.length) (_ : 0 < s) : (manyS l st s).2.1 + s * (manyS l st s).1 ≤ l.length := by
  have h1 := getS_le (s := 4) h
  unfold manyS
  split
  · split
    · simpa using h1
    · next h2 =>
      have h3 : s * (getS l st 4).1 ≤ l.length - (getS l st 4).2.1 := by
        have := Nat.not_lt.1 h2
        calc s * (getS l st 4).1 ≤ s * ((l.length - (getS l st 4).2.1) / s) := Nat.mul_le_mul_left _ this
          _ ≤ l.length - (getS l st 4).2.1 := Nat.mul_div_le _ _
      omega
  · simpa using h1
theorem manyS_err {l : List Nat} {st : Nat × Int} {s : Nat} (h : (manyS l st s).2.2 ≠ 0) : (manyS l st s).1 = 0 := by
  unfold manyS at h ⊢
  split
  · next h1 =>
    rw [if_pos h1] at h
    split
    · rfl
    · next h2 => rw [if_neg h2] at h; exact absurd h1 h
  · rfl
theorem halfS_le {l : List Nat} {st : Nat × Int} (h : st.1 ≤ l.length) : (halfS l st).at_ ≤ l.length :=
  manyS_room (manyS_room (getS_le h) (by decide)) (by decide)
theorem getRowP_ok {l : List Nat} {i : Nat} {m : Int} (h : (getRowP l i m).2.2 = 0) : (getP l i 4).2 = 0 ∧ ((getP l i 4).1 : Int) ≤ m ∧ i + 4 + (getP l i 4).1 ≤ l.length ∧ (getRowP l i m).1 = (l.drop (i + 4)).take (getP l i 4).1 ∧ (getRowP l i m).2.1 = ((i + 4 + (getP l i 4).1 : Nat) : Int) := by
  unfold getRowP at h ⊢
  split
  · next h1 =>
    rw [if_pos h1] at h
    split
    · next h2 => rw [if_pos h2] at h; cases h
    · next h2 =>
      rw [if_neg h2] at h
      split
      · next h3 => rw [if_pos h3] at h; cases h
      · next h3 =>
        have := getP_ok (s := 4) h1
        refine ⟨h1, by omega, by omega, ?_, by simp⟩
        rw [show ((i : Int) + 4).toNat = i + 4 from by omega]
  · next h1 => rw [if_neg h1] at h; exact absurd h h1
theorem rowS_le {l : List Nat} {st : Nat × Int} (h : st.1 ≤ l.length) : (rowS l st).2.1 ≤ l.length := by
  unfold rowS
  split
  · split
    · next h1 =>
      obtain ⟨_, _, h2, _, h3⟩ := getRowP_ok h1
      simp only [h3]
      omega
    · exact h
  · exact h
end Go.Proofs.Ytpanefmemabckaa.GenMath
namespace Go.Proofs.Ytpanefmemabckaa.GenRaw
open Go.Proofs.Ytpanefmemabckaa.NumMath Go.Proofs.Ytpanefmemabckaa.Bytes Go.Proofs.Ytpanefmemabckaa.GenS Go.Proofs.Ytpanefmemabckaa.GenRep Go.Proofs.Ytpanefmemabckaa.GenPure Go.Proofs.Ytpanefmemabckaa.GenMath

theorem val_ltn {l : List Nat} (hb : ∀ x ∈ l, x < 256) (a s : Nat) : val ((l.drop a).take s) < 256 ^ s :=
  Nat.lt_of_lt_of_le (val_lt (l := (l.drop a).take s) (fun x hx => hb x (List.mem_of_mem_drop (List.mem_of_mem_take hx)))) (Nat.pow_le_pow_right (by decide) (by rw [List.length_take]; omega))
theorem getS_ltn {l : List Nat} (hb : ∀ x ∈ l, x < 256) (st : Nat × Int) (s : Nat) : (getS l st s).1 < 256 ^ s := by
  unfold getS
  split
  · split
    · next h1 => rw [getP_val h1]; exact val_ltn hb _ _
    · exact Nat.pow_pos (by decide)
  · exact Nat.pow_pos (by decide)
theorem seenR_ok {l : List Nat} (hb : ∀ x ∈ l, x < 256) (n a : Nat) : ∀ x ∈ seenR l a n, okS x := by
  induction n generalizing a with
  | zero => intro x hx; cases hx
  | succ n ih =>
    intro x hx
    rcases List.mem_cons.1 hx with rfl | hx
    · have h1 := val_ltn hb a 4
      have h2 := val_ltn hb (a + 4) 8
      exact ⟨⟨by simp, by simp only; omega⟩, ⟨by simp, by simp only; omega⟩⟩
    · exact ih _ x hx
theorem cliR_ok {l : List Nat} (hb : ∀ x ∈ l, x < 256) (n a : Nat) : ∀ x ∈ cliR l a n, okC x := by
  induction n generalizing a with
  | zero => intro x hx; cases hx
  | succ n ih =>
    intro x hx
    rcases List.mem_cons.1 hx with rfl | hx
    · have h1 := val_ltn hb a 4
      have h2 := val_ltn hb (a + 4) 4
      have h3 := val_ltn hb (a + 8) 8
      exact ⟨⟨by simp, by simp only; omega⟩, ⟨by simp, by simp only; omega⟩, ⟨by simp, by simp only; omega⟩⟩
    · exact ih _ x hx
theorem rowS_ok {l : List Nat} (hb : ∀ x ∈ l, x < 256) (st : Nat × Int) : (∀ x ∈ (rowS l st).1, x < 256) ∧ (rowS l st).1.length ≤ 16384 := by
  unfold rowS
  split
  · split
    · next h1 =>
      obtain ⟨_, h2, _, h3, _⟩ := getRowP_ok h1
      simp only [h3]
      exact ⟨fun x hx => hb x (List.mem_of_mem_drop (List.mem_of_mem_take hx)), by rw [List.length_take]; omega⟩
    · exact ⟨fun x hx => by simp at hx, by simp⟩
  · exact ⟨fun x hx => by simp at hx, by simp⟩
theorem halfS_w {l : List Nat} (hb : ∀ x ∈ l, x < 256) (st : Nat × Int) : (0 ≤ (halfS l st).k ∧ (halfS l st).k < 4294967296) ∧ (∀ x ∈ (halfS l st).v, okS x) ∧ ∀ x ∈ (halfS l st).c, okC x := by
  have h1 := getS_ltn hb st 4
  exact ⟨⟨by simp [halfS], by simp only [halfS]; omega⟩, seenR_ok hb _ _, cliR_ok hb _ _⟩
theorem halfS_len {l : List Nat} {st : Nat × Int} (h : st.1 ≤ l.length) : 12 * (halfS l st).v.length ≤ l.length ∧ 16 * (halfS l st).c.length ≤ l.length := by
  have h1 := manyS_room (s := 12) (st := (getS l st 4).2) (getS_le h) (by decide)
  have h2 := manyS_room (s := 16) (st := ((manyS l (getS l st 4).2 12).2.1 + 12 * (manyS l (getS l st 4).2 12).1, (manyS l (getS l st 4).2 12).2.2)) h1 (by decide)
  refine ⟨?_, ?_⟩
  · show 12 * (seenR l _ _).length ≤ _
    rw [seenR_length]; omega
  · show 16 * (cliR l _ _).length ≤ _
    rw [cliR_length]; omega
theorem ofN_bytes {l : List Nat} (hb : ∀ x ∈ l, x < 256) : BytesOk (ofN l) := by
  intro x hx
  obtain ⟨n, hn, rfl⟩ := List.mem_map.1 hx
  have := hb n hn
  unfold Lit.wf
  rw [Bool.and_eq_true]
  exact ⟨decide_eq_true (by show (0 : Int) ≤ (n : Int); omega), decide_eq_true (by show (n : Int) ≤ 255; omega)⟩
section
variable {l : List Nat}
theorem raw_w (hb : ∀ x ∈ l, x < 256) : GenW (rawR l).g := by
  have h1 := halfS_w hb (0, 0)
  have h2 := halfS_w hb ((halfS l (0, 0)).at_, (halfS l (0, 0)).e)
  exact ⟨h1.1, h1.2.1, h1.2.2, h2.1, h2.2.1, h2.2.2, ⟨by simp [rawR], by simp only [rawR]; have := getS_ltn hb (getS l (rowS l (rowS l ((halfS l ((halfS l (0, 0)).at_, (halfS l (0, 0)).e)).at_, (halfS l ((halfS l (0, 0)).at_, (halfS l (0, 0)).e)).e)).2).2 1).2 1; omega⟩, ⟨by simp [rawR], by simp only [rawR]; have := getS_ltn hb (getS l (getS l (rowS l (rowS l ((halfS l ((halfS l (0, 0)).at_, (halfS l (0, 0)).e)).at_, (halfS l ((halfS l (0, 0)).at_, (halfS l (0, 0)).e)).e)).2).2 1).2 1).2 1; omega⟩⟩
theorem raw_len : 12 * (rawR l).g.v1.length ≤ l.length ∧ 16 * (rawR l).g.c1.length ≤ l.length ∧ 12 * (rawR l).g.v2.length ≤ l.length ∧ 16 * (rawR l).g.c2.length ≤ l.length :=
  ⟨(halfS_len (Nat.zero_le _)).1, (halfS_len (Nat.zero_le _)).2, (halfS_len (halfS_le (st := (0, 0)) (Nat.zero_le _))).1, (halfS_len (halfS_le (st := (0, 0)) (Nat.zero_le _))).2⟩
theorem raw_rows (hb : ∀ x ∈ l, x < 256) : (rawR l).g.rq.length ≤ 16384 ∧ (rawR l).g.rp.length ≤ 16384 := by
  refine ⟨?_, ?_⟩
  · show (ofN _).length ≤ _
    rw [ofN_length]; exact (rowS_ok hb _).2
  · show (ofN _).length ≤ _
    rw [ofN_length]; exact (rowS_ok hb _).2
theorem raw_l (hb : ∀ x ∈ l, x < 256) (hm : l.length ≤ 1000000) : GenL (rawR l).g 400000 := by
  obtain ⟨h1, h2, h3, h4⟩ := raw_len (l := l)
  obtain ⟨h5, h6⟩ := raw_rows hb
  exact ⟨by omega, by omega, by omega, by omega, by omega, by omega⟩
theorem raw_b (hb : ∀ x ∈ l, x < 256) : GenB (rawR l).g := ⟨ofN_bytes (rowS_ok hb _).1, ofN_bytes (rowS_ok hb _).1⟩
theorem gen_cases : (genR l).1 = G0 ∨ (genR l).1 = (rawR l).g := by
  unfold genR
  split
  · split
    · exact .inl rfl
    · exact .inr rfl
  · exact .inl rfl
theorem g0_w : GenW G0 := ⟨⟨by decide, by decide⟩, by simp, by simp, ⟨by decide, by decide⟩, by simp, by simp, ⟨by decide, by decide⟩, ⟨by decide, by decide⟩⟩
theorem gen_w (hb : ∀ x ∈ l, x < 256) : GenW (genR l).1 := by
  rcases gen_cases (l := l) with h | h <;> rw [h]
  · exact g0_w
  · exact raw_w hb
theorem gen_l (hb : ∀ x ∈ l, x < 256) (hm : l.length ≤ 1000000) : GenL (genR l).1 400000 := by
  rcases gen_cases (l := l) with h | h <;> rw [h]
  · exact ⟨by decide, by decide, by decide, by decide, by decide, by decide⟩
  · exact raw_l hb hm
theorem gen_b (hb : ∀ x ∈ l, x < 256) : GenB (genR l).1 := by
  rcases gen_cases (l := l) with h | h <;> rw [h]
  · exact ⟨fun x hx => by simp at hx, fun x hx => by simp at hx⟩
  · exact raw_b hb
theorem gen_len : 12 * (genR l).1.v1.length ≤ l.length ∧ 16 * (genR l).1.c1.length ≤ l.length ∧ 12 * (genR l).1.v2.length ≤ l.length ∧ 16 * (genR l).1.c2.length ≤ l.length := by
  rcases gen_cases (l := l) with h | h <;> rw [h]
  · simp
  · exact raw_len
end
end Go.Proofs.Ytpanefmemabckaa.GenRaw
namespace Go.Proofs.Ytpanefmemabckaa.GenPuts
open Go.RowKit Go.Proofs.Ytpanefmemabckaa.NumA Go.Proofs.Ytpanefmemabckaa.NumQ Go.Proofs.Ytpanefmemabckaa.NumMath Go.Proofs.Ytpanefmemabckaa.Bytes Go.Proofs.Ytpanefmemabckaa.GenRep Go.Proofs.Ytpanefmemabckaa.GenMath Go.Proofs.YtpanefmemabckaaW.PrintWords Go.Proofs.YtpanefmemabckaaW.PrintLast
set_option linter.unusedSimpArgs false
set_option linter.unusedVariables false

theorem grown_then {W W1 W2 : World} {row : Option Nat} (h : W.grownBy W1 row) (k : W1.grownBy W2 row) : W.grownBy W2 row :=
  ⟨k.os.trans h.os, k.tape.trans h.tape, k.output.trans h.output, Nat.le_trans h.size k.size, fun b hb hne => (k.block b (Nat.lt_of_lt_of_le hb h.size) hne).trans (h.block b hb hne)⟩
theorem putP_ok {n s : Nat} (hs : s = 1 ∨ s = 2 ∨ s = 4 ∨ s = 8) (hn : n < 256 ^ s) : putP n s = (le s n, 0) := by
  unfold putP
  rw [if_pos ⟨by rcases hs with rfl | rfl | rfl | rfl <;> rfl, by simpa using hn⟩]
  simp
/-- the row of bytes grew by some -/
structure Grew (w0 W w' : World) (v : Value) (v' : Value) (l : List Nat) : Prop where
  r : RowR kB 5 w' w0.heap.size v' (ofN l)
  b : Below w0.heap.size w0 w'
  g : W.grownBy w' v.ownBlock
  a : v'.ownBlock = v.ownBlock ∨ ∃ b, v'.ownBlock = some b ∧ W.heap.size ≤ b

set_option maxRecDepth 100000 in
set_option maxHeartbeats 2000000 in
theorem put_any {w0 W : World} {v : Value} {l : List Nat} (a sz : Int) (n s : Nat) (ha : a = n) (hsz : sz = s) (hs : s = 4 ∨ s = 8) (hn : n < 256 ^ s) (hn8 : n < 18446744073709551616) (hL : l.length ≤ 1000000) (HO : RowR kB 5 W w0.heap.size v (ofN l)) (HB : Below w0.heap.size w0 W) :
    Calls Try.prog 84 #[v, .int .u64 a, .int .i64 sz] W fun e w' => ∃ v', e = .returned v' ∧ Grew w0 W w' v v' (l ++ le s n) := by
  have H := Aside0.mk (show num_Put.f 100 (n : Int) (s : Int) = some (ofN (le s n), (0 : Int)) from by have h := NumPure.put_f 100 n s (by omega); rw [putP_ok (by omega) hn] at h; exact h)
  rw [← ha, ← hsz] at H
  have LL := Aside0.mk (show (ofN l).length ≤ 1000000 from by rw [ofN_length]; exact hL)
  have LE := Aside0.mk (show (ofN (le s n)).length ≤ 8 from by rw [ofN_length, le_length]; omega)
  have EA := Aside0.mk (show ofN (l ++ le s n) = ofN l ++ ofN (le s n) from by simp [ofN])
  have O := Aside0.mk HO
  have B := Aside0.mk HB
  clear HO HB hL hn hn8 ha hsz hs
  go_enter Try.func84, Try.ntmps84
  go_wp2_with fail
  refine (num_Put.calls 100 a sz (ofN (le s n)) 0 _ H.out).mono ?_
  rintro e w1 ⟨v1, rfl, h1, hb⟩
  obtain ⟨A1, c1, rfl⟩ := Kd.R_slice h1
  have X := Aside0.mk (Kd.R_reads' h1).2.2
  have G1 := Aside0.mk (grown_of_below hb v.ownBlock)
  have S1 := Aside0.mk hb.size
  have O1 := Aside0.mk (Kd.R_below O.out hb)
  have B1 := Aside0.mk (below_then B.out B.out.size hb)
  clear h1 hb
  go_wp2_with (first | ((with_reducible refine gate_builtin (b := .append) (xs := #[.tmp 15, .tmp 16]) rfl ?_); at_builtin; refine Kd.R_append_rows kB (w0 := w0) w0.heap.size rfl (.tmp 15) (.tmp 16) 42 5 (.int .u8 0) 1 rfl Try.underlying42 Go.Proofs.Ytpanefmemabckaa.NumA.info5 rfl (by decide) (by omega) v (ofN l) (ofN (le s n)) _ _ _ (fun _ => True) (fun _ => False) rfl rfl ?aO ?aR (fun _ _ h => h) (fun _ h => h.elim) (fun _ _ => trivial) ?aB ?aS ?aL ?_; (case aR => exact X.out); (case aB => exact B1.out); (case aO => exact O1.out); (case aS => exact B1.out.size); (case aL => have := LL.out; have := LE.out; omega); intro v2 w2 ho hb hg hat; have R2 := Aside0.mk (show Grew w0 W w2 v v2 (l ++ le s n) from ⟨by rw [EA.out]; exact ho, hb, grown_then G1.out hg, hat.imp id (fun ⟨b, h1, h2⟩ => ⟨b, h1, Nat.le_trans S1.out h2⟩)⟩); clear ho hb hg hat))
  go_ret
  exact ⟨_, rfl, R2.out⟩
theorem put4 {w0 W : World} {v : Value} {l : List Nat} (a : Int) (h0 : 0 ≤ a) (h1 : a < 4294967296) (hL : l.length ≤ 1000000) (HO : RowR kB 5 W w0.heap.size v (ofN l)) (HB : Below w0.heap.size w0 W) :
    Calls Try.prog 84 #[v, .int .u64 a, .int .i64 4] W fun e w' => ∃ v', e = .returned v' ∧ Grew w0 W w' v v' (l ++ le 4 a.toNat) :=
  put_any a 4 a.toNat 4 (by omega) rfl (by decide) (by omega) (by omega) hL HO HB
theorem put8 {w0 W : World} {v : Value} {l : List Nat} (a : Int) (h0 : 0 ≤ a) (h1 : a < 18446744073709551616) (hL : l.length ≤ 1000000) (HO : RowR kB 5 W w0.heap.size v (ofN l)) (HB : Below w0.heap.size w0 W) :
    Calls Try.prog 84 #[v, .int .u64 a, .int .i64 8] W fun e w' => ∃ v', e = .returned v' ∧ Grew w0 W w' v v' (l ++ le 8 a.toNat) :=
  put_any a 8 a.toNat 8 (by omega) rfl (by decide) (by omega) (by omega) hL HO HB

set_option maxRecDepth 100000 in
set_option maxHeartbeats 2000000 in
theorem refput_any {w0 W : World} {v : Value} {l : List Nat} (a sz : Int) (n s : Nat) (ha : a = n) (hsz : sz = s) (hs : s = 4 ∨ s = 8) (hn : n < 256 ^ s) (hn8 : n < 18446744073709551616) (hL : l.length ≤ 1000000) (HO : RowR kB 5 W w0.heap.size v (ofN l)) (HB : Below w0.heap.size w0 W) :
    Calls Try.prog 85 #[v, .int .u64 a, .int .i64 sz] W fun e w' => ∃ v', e = .returned v' ∧ Grew w0 W w' v v' (l ++ le s n) := by
  have H := Aside0.mk (show cardexref01_Put.f 100 (n : Int) (s : Int) = some (ofN (le s n), (0 : Int)) from by have h := NumRefQ.put_f 100 n s (by omega) (by omega); rw [putP_ok (by omega) hn] at h; exact h)
  rw [← ha, ← hsz] at H
  have LL := Aside0.mk (show (ofN l).length ≤ 1000000 from by rw [ofN_length]; exact hL)
  have LE := Aside0.mk (show (ofN (le s n)).length ≤ 8 from by rw [ofN_length, le_length]; omega)
  have EA := Aside0.mk (show ofN (l ++ le s n) = ofN l ++ ofN (le s n) from by simp [ofN])
  have O := Aside0.mk HO
  have B := Aside0.mk HB
  clear HO HB hL hn hn8 ha hsz hs
  go_enter Try.func85, Try.ntmps85
  go_wp2_with fail
  refine (cardexref01_Put.calls 100 a sz (ofN (le s n)) 0 _ H.out).mono ?_
  rintro e w1 ⟨v1, rfl, h1, hb⟩
  obtain ⟨A1, c1, rfl⟩ := Kd.R_slice h1
  have X := Aside0.mk (Kd.R_reads' h1).2.2
  have G1 := Aside0.mk (grown_of_below hb v.ownBlock)
  have S1 := Aside0.mk hb.size
  have O1 := Aside0.mk (Kd.R_below O.out hb)
  have B1 := Aside0.mk (below_then B.out B.out.size hb)
  clear h1 hb
  go_wp2_with (first | ((with_reducible refine gate_builtin (b := .append) (xs := #[.tmp 15, .tmp 16]) rfl ?_); at_builtin; refine Kd.R_append_rows kB (w0 := w0) w0.heap.size rfl (.tmp 15) (.tmp 16) 42 5 (.int .u8 0) 1 rfl Try.underlying42 Go.Proofs.Ytpanefmemabckaa.NumA.info5 rfl (by decide) (by omega) v (ofN l) (ofN (le s n)) _ _ _ (fun _ => True) (fun _ => False) rfl rfl ?aO ?aR (fun _ _ h => h) (fun _ h => h.elim) (fun _ _ => trivial) ?aB ?aS ?aL ?_; (case aR => exact X.out); (case aB => exact B1.out); (case aO => exact O1.out); (case aS => exact B1.out.size); (case aL => have := LL.out; have := LE.out; omega); intro v2 w2 ho hb hg hat; have R2 := Aside0.mk (show Grew w0 W w2 v v2 (l ++ le s n) from ⟨by rw [EA.out]; exact ho, hb, grown_then G1.out hg, hat.imp id (fun ⟨b, h1, h2⟩ => ⟨b, h1, Nat.le_trans S1.out h2⟩)⟩); clear ho hb hg hat))
  go_ret
  exact ⟨_, rfl, R2.out⟩
theorem refput4 {w0 W : World} {v : Value} {l : List Nat} (a : Int) (h0 : 0 ≤ a) (h1 : a < 4294967296) (hL : l.length ≤ 1000000) (HO : RowR kB 5 W w0.heap.size v (ofN l)) (HB : Below w0.heap.size w0 W) :
    Calls Try.prog 85 #[v, .int .u64 a, .int .i64 4] W fun e w' => ∃ v', e = .returned v' ∧ Grew w0 W w' v v' (l ++ le 4 a.toNat) :=
  refput_any a 4 a.toNat 4 (by omega) rfl (by decide) (by omega) (by omega) hL HO HB
theorem refput8 {w0 W : World} {v : Value} {l : List Nat} (a : Int) (h0 : 0 ≤ a) (h1 : a < 18446744073709551616) (hL : l.length ≤ 1000000) (HO : RowR kB 5 W w0.heap.size v (ofN l)) (HB : Below w0.heap.size w0 W) :
    Calls Try.prog 85 #[v, .int .u64 a, .int .i64 8] W fun e w' => ∃ v', e = .returned v' ∧ Grew w0 W w' v v' (l ++ le 8 a.toNat) :=
  refput_any a 8 a.toNat 8 (by omega) rfl (by decide) (by omega) (by omega) hL HO HB

end Go.Proofs.Ytpanefmemabckaa.GenPuts
namespace Go.Proofs.Ytpanefmemabckaa.GenInv
open Go.Proofs.Ytpanefmemabckaa.NumMath Go.Proofs.Ytpanefmemabckaa.Bytes Go.Proofs.Ytpanefmemabckaa.GenS Go.Proofs.Ytpanefmemabckaa.GenRep Go.Proofs.Ytpanefmemabckaa.GenPure Go.Proofs.Ytpanefmemabckaa.GenMath Go.Proofs.Ytpanefmemabckaa.GenRaw

theorem drop_at {l x r : List Nat} {a : Nat} (h : l.drop a = x ++ r) : l.drop (a + x.length) = r := by
  rw [← List.drop_drop, h, List.drop_left]
theorem drop_len {l x r : List Nat} {a : Nat} (h : l.drop a = x ++ r) (ha : a ≤ l.length) : a + x.length ≤ l.length := by
  have := congrArg List.length h
  rw [List.length_drop, List.length_append] at this
  omega
theorem getS_of {l : List Nat} {a s n : Nat} {r : List Nat} (hs : isSize s = true) (hn : n < 256 ^ s) (ha : a ≤ l.length) (h : l.drop a = le s n ++ r) : getS l (a, 0) s = (n, (a + s, 0)) := by
  have h1 := drop_len h ha
  rw [le_length] at h1
  unfold getS
  rw [if_pos rfl, getP_ok_of hs h1, if_pos rfl, h, show (le s n ++ r).take s = le s n from List.take_left' (le_length s n), val_le, Nat.mod_eq_of_lt hn]
theorem manyS_of {l : List Nat} {a s n : Nat} {r : List Nat} (hs : 0 < s) (hn : n < 4294967296) (ha : a ≤ l.length) (h : l.drop a = le 4 n ++ r) (hr : s * n ≤ r.length) : manyS l (a, 0) s = (n, (a + 4, 0)) := by
  have h0 := getS_of (s := 4) rfl (by omega) ha h
  have h1 := drop_len h ha
  have h2 := congrArg List.length h
  rw [List.length_drop, List.length_append, le_length] at h2
  rw [le_length] at h1
  unfold manyS
  rw [h0, if_pos rfl, if_neg]
  show ¬ (l.length - (a + 4)) / s < n
  rw [Nat.not_lt, Nat.le_div_iff_mul_le hs]
  rw [Nat.mul_comm]; omega
theorem val_at {l r : List Nat} {a s n : Nat} (hn : n < 256 ^ s) (h : l.drop a = le s n ++ r) : val ((l.drop a).take s) = n := by
  rw [h, show (le s n ++ r).take s = le s n from by rw [List.take_left' (le_length s n)], val_le, Nat.mod_eq_of_lt hn]
theorem nat_back {x : Int} (h : 0 ≤ x) : ((x.toNat : Nat) : Int) = x := Int.toNat_of_nonneg h
theorem seenR_of {l : List Nat} (v : List Seen) : ∀ (a : Nat) (r : List Nat), (∀ x ∈ v, okS x) → l.drop a = seenB v ++ r → seenR l a v.length = v := by
  induction v with
  | nil => intros; rfl
  | cons x v ih =>
    intro a r hv h
    have hx := hv x List.mem_cons_self
    simp only [seenB, List.append_assoc] at h
    have h2 := drop_at h
    rw [le_length] at h2
    have h3 := drop_at h2
    rw [le_length] at h3
    rw [List.length_cons, seenR, val_at (by have := hx.1; omega) h, val_at (by have := hx.2; omega) h2, ih (a + 12) r (fun y hy => hv y (List.mem_cons_of_mem _ hy)) h3, nat_back hx.1.1, nat_back hx.2.1]
theorem cliR_of {l : List Nat} (v : List Cli) : ∀ (a : Nat) (r : List Nat), (∀ x ∈ v, okC x) → l.drop a = cliB v ++ r → cliR l a v.length = v := by
  induction v with
  | nil => intros; rfl
  | cons x v ih =>
    intro a r hv h
    have hx := hv x List.mem_cons_self
    simp only [cliB, List.append_assoc] at h
    have h2 := drop_at h
    rw [le_length] at h2
    have h3 := drop_at h2
    rw [le_length] at h3
    have h4 := drop_at h3
    rw [le_length] at h4
    rw [List.length_cons, cliR, val_at (by have := hx.1; omega) h, val_at (by have := hx.2.1; omega) h2, val_at (by have := hx.2.2; omega) h3, ih (a + 16) r (fun y hy => hv y (List.mem_cons_of_mem _ hy)) h4, nat_back hx.1.1, nat_back hx.2.1.1, nat_back hx.2.2.1]
theorem halfB_len (k : Int) (v : List Seen) (c : List Cli) : (halfB k v c).length = 12 + 12 * v.length + 16 * c.length := by
  simp only [halfB, List.length_append, le_length, seenB_length, cliB_length]
  omega
theorem halfS_of {l : List Nat} {a : Nat} {k : Int} {v : List Seen} {c : List Cli} {r : List Nat} (hk : 0 ≤ k ∧ k < 4294967296) (hv : ∀ x ∈ v, okS x) (hc : ∀ x ∈ c, okC x) (lv : v.length < 4294967296) (lc : c.length < 4294967296)
    (ha : a ≤ l.length) (h : l.drop a = halfB k v c ++ r) : halfS l (a, 0) = ⟨k, v, c, a + (halfB k v c).length, 0⟩ := by
  simp only [halfB, List.append_assoc] at h
  have e0 := getS_of (s := 4) rfl (by omega) ha h
  have a0 := drop_len h ha
  have h1 := drop_at h
  rw [le_length] at a0 h1
  have e1 := manyS_of (s := 12) (by decide) lv a0 h1 (by rw [List.length_append, seenB_length]; omega)
  have a1 := drop_len h1 a0
  have h2 := drop_at h1
  rw [le_length] at a1 h2
  have e2 := seenR_of v _ _ hv h2
  have a2 := drop_len h2 a1
  have h3 := drop_at h2
  rw [seenB_length] at a2 h3
  have e3 := manyS_of (s := 16) (by decide) lc a2 h3 (by rw [List.length_append, cliB_length]; omega)
  have h4 := drop_at h3
  rw [le_length] at h4
  have e4 := cliR_of c _ _ hc h4
  unfold halfS
  simp only [e0, e1, e2, e3, e4, nat_back hk.1, halfB_len]
  rw [show a + 4 + 4 + 12 * v.length + 4 + 16 * c.length = a + (12 + 12 * v.length + 16 * c.length) from by omega]
theorem rowP_eq {q : List Nat} (hq : q.length ≤ 16384) : rowP q = le 4 q.length ++ q := by
  unfold rowP putP
  rw [if_pos ⟨rfl, by show q.length < 4294967296; omega⟩]
  rfl
theorem rowS_of {l : List Nat} {a : Nat} {q r : List Nat} (hq : q.length ≤ 16384) (ha : a ≤ l.length) (h : l.drop a = rowP q ++ r) : rowS l (a, 0) = (q, (a + (rowP q).length, 0)) := by
  rw [rowP_eq hq] at h ⊢
  rw [List.append_assoc] at h
  have a0 := drop_len h ha
  have h1 := drop_at h
  have h2 := congrArg List.length h1
  rw [le_length] at a0 h1 h2
  rw [List.length_drop, List.length_append] at h2
  have g0 : getP l a 4 = (q.length, 0) := by
    have := getP_ok_of (l := l) (a := a) (s := 4) rfl a0
    rw [val_at (n := q.length) (by omega) h] at this
    exact this
  have g1 : getRowP l a 16384 = (q, ((a + 4 + q.length : Nat) : Int), 0) := by
    unfold getRowP
    rw [g0, if_pos rfl, if_neg (by omega), if_neg (by omega)]
    rw [show ((a : Int) + 4).toNat = a + 4 from by omega, h1, List.take_left]
    simp
  unfold rowS
  rw [if_pos rfl, g1, if_pos rfl, List.length_append, le_length, show a + 4 + q.length = a + (4 + q.length) from by omega]
  simp only [Int.toNat_natCast]
theorem natL_len (l : List Int) : (natL l).length = l.length := by unfold natL; rw [List.length_map]
theorem bool01_lt (b : Bool) : bool01 b < 2 := by cases b <;> decide
theorem byte_le {n : Nat} (h : n < 256) : le 1 n = [n] := by simp [le, Nat.mod_eq_of_lt h]
theorem may_l {g : G} (h : mayB g = true) : g.rq.length ≤ 16384 ∧ g.rp.length ≤ 16384 := by
  unfold mayB at h
  simp only [Bool.and_eq_true, decide_eq_true_eq] at h
  exact ⟨h.2.2.2.2.2.1, h.2.2.2.2.2.2⟩
/-- what is read of a Gen's bytes is the Gen -/
theorem back {g : G} (gw : GenW g) (gb : GenB g) (gl : GenL g 400000) (hm : mayB g = true) : genR (genB g) = (g, 0) := by
  obtain ⟨q1, q2⟩ := may_l hm
  obtain ⟨l, hl⟩ : ∃ l, l = genB g := ⟨_, rfl⟩
  have h0 : l.drop 0 = genB g ++ [] := by rw [List.drop_zero, List.append_nil, hl]
  simp only [genB, List.append_assoc] at h0
  have e1 := halfS_of gw.k1 gw.v1 gw.c1 (by have := gl.h1; omega) (by have := gl.h2; omega) (Nat.zero_le _) h0
  have a1 := drop_len h0 (Nat.zero_le _)
  have h1 := drop_at h0
  have e2 := halfS_of gw.k2 gw.v2 gw.c2 (by have := gl.h3; omega) (by have := gl.h4; omega) a1 h1
  have a2 := drop_len h1 a1
  have h2 := drop_at h1
  have e3 := rowS_of (by rw [natL_len]; exact q1) a2 h2
  have a3 := drop_len h2 a2
  have h3 := drop_at h2
  have e4 := rowS_of (by rw [natL_len]; exact q2) a3 h3
  have a4 := drop_len h3 a3
  have h4 := drop_at h3
  have b1 := bool01_lt g.ls
  have n2 := gw.su
  have n3 := gw.wi
  have h4' : l.drop (0 + (halfB g.k1 g.v1 g.c1).length + (halfB g.k2 g.v2 g.c2).length + (rowP (natL g.rq)).length + (rowP (natL g.rp)).length) = le 1 (bool01 g.ls) ++ (le 1 g.su.toNat ++ (le 1 g.wi.toNat ++ [])) := by
    rw [h4, byte_le (by omega), byte_le (by omega), byte_le (by omega)]; rfl
  obtain ⟨A, hA⟩ : ∃ A, A = 0 + (halfB g.k1 g.v1 g.c1).length + (halfB g.k2 g.v2 g.c2).length + (rowP (natL g.rq)).length + (rowP (natL g.rp)).length := ⟨_, rfl⟩
  rw [← hA] at h4' a4 e4
  have e5 := getS_of (s := 1) rfl (by omega) a4 h4'
  have a5 := drop_len h4' a4
  have h5 := drop_at h4'
  rw [le_length] at a5 h5
  have e6 := getS_of (s := 1) rfl (by omega) a5 h5
  have a6 := drop_len h5 a5
  have h6 := drop_at h5
  rw [le_length] at a6 h6
  have e7 := getS_of (s := 1) rfl (by omega) a6 h6
  have a7 := drop_len h6 a6
  have h7 := congrArg List.length (drop_at h6)
  rw [le_length] at a7 h7
  rw [List.length_drop, List.length_nil] at h7
  have hr : rawR l = ⟨g, bool01 g.ls, A + 1 + 1 + 1, 0⟩ := by
    unfold rawR
    simp only [e1, e2, e3, e4, e5, e6, e7, ofN_natL gb.1, ofN_natL gb.2, nat_back n2.1, nat_back n3.1]
    have : decide (bool01 g.ls = 1) = g.ls := by cases g.ls <;> rfl
    rw [this]
  rw [← hl]
  unfold genR
  rw [hr]
  simp only [if_true]
  rw [if_neg]
  rw [hm]
  simp
  omega
/-! what is read has just the bytes that were read -/
section
variable {l : List Nat}
theorem le_at (hb : ∀ x ∈ l, x < 256) {a s : Nat} (h : a + s ≤ l.length) : l.drop a = le s (val ((l.drop a).take s)) ++ l.drop (a + s) := by
  have h1 : ((l.drop a).take s).length = s := by rw [List.length_take, List.length_drop]; omega
  have h2 := le_val (l := (l.drop a).take s) (fun x hx => hb x (List.mem_of_mem_drop (List.mem_of_mem_take hx)))
  rw [h1] at h2
  rw [h2, ← List.drop_drop, List.take_append_drop]
theorem getS_inv (hb : ∀ x ∈ l, x < 256) {st : Nat × Int} {s : Nat} (h : (getS l st s).2.2 = 0) : st.2 = 0 ∧ l.drop st.1 = le s (getS l st s).1 ++ l.drop (getS l st s).2.1 := by
  unfold getS at h ⊢
  by_cases h1 : st.2 = 0
  · rw [if_pos h1] at h ⊢
    by_cases h2 : (getP l st.1 s).2 = 0
    · rw [if_pos h2]
      refine ⟨h1, ?_⟩
      rw [getP_val h2]
      exact le_at hb (getP_ok h2)
    · rw [if_neg h2] at h
      exact absurd h h2
  · rw [if_neg h1] at h
    exact absurd h h1
theorem manyS_inv (hb : ∀ x ∈ l, x < 256) {st : Nat × Int} {s : Nat} (h : (manyS l st s).2.2 = 0) : st.2 = 0 ∧ l.drop st.1 = le 4 (manyS l st s).1 ++ l.drop (manyS l st s).2.1 := by
  unfold manyS at h ⊢
  by_cases h1 : (getS l st 4).2.2 = 0
  · rw [if_pos h1] at h ⊢
    split
    · next h2 => rw [if_pos h2] at h; cases h
    · exact getS_inv hb h1
  · rw [if_neg h1] at h
    exact absurd h h1
theorem seenR_inv (hb : ∀ x ∈ l, x < 256) (n : Nat) : ∀ a, a + 12 * n ≤ l.length → l.drop a = seenB (seenR l a n) ++ l.drop (a + 12 * n) := by
  induction n with
  | zero => intro a _; rfl
  | succ n ih =>
    intro a h
    have h1 := le_at hb (a := a) (s := 4) (by omega)
    have h2 := le_at hb (a := a + 4) (s := 8) (by omega)
    have h3 := ih (a + 12) (by omega)
    rw [seenR, seenB]
    simp only [Int.toNat_natCast, List.append_assoc]
    rw [show a + 12 * (n + 1) = a + 12 + 12 * n from by omega, ← h3, ← h2, ← h1]
theorem cliR_inv (hb : ∀ x ∈ l, x < 256) (n : Nat) : ∀ a, a + 16 * n ≤ l.length → l.drop a = cliB (cliR l a n) ++ l.drop (a + 16 * n) := by
  induction n with
  | zero => intro a _; rfl
  | succ n ih =>
    intro a h
    have h1 := le_at hb (a := a) (s := 4) (by omega)
    have h2 := le_at hb (a := a + 4) (s := 4) (by omega)
    have h3 := le_at hb (a := a + 8) (s := 8) (by omega)
    have h4 := ih (a + 16) (by omega)
    rw [cliR, cliB]
    simp only [Int.toNat_natCast, List.append_assoc]
    rw [show a + 16 * (n + 1) = a + 16 + 16 * n from by omega, ← h4, ← h3, ← h2, ← h1]
theorem halfS_inv (hb : ∀ x ∈ l, x < 256) {st : Nat × Int} (ha : st.1 ≤ l.length) (h : (halfS l st).e = 0) : st.2 = 0 ∧ l.drop st.1 = halfB (halfS l st).k (halfS l st).v (halfS l st).c ++ l.drop (halfS l st).at_ := by
  have r1 := manyS_room (s := 12) (st := (getS l st 4).2) (getS_le ha) (by decide)
  have r2 := manyS_room (s := 16) (st := ((manyS l (getS l st 4).2 12).2.1 + 12 * (manyS l (getS l st 4).2 12).1, (manyS l (getS l st 4).2 12).2.2)) r1 (by decide)
  obtain ⟨x1, y1⟩ := manyS_inv hb (st := ((manyS l (getS l st 4).2 12).2.1 + 12 * (manyS l (getS l st 4).2 12).1, (manyS l (getS l st 4).2 12).2.2)) (s := 16) h
  obtain ⟨x2, y2⟩ := manyS_inv hb x1
  obtain ⟨x3, y3⟩ := getS_inv hb x2
  refine ⟨x3, ?_⟩
  have s1 := seenR_inv hb _ _ r1
  have s2 := cliR_inv hb _ _ r2
  unfold halfS halfB
  simp only [Int.toNat_natCast, seenR_length, cliR_length, List.append_assoc]
  rw [← s2, ← y1, ← s1, ← y2, ← y3]
theorem rowS_inv (hb : ∀ x ∈ l, x < 256) {st : Nat × Int} (h : (rowS l st).2.2 = 0) : st.2 = 0 ∧ l.drop st.1 = rowP (rowS l st).1 ++ l.drop (rowS l st).2.1 := by
  have hq := (rowS_ok hb st).2
  unfold rowS at h hq ⊢
  by_cases h1 : st.2 = 0
  · rw [if_pos h1] at h hq ⊢
    by_cases h2 : (getRowP l st.1 16384).2.2 = 0
    · rw [if_pos h2] at hq ⊢
      refine ⟨h1, ?_⟩
      obtain ⟨g0, g1, g2, g3, g4⟩ := getRowP_ok h2
      simp only at hq ⊢
      rw [rowP_eq hq, g3, g4]
      have l1 : ((l.drop (st.1 + 4)).take (getP l st.1 4).1).length = (getP l st.1 4).1 := by rw [List.length_take, List.length_drop]; omega
      rw [l1, List.append_assoc]
      have := le_at hb (a := st.1) (s := 4) (by omega)
      have gv := getP_val (s := 4) g0
      rw [show ((4 : Nat) : Int) = 4 from rfl] at gv
      rw [← gv] at this
      rw [this]
      congr 1
      rw [Int.toNat_natCast]
      have e := List.take_append_drop (getP l st.1 4).1 (l.drop (st.1 + 4))
      rw [List.drop_drop] at e
      exact e.symm
    · rw [if_neg h2] at h
      exact absurd h h2
  · rw [if_neg h1] at h
    exact absurd h h1
theorem genR_err (h : (genR l).2 ≠ 0) : (genR l).1 = G0 := by
  unfold genR at h ⊢
  split
  · split
    · rfl
    · next h1 h2 => rw [if_pos h1, if_neg h2] at h; exact absurd rfl h
  · rfl
theorem fore (hb : ∀ x ∈ l, x < 256) (h : (genR l).2 = 0) : mayB (genR l).1 = true ∧ genB (genR l).1 = l := by
  unfold genR at h ⊢
  by_cases h1 : (rawR l).e = 0
  · rw [if_pos h1] at h ⊢
    by_cases h2 : 1 < (rawR l).list ∨ (rawR l).at_ < l.length ∨ mayB (rawR l).g = false
    · rw [if_pos h2] at h; cases h
    · rw [if_neg h2]
      simp only [not_or, Bool.not_eq_false] at h2
      obtain ⟨h3, h4, h5⟩ := h2
      refine ⟨h5, ?_⟩
      unfold rawR at h1 h3 h4 ⊢
      simp only at h1 h3 h4 ⊢
      obtain ⟨x1, y1⟩ := getS_inv hb h1
      obtain ⟨x2, y2⟩ := getS_inv hb x1
      obtain ⟨x3, y3⟩ := getS_inv hb x2
      obtain ⟨x4, y4⟩ := rowS_inv hb x3
      obtain ⟨x5, y5⟩ := rowS_inv hb x4
      obtain ⟨x6, y6⟩ := halfS_inv hb (halfS_le (st := (0, 0)) (Nat.zero_le _)) x5
      obtain ⟨x7, y7⟩ := halfS_inv hb (st := (0, 0)) (Nat.zero_le _) x6
      rw [List.drop_zero] at y7
      have b2 := getS_ltn hb (getS l (rowS l (rowS l ((halfS l ((halfS l (0, 0)).at_, (halfS l (0, 0)).e)).at_, (halfS l ((halfS l (0, 0)).at_, (halfS l (0, 0)).e)).e)).2).2 1).2 1
      have b3 := getS_ltn hb (getS l (getS l (rowS l (rowS l ((halfS l ((halfS l (0, 0)).at_, (halfS l (0, 0)).e)).at_, (halfS l ((halfS l (0, 0)).at_, (halfS l (0, 0)).e)).e)).2).2 1).2 1).2 1
      rw [byte_le (by omega)] at y1 y2 y3
      rw [List.drop_eq_nil_of_le (Nat.not_lt.1 h4)] at y1
      unfold genB
      simp only [natL_ofN, Int.toNat_natCast]
      have e : ∀ n : Nat, n ≤ 1 → bool01 (decide (n = 1)) = n := by
        intro n hn
        rcases (show n = 0 ∨ n = 1 from by omega) with rfl | rfl <;> rfl
      rw [e _ (by omega)]
      refine Eq.trans ?_ y7.symm
      rw [y6, y5, y4, y3, y2, y1]
      rfl
  · rw [if_neg h1] at h
    exact absurd h h1
end
end Go.Proofs.Ytpanefmemabckaa.GenInv
