/- The plain mathematics of a rest of 32 bits: it is moved on by bits, it is linear, and nothing is lost. -/
namespace Go.Proofs.Ytpanefmemabckaa.CM

/-- the divisor -/
def D : Nat := 2197175160

/-- a rest, moved on by a bit -/
def bit (r : Nat) : Nat := if r % 2 = 0 then r / 2 else (r / 2) ^^^ D

def bits : Nat → Nat → Nat
  | 0, r => r
  | n + 1, r => bits n (bit r)

theorem xor_half (a b : Nat) : (a ^^^ b) / 2 = (a / 2) ^^^ (b / 2) := by
  have := Nat.xor_div_two_pow (a := a) (b := b) (n := 1)
  simpa using this

theorem xor_mod2 (a b : Nat) : (a ^^^ b) % 2 = (a % 2 + b % 2) % 2 := by
  have := Nat.xor_mod_two_pow (a := a) (b := b) (n := 1)
  rw [show (2:Nat)^1 = 2 from rfl] at this
  rw [this]
  rcases Nat.mod_two_eq_zero_or_one a with h | h <;> rcases Nat.mod_two_eq_zero_or_one b with h' | h' <;> rw [h, h'] <;> rfl

theorem xor_left_comm (a b c : Nat) : a ^^^ (b ^^^ c) = b ^^^ (a ^^^ c) := by
  rw [← Nat.xor_assoc, Nat.xor_comm a b, Nat.xor_assoc]

theorem xor_cancel_right (a b : Nat) : (a ^^^ b) ^^^ b = a := by
  rw [Nat.xor_assoc, Nat.xor_self, Nat.xor_zero]

theorem xor_cancel (a b : Nat) : a ^^^ (a ^^^ b) = b := by
  rw [← Nat.xor_assoc, Nat.xor_self, Nat.zero_xor]

theorem bit_xor (a b : Nat) : bit (a ^^^ b) = bit a ^^^ bit b := by
  unfold bit
  rw [xor_half, xor_mod2]
  rcases Nat.mod_two_eq_zero_or_one a with h | h <;> rcases Nat.mod_two_eq_zero_or_one b with h' | h' <;> rw [h, h']
  · simp
  · simp [Nat.xor_assoc]
  · simp [Nat.xor_comm, xor_left_comm]
  · have e : (a / 2) ^^^ D ^^^ ((b / 2) ^^^ D) = (a / 2) ^^^ (b / 2) := by
      rw [Nat.xor_assoc, Nat.xor_comm D, Nat.xor_assoc, Nat.xor_self, Nat.xor_zero]
    simp [e]

theorem bit_zero : bit 0 = 0 := rfl

theorem D_lt : D < 4294967296 := by decide

theorem xor_lt {a b : Nat} (ha : a < 4294967296) (hb : b < 4294967296) : a ^^^ b < 4294967296 := by
  have := Nat.xor_lt_two_pow (x := a) (y := b) (n := 32) (by simpa using ha) (by simpa using hb)
  simpa using this

theorem bit_lt {r : Nat} (h : r < 4294967296) : bit r < 4294967296 := by
  unfold bit
  split
  · omega
  · exact xor_lt (by omega) D_lt

theorem bits_zero (n : Nat) : bits n 0 = 0 := by
  induction n with
  | zero => rfl
  | succ n ih => rw [bits, bit_zero, ih]

theorem bits_xor (n a b : Nat) : bits n (a ^^^ b) = bits n a ^^^ bits n b := by
  induction n generalizing a b with
  | zero => rfl
  | succ n ih => rw [bits, bit_xor, ih]; rfl

theorem bits_add (n m r : Nat) : bits (n + m) r = bits m (bits n r) := by
  induction n generalizing r with
  | zero => rw [Nat.zero_add]; rfl
  | succ n ih => rw [show n + 1 + m = (n + m) + 1 from by omega, bits, ih]; rfl

theorem bits_comm (n m r : Nat) : bits n (bits m r) = bits m (bits n r) := by
  rw [← bits_add, ← bits_add, Nat.add_comm]

theorem bits_one (r : Nat) : bits 1 r = bit r := rfl

theorem bits_lt (n : Nat) {r : Nat} (h : r < 4294967296) : bits n r < 4294967296 := by
  induction n generalizing r with
  | zero => exact h
  | succ n ih => exact ih (bit_lt h)

/-- nothing is lost -/
theorem bit_eq_zero {r : Nat} (hr : r < 4294967296) (h : bit r = 0) : r = 0 := by
  unfold bit at h
  split at h
  · omega
  · exfalso
    have e : r / 2 = D := by
      have := congrArg (fun x => x ^^^ D) h
      simp only [Nat.xor_assoc, Nat.xor_self, Nat.xor_zero, Nat.zero_xor] at this
      exact this
    have : D = 2197175160 := rfl
    omega

theorem xor_eq_zero {a b : Nat} (h : a ^^^ b = 0) : a = b := by
  have : a ^^^ (a ^^^ b) = a := by rw [h, Nat.xor_zero]
  rw [xor_cancel] at this
  exact this.symm

theorem bits_eq_zero (n : Nat) {r : Nat} (hr : r < 4294967296) (h : bits n r = 0) : r = 0 := by
  induction n generalizing r with
  | zero => exact h
  | succ n ih => exact bit_eq_zero hr (ih (bit_lt hr) h)

theorem bits_inj (n : Nat) {a b : Nat} (ha : a < 4294967296) (hb : b < 4294967296) (h : bits n a = bits n b) : a = b := by
  apply xor_eq_zero
  apply bits_eq_zero n (xor_lt ha hb)
  rw [bits_xor, h, Nat.xor_self]

/-- two functions that take xor to xor agree if they agree at the powers of 2 -/
theorem pow_split {b k : Nat} (h : b < 2 ^ (k + 1)) (h' : ¬ b < 2 ^ k) : b = 2 ^ k ^^^ (b - 2 ^ k) ∧ b - 2 ^ k < 2 ^ k := by
  have hp : 2 ^ (k + 1) = 2 * 2 ^ k := by rw [Nat.pow_succ, Nat.mul_comm]
  have hlt : b - 2 ^ k < 2 ^ k := by omega
  refine ⟨?_, hlt⟩
  have e := Nat.two_pow_add_eq_or_of_lt hlt 1
  rw [Nat.mul_one] at e
  have hb : b = 2 ^ k + (b - 2 ^ k) := by omega
  generalize b - 2 ^ k = c at *
  rw [hb]
  apply Nat.eq_of_testBit_eq
  intro i
  rw [Nat.testBit_xor, e, Nat.testBit_or, Nat.testBit_two_pow]
  by_cases hi : k = i
  · subst hi
    rw [Nat.testBit_lt_two_pow hlt]
    simp
  · simp [hi]

theorem lin_ext (f g : Nat → Nat) (hf : ∀ a b, f (a ^^^ b) = f a ^^^ f b) (hg : ∀ a b, g (a ^^^ b) = g a ^^^ g b) (k : Nat)
    (h : ∀ i, i < k → f (2 ^ i) = g (2 ^ i)) : ∀ b, b < 2 ^ k → f b = g b := by
  have z : ∀ f : Nat → Nat, (∀ a b, f (a ^^^ b) = f a ^^^ f b) → f 0 = 0 := by
    intro f hf
    have := hf 0 0
    rw [Nat.xor_self] at this
    rw [Nat.xor_self] at this
    exact this
  induction k with
  | zero => intro b hb; have : b = 0 := by omega
            rw [this, z f hf, z g hg]
  | succ k ih =>
    intro b hb
    by_cases hk : b < 2 ^ k
    · exact ih (fun i hi => h i (by omega)) b hk
    · obtain ⟨e, hl⟩ := pow_split hb hk
      rw [e, hf, hg, h k (by omega), ih (fun i hi => h i (by omega)) _ hl]

/-- times with k bits of a left, from bit k - 1 down -/
def timesFrom : Nat → Nat → Nat → Nat → Nat
  | 0, _, _, n => n
  | k + 1, a, b, n => timesFrom k a (bit b) (if a.testBit k then n ^^^ b else n)

def times (a b : Nat) : Nat := timesFrom 32 a b 0

theorem timesFrom_acc (k a b n : Nat) : timesFrom k a b n = n ^^^ timesFrom k a b 0 := by
  induction k generalizing b n with
  | zero => rw [timesFrom, timesFrom, Nat.xor_zero]
  | succ k ih =>
    rw [timesFrom, timesFrom, ih, ih _ (if a.testBit k then 0 ^^^ b else 0)]
    split
    · rw [Nat.zero_xor, Nat.xor_assoc]
    · rw [Nat.zero_xor]

theorem timesFrom_succ (k a b : Nat) : timesFrom (k + 1) a b 0 = (if a.testBit k then b else 0) ^^^ timesFrom k a (bit b) 0 := by
  rw [timesFrom, timesFrom_acc]
  split
  · rw [Nat.zero_xor]
  · rfl

theorem timesFrom_right (k a b c : Nat) : timesFrom k a (b ^^^ c) 0 = timesFrom k a b 0 ^^^ timesFrom k a c 0 := by
  induction k generalizing b c with
  | zero => simp [timesFrom]
  | succ k ih =>
    rw [timesFrom_succ, timesFrom_succ, timesFrom_succ, bit_xor, ih]
    split
    · simp only [Nat.xor_assoc]; rw [xor_left_comm c]
    · simp only [Nat.zero_xor]

theorem timesFrom_left (k a a' b : Nat) : timesFrom k (a ^^^ a') b 0 = timesFrom k a b 0 ^^^ timesFrom k a' b 0 := by
  induction k generalizing b with
  | zero => simp [timesFrom]
  | succ k ih =>
    rw [timesFrom_succ, timesFrom_succ, timesFrom_succ, ih, Nat.testBit_xor]
    cases a.testBit k <;> cases a'.testBit k <;> simp [Nat.xor_assoc, xor_left_comm, xor_cancel]

theorem times_right (a b c : Nat) : times a (b ^^^ c) = times a b ^^^ times a c := timesFrom_right _ _ _ _
theorem times_left (a a' b : Nat) : times (a ^^^ a') b = times a b ^^^ times a' b := timesFrom_left _ _ _ _

theorem timesFrom_lt (k a b n : Nat) (hb : b < 4294967296) (hn : n < 4294967296) : timesFrom k a b n < 4294967296 := by
  induction k generalizing b n with
  | zero => exact hn
  | succ k ih =>
    rw [timesFrom]
    apply ih _ _ (bit_lt hb)
    split
    · exact xor_lt hn hb
    · exact hn

theorem times_lt (a b : Nat) (hb : b < 4294967296) : times a b < 4294967296 := timesFrom_lt _ _ _ _ hb (by omega)

theorem timesFrom_pow (k j b : Nat) : timesFrom k (2 ^ j) b 0 = if j < k then bits (k - 1 - j) b else 0 := by
  induction k generalizing b with
  | zero => simp [timesFrom]
  | succ k ih =>
    rw [timesFrom_succ, ih, Nat.testBit_two_pow]
    by_cases h : j = k
    · subst h; simp [bits]
    · have e : (if decide (j = k) = true then b else 0) = 0 := by simp [h]
      rw [e, Nat.zero_xor]
      by_cases h1 : j < k
      · rw [if_pos h1, if_pos (by omega), show k + 1 - 1 - j = (k - 1 - j) + 1 from by omega]; rfl
      · rw [if_neg h1, if_neg (by omega)]

theorem times_pow (j b : Nat) (h : j < 32) : times (2 ^ j) b = bits (31 - j) b := by
  rw [times, timesFrom_pow, if_pos h]

theorem times_D : ∀ b, b < 2 ^ 32 → times D b = bits 32 b := by
  apply lin_ext _ _ (fun a b => times_right _ _ _) (fun a b => bits_xor _ _ _)
  decide +kernel

theorem times_bit (a b : Nat) (ha : a < 4294967296) (hb : b < 4294967296) : times (bit a) b = bit (times a b) := by
  refine lin_ext (fun a => times (bit a) b) (fun a => bit (times a b)) (fun x y => ?_) (fun x y => ?_) 32 ?_ a (by simpa using ha)
  · show times (bit (x ^^^ y)) b = _
    rw [bit_xor, times_left]
  · show bit (times (x ^^^ y) b) = _
    rw [times_left, bit_xor]
  · intro i hi
    show times (bit (2 ^ i)) b = bit (times (2 ^ i) b)
    rw [times_pow i b hi]
    by_cases h0 : i = 0
    · subst h0
      rw [show bit (2 ^ 0) = D from by decide, times_D b (by simpa using hb), ← bits_one, ← bits_add]
    · have e : bit (2 ^ i) = 2 ^ (i - 1) := by
        obtain ⟨j, rfl⟩ : ∃ j, i = j + 1 := ⟨i - 1, by omega⟩
        unfold bit
        rw [Nat.pow_succ, Nat.mul_mod_left, if_pos rfl, Nat.mul_div_cancel _ (by decide)]
        rfl
      rw [e, times_pow (i - 1) b (by omega), ← bits_one, ← bits_add]
      congr 1
      omega

theorem times_bits (n a b : Nat) (ha : a < 4294967296) (hb : b < 4294967296) : times (bits n a) b = bits n (times a b) := by
  induction n generalizing a with
  | zero => rfl
  | succ n ih => rw [bits, ih _ (bit_lt ha), times_bit a b ha hb]; rfl

/-- moved on by n bits: the factor -/
def by_ (n : Nat) : Nat := bits n (2 ^ 31)

theorem by_lt (n : Nat) : by_ n < 4294967296 := bits_lt n (by decide)
theorem times_by (n b : Nat) (hb : b < 4294967296) : times (by_ n) b = bits n b := by
  rw [by_, times_bits n _ b (by decide) hb, times_pow 31 b (by decide)]; rfl
theorem by_by (n m : Nat) : times (by_ n) (by_ m) = by_ (n + m) := by
  rw [times_by n _ (by_lt m), by_, by_, ← bits_add, Nat.add_comm]

/-- on: by bytes -/
def on (r n : Nat) : Nat := bits (8 * n) r
theorem on_def (r n : Nat) : on r n = bits (8 * n) r := rfl
theorem on_zero (r : Nat) : on r 0 = r := rfl
theorem on_lt (n : Nat) {r : Nat} (h : r < 4294967296) : on r n < 4294967296 := bits_lt _ h
theorem on_add (r n m : Nat) : on (on r n) m = on r (n + m) := by
  rw [on, on, on, ← bits_add]; congr 1; omega
theorem on_xor (a b n : Nat) : on (a ^^^ b) n = on a n ^^^ on b n := bits_xor _ _ _
theorem on_zeros (n : Nat) : on 0 n = 0 := bits_zero _
theorem on_inj (n : Nat) {a b : Nat} (ha : a < 4294967296) (hb : b < 4294967296) (h : on a n = on b n) : a = b := bits_inj _ ha hb h

/-- into: a byte -/
def into (r c : Nat) : Nat := on (r ^^^ c) 1
theorem into_lt {r c : Nat} (h : r < 4294967296) (hc : c < 256) : into r c < 4294967296 := on_lt _ (xor_lt h (by omega))

theorem into_def (r c : Nat) : into r c = on (r ^^^ c) 1 := rfl
attribute [irreducible] on into

/-- a rest into which bytes went -/
def feed : Nat → List Nat → Nat
  | r, [] => r
  | r, c :: l => feed (into r c) l

theorem feed_append (r : Nat) (l m : List Nat) : feed r (l ++ m) = feed (feed r l) m := by
  induction l generalizing r with
  | nil => rfl
  | cons c l ih => exact ih _

theorem feed_lt {r : Nat} {l : List Nat} (h : r < 4294967296) (hl : ∀ c ∈ l, c < 256) : feed r l < 4294967296 := by
  induction l generalizing r with
  | nil => exact h
  | cons c l ih =>
    rw [feed]
    exact ih (into_lt h (hl c (by simp))) (fun d hd => hl d (by simp [hd]))

theorem feed_xor (r s : Nat) (l : List Nat) : feed (r ^^^ s) l = feed r l ^^^ on s l.length := by
  induction l generalizing r s with
  | nil => show r ^^^ s = r ^^^ on s 0; rw [on_zero]
  | cons c l ih =>
    have e : into (r ^^^ s) c = into r c ^^^ on s 1 := by
      rw [into_def, into_def, Nat.xor_assoc, Nat.xor_comm s c, ← Nat.xor_assoc, on_xor]
    rw [feed, e, ih, on_add, feed, List.length_cons, Nat.add_comm]

def whole : Nat := 4294967295

/-- the sum of bytes behind a sum -/
def more (s : Nat) (l : List Nat) : Nat := feed (s ^^^ whole) l ^^^ whole
def of (l : List Nat) : Nat := more 0 l
def join (a b n : Nat) : Nat := on a n ^^^ b

theorem more_lt {s : Nat} {l : List Nat} (h : s < 4294967296) (hl : ∀ c ∈ l, c < 256) : more s l < 4294967296 :=
  xor_lt (feed_lt (xor_lt h (by decide)) hl) (by decide)
theorem of_lt {l : List Nat} (hl : ∀ c ∈ l, c < 256) : of l < 4294967296 := more_lt (by decide) hl
theorem of_nil : of [] = 0 := rfl
theorem more_nil (s : Nat) : more s [] = s := by
  exact xor_cancel_right s whole

theorem more_append (s : Nat) (l m : List Nat) : more s (l ++ m) = more (more s l) m := by
  rw [more, more, more, feed_append, xor_cancel_right]

theorem more_of (l m : List Nat) : more (of l) m = of (l ++ m) := (more_append 0 l m).symm

theorem join_of (l m : List Nat) : join (of l) (of m) m.length = of (l ++ m) := by
  rw [← more_of, join, of, of, more, more, more]
  generalize feed (0 ^^^ whole) l = x
  rw [Nat.xor_assoc x, Nat.xor_self, Nat.xor_zero, ← Nat.xor_assoc, Nat.zero_xor]
  congr 1
  have e : x = whole ^^^ (x ^^^ whole) := by rw [Nat.xor_comm x, xor_cancel]
  conv => rhs; rw [e, feed_xor]
  rw [Nat.xor_comm]

theorem bit_two (q : Nat) : bit (2 * q) = q := by
  unfold bit
  rw [if_pos (by omega)]
  omega

theorem bits_up (k q : Nat) : bits k (q * 2 ^ k) = q := by
  induction k with
  | zero => rw [bits, Nat.pow_zero, Nat.mul_one]
  | succ k ih => rw [bits, Nat.pow_succ, ← Nat.mul_assoc, Nat.mul_comm _ 2, bit_two, ih]

theorem on_up (k q : Nat) : on (q * 256 ^ k) k = q := by
  have e : (256 : Nat) ^ k = 2 ^ (8 * k) := by rw [Nat.pow_mul]
  rw [on_def, e, bits_up]

/-- four bytes -/
theorem feed_four (r a b c d : Nat) :
    feed r [a, b, c, d] = on (r ^^^ (a ^^^ (b * 256 ^^^ (c * 65536 ^^^ d * 16777216)))) 4 := by
  have hb := on_up 1 b
  have hc := on_up 2 c
  have hd := on_up 3 d
  rw [show (256 : Nat) ^ 1 = 256 from rfl] at hb
  rw [show (256 : Nat) ^ 2 = 65536 from rfl] at hc
  rw [show (256 : Nat) ^ 3 = 16777216 from rfl] at hd
  have e : feed r [a, b, c, d] = into (into (into (into r a) b) c) d := rfl
  have eb : into (into r a) b = on (r ^^^ (a ^^^ b * 256)) 2 := by
    conv => lhs; rw [← hb]
    rw [into_def, into_def, ← on_xor, on_add, Nat.xor_assoc]
  have ec : into (into (into r a) b) c = on (r ^^^ (a ^^^ (b * 256 ^^^ c * 65536))) 3 := by
    rw [eb, into_def]
    conv => lhs; rw [← hc]
    rw [← on_xor, on_add, Nat.xor_assoc, Nat.xor_assoc]
  rw [e, ec, into_def]
  conv => lhs; rw [← hd]
  rw [← on_xor, on_add, Nat.xor_assoc, Nat.xor_assoc, Nat.xor_assoc]

theorem xor_bytes (a b c d : Nat) (ha : a < 256) (hb : b < 256) (hc : c < 256) :
    a ^^^ (b * 256 ^^^ (c * 65536 ^^^ d * 16777216)) = a + b * 256 + c * 65536 + d * 16777216 := by
  have key : ∀ (k x y : Nat), x < 2 ^ k → x ^^^ y * 2 ^ k = x + y * 2 ^ k := by
    intro k x y hx
    have e := Nat.two_pow_add_eq_or_of_lt hx y
    rw [Nat.mul_comm y, Nat.add_comm x, e]
    apply Nat.eq_of_testBit_eq
    intro i
    rw [Nat.testBit_xor, Nat.testBit_or, Nat.testBit_two_pow_mul]
    by_cases h : k ≤ i
    · have hx' : x < 2 ^ i := Nat.lt_of_lt_of_le hx (Nat.pow_le_pow_right (by decide) h)
      rw [Nat.testBit_lt_two_pow hx']
      simp
    · simp [h]
  have e1 : c * 65536 ^^^ d * 16777216 = (c + d * 256) * 65536 := by
    have h := key 24 (c * 65536) d (by omega)
    rw [show (2 : Nat) ^ 24 = 16777216 from rfl] at h
    rw [h]; clear h key; omega
  have e2 : b * 256 ^^^ (c + d * 256) * 65536 = (b + c * 256 + d * 65536) * 256 := by
    have h := key 16 (b * 256) (c + d * 256) (by omega)
    rw [show (2 : Nat) ^ 16 = 65536 from rfl] at h
    rw [h]; clear h key; omega
  have e3 := key 8 a (b + c * 256 + d * 65536) (by omega)
  rw [show (2 : Nat) ^ 8 = 256 from rfl] at e3
  rw [e1, e2, e3]
  omega

theorem xor_left_inj (r a b : Nat) (h : r ^^^ a = r ^^^ b) : a = b := by
  have := congrArg (fun x => r ^^^ x) h
  simpa only [xor_cancel] using this

/-- rows that differ within four bytes have unlike sums -/
theorem feed_four_inj {r a b c d a' b' c' d' : Nat} (hr : r < 4294967296)
    (ha : a < 256) (hb : b < 256) (hc : c < 256) (hd : d < 256) (ha' : a' < 256) (hb' : b' < 256) (hc' : c' < 256) (hd' : d' < 256)
    (h : feed r [a, b, c, d] = feed r [a', b', c', d']) : a = a' ∧ b = b' ∧ c = c' ∧ d = d' := by
  rw [feed_four, feed_four, xor_bytes a b c d ha hb hc, xor_bytes a' b' c' d' ha' hb' hc'] at h
  have := on_inj 4 (xor_lt hr (by omega)) (xor_lt hr (by omega)) h
  have := xor_left_inj _ _ _ this
  omega

theorem feed_inj {l : List Nat} {r s : Nat} (hr : r < 4294967296) (hs : s < 4294967296) (h : feed r l = feed s l) : r = s := by
  have e : feed (r ^^^ s) l = feed r l ^^^ on s l.length := feed_xor r s l
  have e2 : feed (s ^^^ s) l = feed s l ^^^ on s l.length := feed_xor s s l
  rw [← h, ← e, Nat.xor_self] at e2
  have e3 : feed (0 ^^^ (r ^^^ s)) l = feed 0 l ^^^ on (r ^^^ s) l.length := feed_xor _ _ _
  rw [Nat.zero_xor, ← e2] at e3
  have z : on (r ^^^ s) l.length = 0 := by
    have := congrArg (fun x => feed 0 l ^^^ x) e3
    simp only [xor_cancel, Nat.xor_self] at this
    exact this.symm
  exact xor_eq_zero (bits_eq_zero _ (xor_lt hr hs) ((on_def _ _).symm.trans z))

theorem of_side {x y : List Nat} {a b c d a' b' c' d' : Nat} (hx : ∀ n ∈ x, n < 256)
    (ha : a < 256) (hb : b < 256) (hc : c < 256) (hd : d < 256) (ha' : a' < 256) (hb' : b' < 256) (hc' : c' < 256) (hd' : d' < 256) :
    of (x ++ [a, b, c, d] ++ y) = of (x ++ [a', b', c', d'] ++ y) ↔ a = a' ∧ b = b' ∧ c = c' ∧ d = d' := by
  constructor
  · intro h
    rw [of, of, more, more, feed_append, feed_append, feed_append, feed_append] at h
    have hw : ∀ u v : Nat, u ^^^ whole = v ^^^ whole → u = v := by
      intro u v h
      rw [Nat.xor_comm u, Nat.xor_comm v] at h
      exact xor_left_inj _ _ _ h
    have h1 := hw _ _ h
    have h0 : feed (0 ^^^ whole) x < 4294967296 := feed_lt (by decide) hx
    have h4 : ∀ {a b c d : Nat}, a < 256 → b < 256 → c < 256 → d < 256 → ∀ n ∈ [a, b, c, d], n < 256 := by
      intro a b c d ha hb hc hd n hn
      simp at hn
      omega
    have h2 := feed_inj (feed_lt h0 (h4 ha hb hc hd)) (feed_lt h0 (h4 ha' hb' hc' hd')) h1
    exact feed_four_inj h0 ha hb hc hd ha' hb' hc' hd' h2
  · rintro ⟨rfl, rfl, rfl, rfl⟩; rfl

/-- the table of what four bits leave -/
def tab (i : Nat) : Nat := bits 4 i
theorem tabs : (List.range 16).map tab = [0x00000000, 0x105ec76f, 0x20bd8ede, 0x30e349b1, 0x417b1dbc, 0x5125dad3, 0x61c69362, 0x7198540d,
    0x82f63b78, 0x92a8fc17, 0xa24bb5a6, 0xb21572c9, 0xc38d26c4, 0xd3d3e1ab, 0xe330a81a, 0xf36e6f75] := by decide +kernel

theorem split16 (x : Nat) : x = x / 16 * 16 ^^^ x % 16 := by
  have hx : x % 16 < 2 ^ 4 := by omega
  have e := Nat.two_pow_add_eq_or_of_lt hx (x / 16)
  have : x = 2 ^ 4 * (x / 16) + x % 16 := by omega
  conv => lhs; rw [this, e]
  apply Nat.eq_of_testBit_eq
  intro i
  rw [Nat.testBit_xor, Nat.testBit_or, Nat.mul_comm _ 16, show (16 : Nat) = 2 ^ 4 from rfl, Nat.testBit_two_pow_mul]
  by_cases h : 4 ≤ i
  · have : x % 16 < 2 ^ i := Nat.lt_of_lt_of_le hx (Nat.pow_le_pow_right (by decide) h)
    rw [show (2 : Nat) ^ 4 = 16 from rfl, Nat.testBit_lt_two_pow this]
    simp
  · simp [h]

theorem bits4 (x : Nat) : bits 4 x = x / 16 ^^^ tab (x % 16) := by
  conv => lhs; rw [split16 x]
  rw [bits_xor, bits_up 4]; rfl

theorem xor_div16 (a b : Nat) : (a ^^^ b) / 16 = a / 16 ^^^ b / 16 := by
  have := Nat.xor_div_two_pow (a := a) (b := b) (n := 4)
  simpa using this
theorem xor_mod16 (a b : Nat) : (a ^^^ b) % 16 = a % 16 ^^^ b % 16 := by
  have := Nat.xor_mod_two_pow (a := a) (b := b) (n := 4)
  simpa using this

theorem half_step (r h : Nat) (hh : h < 16) : r / 16 ^^^ tab ((r % 16) ^^^ h) = bits 4 (r ^^^ h) := by
  rw [bits4, xor_div16, xor_mod16, Nat.div_eq_of_lt hh, Nat.mod_eq_of_lt hh, Nat.xor_zero]

theorem into_halves (r c : Nat) : bits 4 (bits 4 (r ^^^ c % 16) ^^^ c / 16) = into r c := by
  have e : bits 4 (c / 16 * 2 ^ 4) = c / 16 := bits_up 4 _
  have e2 : bits 4 (bits 4 (r ^^^ c % 16) ^^^ c / 16) = bits 4 (bits 4 (r ^^^ c % 16) ^^^ bits 4 (c / 16 * 2 ^ 4)) := by rw [e]
  rw [e2, ← bits_xor, ← bits_add, into_def, on_def]
  congr 1
  rw [Nat.xor_assoc]
  congr 1
  conv => rhs; rw [split16 c]
  rw [Nat.xor_comm]
end Go.Proofs.Ytpanefmemabckaa.CM
