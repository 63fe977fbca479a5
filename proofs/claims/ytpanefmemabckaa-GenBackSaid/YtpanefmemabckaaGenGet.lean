/- The reader: a number, how many things, a row. -/
import Derived.Test.YtpanefmemabckaaGenMath
import Derived.Deep.RegionHeld3
import Derived.Deep.QuietTactic
import Derived.BigQuiet
import Derived.Test.YtpanefmemabckaaGenHalf
namespace Go.Proofs.Ytpanefmemabckaa.GenGet
open Go.RowKit Go.Proofs.Ytpanefmemabckaa.NumA Go.Proofs.Ytpanefmemabckaa.NumGetRow Go.Proofs.Ytpanefmemabckaa.NumMath Go.Proofs.Ytpanefmemabckaa.Bytes Go.Proofs.Ytpanefmemabckaa.GenS Go.Proofs.Ytpanefmemabckaa.GenRep Go.Proofs.Ytpanefmemabckaa.GenBlk Go.Proofs.Ytpanefmemabckaa.GenPure Go.Proofs.Ytpanefmemabckaa.GenMath Go.Proofs.Ytpanefmemabckaa.GenPuts Go.Proofs.YtpanefmemabckaaW.PrintWords Go.Proofs.YtpanefmemabckaaW.PrintLast
open Go.Proofs.Ytpanefmemabckaa.GenZero (heap_new blk_kept blk_drew1)
set_option linter.unusedSimpArgs false
set_option linter.unusedVariables false

/-- the bytes that are read, as they stood in world w0 -/
structure Src (w0 : World) (A : Option Addr) (c : Nat) (l : List Nat) : Prop where
  r : Kd.C (Kd.int .u8) w0 A (ofN l).length (ofN l)
  c : (ofN l).length ≤ c
  b : ∀ x ∈ l, x < 256
  m : l.length ≤ 1000000
/-- the reader in block r, of a type -/
structure Rd (T : Nat) (w0 W : World) (r : Nat) (A : Option Addr) (c : Nat) (l : List Nat) (a : Nat) (e : Int) : Prop where
  k : W.heap[r]? = some (.cells #[.slice A (ofN l).length c, .int .i64 (a : Int), .int .i64 e] T (0, 0))
  b : Below w0.heap.size w0 W
  g : w0.heap.size ≤ r
theorem Rd.drew {T : Nat} {w0 W : World} {r : Nat} {A : Option Addr} {c : Nat} {l : List Nat} {a : Nat} {e : Int} (h : Rd T w0 W r A c l a e) (n : Nat) : Rd T w0 (W.drewN n) r A c l a e := ⟨blk_kept h.k (pw_below_drewN (Below.refl _ _) n), pw_below_drewN h.b n, h.g⟩
theorem grown_drew (W : World) (n : Nat) (row : Option Nat) : W.grownBy (W.drewN n) row := grown_of_below (pw_below_drewN (Below.refl W.heap.size W) n) row
theorem grown_set (W : World) (r j : Nat) (u : Value) : W.grownBy (W.setCell ⟨r, j, none⟩ u) (some r) := ⟨rfl, rfl, rfl, by simp, fun b hb hne => by rw [Below.heap_setCell _ _ _ _ (fun e => hne (by rw [e]))]⟩
theorem Rd.at {T : Nat} {w0 W : World} {r : Nat} {A : Option Addr} {c : Nat} {l : List Nat} {a : Nat} {e : Int} (h : Rd T w0 W r A c l a e) (x : Int) (a' : Nat) (hx : x = a') : Rd T w0 (W.setCell ⟨r, 1, none⟩ (.int .i64 x)) r A c l a' e := by
  subst hx; exact ⟨blk_set h.k 1 _, set_below h.b h.g 1 _, h.g⟩
theorem Rd.err {T : Nat} {w0 W : World} {r : Nat} {A : Option Addr} {c : Nat} {l : List Nat} {a : Nat} {e : Int} (h : Rd T w0 W r A c l a e) (e' : Int) : Rd T w0 (W.setCell ⟨r, 2, none⟩ (.int .i64 e')) r A c l a e' :=
  ⟨blk_set h.k 2 _, set_below h.b h.g 2 _, h.g⟩
theorem Rd.held {T : Nat} {w0 W : World} {r : Nat} {A : Option Addr} {c : Nat} {l : List Nat} {a : Nat} {e : Int} (h : Rd T w0 W r A c l a e) : W.cell? ⟨r, 0, none⟩ = some (.slice A (ofN l).length c) ∧ W.cell? ⟨r, 1, none⟩ = some (.int .i64 (a : Int)) ∧ W.cell? ⟨r, 2, none⟩ = some (.int .i64 e) := ⟨blk_cell h.k 0, blk_cell h.k 1, blk_cell h.k 2⟩
theorem Rd.below {T : Nat} {w0 W W' : World} {r : Nat} {A : Option Addr} {c : Nat} {l : List Nat} {a : Nat} {e : Int} (h : Rd T w0 W r A c l a e) (hb : Below W.heap.size W W') : Rd T w0 W' r A c l a e := ⟨blk_kept h.k hb, below_then h.b h.b.size hb, h.g⟩
theorem Rd.drew1 {T : Nat} {w0 W : World} {r : Nat} {A : Option Addr} {c : Nat} {l : List Nat} {a : Nat} {e : Int} (h : Rd T w0 W r A c l a e) : Rd T w0 W.drew r A c l a e := h.below (below_of_drew W)
theorem grown_drew1 (W : World) (row : Option Nat) : W.grownBy W.drew row := grown_of_below (below_of_drew W) row
/-- what a step of the reader leaves -/
structure Went (T : Nat) (w0 W W' : World) (r : Nat) (A : Option Addr) (c : Nat) (l : List Nat) (st : Nat × Int) : Prop where
  d : Rd T w0 W' r A c l st.1 st.2
  g : W.grownBy W' (some r)

set_option maxRecDepth 100000 in
set_option maxHeartbeats 4000000 in
theorem get_calls {w0 W : World} {r : Nat} {A : Option Addr} {c : Nat} {l : List Nat} {a : Nat} {e : Int} (S : Src w0 A c l) (h : Rd 98 w0 W r A c l a e) (ha : a ≤ l.length) (s : Nat) (sz : Int) (hsz : sz = s) (hs : s ≤ 8) :
    Calls Try.prog 69 #[.pointer (some ⟨r, 0, none⟩), .int .i64 sz] W fun x w' => x = .returned (.int .u64 ((getS l (a, e) s).1 : Int)) ∧ Went 98 w0 W w' r A c l (getS l (a, e) s).2 := by
  obtain ⟨c0, c1, c2⟩ := h.held
  have f1 := blk_frozen h.k 1
  have f2 := blk_frozen h.k 2
  have D := Aside0.mk h
  have SR := Aside0.mk S
  by_cases he : e = 0
  · subst he
    obtain ⟨n, hn⟩ : ∃ n, n = (getP l a s).1 := ⟨_, rfl⟩
    obtain ⟨e', he'⟩ : ∃ n, n = (getP l a s).2 := ⟨_, rfl⟩
    have GF := Aside0.mk (show num_Get.f 100 (ofN l) a sz = some ((n : Int), e') from by rw [hsz, hn, he']; exact NumPure.get_f l S.b (by have := S.m; omega) a s 100 (by omega))
    by_cases h0 : e' = 0
    · have GS := Aside0.mk (show getS l (a, 0) s = (n, (a + s, 0)) from by unfold getS; rw [if_pos rfl, if_pos (by rw [← he', h0]), ← hn])
      subst h0
      have hb : a + s ≤ l.length := getP_ok he'.symm
      have hm := S.m
      have hz0 : 0 ≤ sz := by omega
      have hz8 : sz ≤ 8 := by omega
      have ha9 : (a : Int) ≤ 1000000 := by omega
      have SZ := Aside0.mk hsz
      clear hn he' h S hsz hb hm ha hs
      go_enter Try.func69, Try.ntmps69
      go_upto_region 3 with fail
      go_quiet ((go_at_call 46; exact Calls.quiet_of ((num_Get.calls 100 A c (ofN l) a sz n 0 _ (Kd.C_drewN (Kd.C_below SR.out.r D.out.b) _) SR.out.c GF.out).mono fun _ _ h => ⟨h.1, h.2.out⟩)))
      go_wp2_with fail
      go_ret
      rw [GS.out]
      refine ⟨rfl, ?_⟩
      exact ⟨((D.out.drew _).err 0).at _ (a + s) (by have := SZ.out; omega), grown_then (grown_then (grown_drew _ _ _) (grown_set _ _ _ _)) (grown_set _ _ _ _)⟩
    · have GS := Aside0.mk (show getS l (a, 0) s = (0, (a, e')) from by unfold getS; rw [if_pos rfl, if_neg (by rw [← he']; exact h0), ← he'])
      have h0' : (e' != 0) = true := bne_iff_ne.mpr h0
      clear hn he' h S hsz ha hs h0
      go_enter Try.func69, Try.ntmps69
      go_upto_region 3 with fail
      go_quiet ((go_at_call 46; exact Calls.quiet_of ((num_Get.calls 100 A c (ofN l) a sz n e' _ (Kd.C_drewN (Kd.C_below SR.out.r D.out.b) _) SR.out.c GF.out).mono fun _ _ h => ⟨h.1, h.2.out⟩)))
      go_wp2_with fail
      go_ret
      rw [GS.out]
      refine ⟨rfl, ?_⟩
      exact ⟨(D.out.drew _).err e', grown_then (grown_drew _ _ _) (grown_set _ _ _ _)⟩
  · have GS := Aside0.mk (show getS l (a, e) s = (0, (a, e)) from by unfold getS; rw [if_neg he])
    have h0' : (e != 0) = true := bne_iff_ne.mpr he
    clear h S hsz ha hs he
    go_enter Try.func69, Try.ntmps69
    go_wp2_with fail
    go_ret
    rw [GS.out]
    exact ⟨rfl, ⟨D.out, World.grownBy.refl W _⟩⟩
theorem get1 {w0 W : World} {r : Nat} {A : Option Addr} {c : Nat} {l : List Nat} {a : Nat} {e : Int} (S : Src w0 A c l) (h : Rd 98 w0 W r A c l a e) (ha : a ≤ l.length) :
    Calls Try.prog 69 #[.pointer (some ⟨r, 0, none⟩), .int .i64 1] W fun x w' => x = .returned (.int .u64 ((getS l (a, e) 1).1 : Int)) ∧ Went 98 w0 W w' r A c l (getS l (a, e) 1).2 := get_calls S h ha 1 1 rfl (by decide)
theorem get4 {w0 W : World} {r : Nat} {A : Option Addr} {c : Nat} {l : List Nat} {a : Nat} {e : Int} (S : Src w0 A c l) (h : Rd 98 w0 W r A c l a e) (ha : a ≤ l.length) :
    Calls Try.prog 69 #[.pointer (some ⟨r, 0, none⟩), .int .i64 4] W fun x w' => x = .returned (.int .u64 ((getS l (a, e) 4).1 : Int)) ∧ Went 98 w0 W w' r A c l (getS l (a, e) 4).2 := get_calls S h ha 4 4 rfl (by decide)
theorem get8 {w0 W : World} {r : Nat} {A : Option Addr} {c : Nat} {l : List Nat} {a : Nat} {e : Int} (S : Src w0 A c l) (h : Rd 98 w0 W r A c l a e) (ha : a ≤ l.length) :
    Calls Try.prog 69 #[.pointer (some ⟨r, 0, none⟩), .int .i64 8] W fun x w' => x = .returned (.int .u64 ((getS l (a, e) 8).1 : Int)) ∧ Went 98 w0 W w' r A c l (getS l (a, e) 8).2 := get_calls S h ha 8 8 rfl (by decide)

theorem getS_lt {l : List Nat} (hb : ∀ x ∈ l, x < 256) (a : Nat) (e : Int) : (getS l (a, e) 4).1 < 4294967296 := by
  unfold getS
  split
  · split
    · next h1 =>
      rw [getP_val h1]
      have h := val_lt (l := (l.drop a).take 4) (fun x hx => hb x (List.mem_of_mem_drop (List.mem_of_mem_take hx)))
      refine Nat.lt_of_lt_of_le h (Nat.le_trans (Nat.pow_le_pow_right (by decide) (show ((l.drop a).take 4).length ≤ 4 from by rw [List.length_take]; omega)) (by decide))
    · exact (by decide : (0 : Nat) < 4294967296)
  · exact (by decide : (0 : Nat) < 4294967296)
set_option maxRecDepth 100000 in
set_option maxHeartbeats 4000000 in
theorem many_calls {w0 W : World} {r : Nat} {A : Option Addr} {c : Nat} {l : List Nat} {a : Nat} {e : Int} (S : Src w0 A c l) (h : Rd 98 w0 W r A c l a e) (ha : a ≤ l.length) (s : Nat) (sz : Int) (hsz : sz = s) (hs : 0 < s) (hs8 : s ≤ 16) :
    Calls Try.prog 86 #[.pointer (some ⟨r, 0, none⟩), .int .i64 sz] W fun x w' => x = .returned (.int .i64 ((manyS l (a, e) s).1 : Int)) ∧ Went 98 w0 W w' r A c l (manyS l (a, e) s).2 := by
  have D0 := Aside0.mk h
  have SR := Aside0.mk S
  obtain ⟨n, hn⟩ : ∃ n, n = (getS l (a, e) 4).1 := ⟨_, rfl⟩
  obtain ⟨a1, ha1⟩ : ∃ n, n = (getS l (a, e) 4).2.1 := ⟨_, rfl⟩
  obtain ⟨e1, he1⟩ : ∃ n, n = (getS l (a, e) 4).2.2 := ⟨_, rfl⟩
  have hn32 : n < 4294967296 := by rw [hn]; exact getS_lt S.b a e
  have hle : a1 ≤ l.length := by rw [ha1]; exact getS_le ha
  have hne : e1 ≠ 0 → n = 0 := fun hh => by rw [hn]; exact getS_err (by rw [← he1]; exact hh)
  have GE := Aside0.mk (show getS l (a, e) 4 = (n, (a1, e1)) from by rw [hn, ha1, he1])
  have HA := Aside0.mk ha
  have SZ := Aside0.mk hsz
  have HS := Aside0.mk hs
  have HLE := Aside0.mk hle
  have HM := Aside0.mk S.m
  have HN := Aside0.mk hn32
  have HNE := Aside0.mk hne
  clear hn ha1 he1 h S ha hsz hs hn32 hle hne
  go_enter Try.func86, Try.ntmps86
  go_wp2_with fail
  refine (get4 SR.out D0.out HA.out).mono ?_
  rintro x w1 ⟨rfl, hw⟩
  rw [GE.out] at hw ⊢
  have G1 := Aside0.mk hw.g
  have D := Aside0.mk (show Rd 98 w0 w1 r A c l a1 e1 from hw.d)
  clear hw
  obtain ⟨c0, c1, c2⟩ := D.out.held
  have f1 := blk_frozen D.out.k 1
  have f2 := blk_frozen D.out.k 2
  by_cases h0 : e1 = 0
  · subst h0
    obtain ⟨d, hd⟩ : ∃ d, d = (l.length - a1) / s := ⟨_, rfl⟩
    have hq : Int.tdiv (((ofN l).length : Int) - (a1 : Int)) sz = (d : Int) := by
      have h1 := HLE.out
      rw [ofN_length, SZ.out, hd, show (l.length : Int) - (a1 : Int) = ((l.length - a1 : Nat) : Int) from by omega]
      rfl
    have hd9 : d ≤ 1000000 := by rw [hd]; exact Nat.le_trans (Nat.div_le_self _ _) (by have := HM.out; omega)
    have hw1 : IntKind.i64.wrap (((ofN l).length : Int) - (a1 : Int)) = ((ofN l).length : Int) - (a1 : Int) := by rw [IntKind.wrap_i64, ofN_length]; have := HM.out; have := HLE.out; omega
    have hw2 : IntKind.u64.wrap (d : Int) = (d : Int) := by rw [IntKind.wrap_u64]; omega
    have hw3 : wrap64 (d : Int) = (d : Int) := by unfold wrap64; omega
    have hz : (sz == 0) = false := beq_eq_false_iff_ne.mpr (by have := SZ.out; have := HS.out; omega)
    have hz2 : sz ≠ 0 := by have := SZ.out; have := HS.out; omega
    by_cases hc : d < n
    · have MS := Aside0.mk (show manyS l (a, e) s = (0, (a1, 5)) from by unfold manyS; rw [GE.out]; simp only; rw [if_pos trivial, if_pos (by rw [← hd]; exact hc)])
      have hc' : decide (d < n) = true := decide_eq_true hc
      clear hc hd hd9
      go_upto_region 2 with fail
      go_quiet (fail)
      go_wp2_with fail
      go_ret
      rw [MS.out]
      exact ⟨rfl, ⟨(D.out.drew _).err 5, grown_then (grown_then G1.out (grown_drew _ _ _)) (grown_set _ _ _ _)⟩⟩
    · have MS := Aside0.mk (show manyS l (a, e) s = (n, (a1, 0)) from by unfold manyS; rw [GE.out]; simp only; rw [if_pos trivial, if_neg (by rw [← hd]; exact hc)])
      have hc' : decide (d < n) = false := decide_eq_false hc
      have hn9 : n ≤ 1000000 := by omega
      clear hc hd
      go_upto_region 2 with fail
      go_quiet (fail)
      go_wp2_with fail
      go_ret
      rw [MS.out]
      exact ⟨rfl, ⟨D.out.drew _, grown_then G1.out (grown_drew _ _ _)⟩⟩
  · have h0' : (e1 == 0) = false := beq_eq_false_iff_ne.mpr h0
    have h0'' : (e1 != 0) = true := bne_iff_ne.mpr h0
    obtain rfl := HNE.out h0
    have MS := Aside0.mk (show manyS l (a, e) s = (0, (a1, e1)) from by unfold manyS; rw [GE.out]; simp only; rw [if_neg h0])
    clear h0
    go_upto_region 2 with fail
    go_quiet (fail)
    go_wp2_with fail
    go_ret
    rw [MS.out]
    exact ⟨rfl, ⟨D.out.drew _, grown_then G1.out (grown_drew _ _ _)⟩⟩

set_option maxRecDepth 100000 in
set_option maxHeartbeats 4000000 in
theorem row_calls {w0 W : World} {r : Nat} {A : Option Addr} {c : Nat} {l : List Nat} {a : Nat} {e : Int} (S : Src w0 A c l) (h : Rd 98 w0 W r A c l a e) (ha : a ≤ l.length) :
    Calls Try.prog 68 #[.pointer (some ⟨r, 0, none⟩)] W fun x w' => ∃ v, x = .returned v ∧ RowR kB 5 w' w0.heap.size v (ofN (rowS l (a, e)).1) ∧ Went 98 w0 W w' r A c l (rowS l (a, e)).2 := by
  have D0 := Aside0.mk h
  have SR := Aside0.mk S
  obtain ⟨c0, c1, c2⟩ := D0.out.held
  have f1 := blk_frozen D0.out.k 1
  have f2 := blk_frozen D0.out.k 2
  by_cases he : e = 0
  · subst he
    obtain ⟨q, hq⟩ : ∃ n, n = (getRowP l a 16384).1 := ⟨_, rfl⟩
    obtain ⟨nx, hnx⟩ : ∃ n, n = (getRowP l a 16384).2.1 := ⟨_, rfl⟩
    obtain ⟨e', he'⟩ : ∃ n, n = (getRowP l a 16384).2.2 := ⟨_, rfl⟩
    have GF := Aside0.mk (show num_GetRow.f 100 (ofN l) a 16384 = some (ofN q, nx, e') from by rw [hq, hnx, he']; exact NumPure.getRow_f l S.b (by have := S.m; omega) a 16384 100 (by omega))
    by_cases h0 : e' = 0
    · have RS := Aside0.mk (show rowS l (a, 0) = (q, (nx.toNat, 0)) from by unfold rowS; rw [if_pos rfl, if_pos (by rw [← he', h0]), ← hq, ← hnx])
      subst h0
      have hn := getRowP_ok he'.symm
      have NX := Aside0.mk (show nx = (nx.toNat : Int) from by rw [hnx, hn.2.2.2.2]; omega)
      have QL := Aside0.mk (show q.length ≤ 1000000 from by rw [hq, hn.2.2.2.1, List.length_take, List.length_drop]; have := S.m; omega)
      clear hn hq hnx he' h S ha
      go_enter Try.func68, Try.ntmps68
      go_upto_region 3 with fail
      clear c0 c1 c2
      have D1 := Aside0.mk (D0.out.drew1)
      have HS0 := D1.out.held
      go_region_held3 (fun w' => w'.cell? ⟨r, 0, none⟩ = some (.slice A (ofN l).length c) ∧ w'.cell? ⟨r, 1, none⟩ = some (.int .i64 (a : Int)) ∧ w'.cell? ⟨r, 2, none⟩ = some (.int .i64 0))
        (first | exact HS0 | with_reducible exact D2.out.held)
        ((go_at_call 54; (with_reducible refine (num_GetRow.calls 100 A c (ofN l) a 16384 (ofN q) nx 0 _ (Kd.C_below SR.out.r D1.out.b) SR.out.c GF.out).mono ?_); rintro x w1 ⟨v1, rfl, h1, hb⟩; have D2 := Aside0.mk (D1.out.below hb); have O1 := Aside0.mk (Kd.R_lower h1 D1.out.b.size); have G1 := Aside0.mk (grown_of_below hb (some r)); clear h1 hb))
      clear HS0 f1 f2
      have f1 := blk_frozen D2.out.k 1
      have f2 := blk_frozen D2.out.k 2
      go_wp2_with fail
      refine (cloneB (RowC.of (row_set (row_set O1.out D2.out.k (by decide) 2 (.int .i64 0)) ((D2.out.err 0).k) (by decide) 1 (.int .i64 nx))) (by rw [ofN_length]; have := QL.out; omega)).mono ?_
      rintro x w2 ⟨v2, rfl, h2, hb⟩
      have O3 := Aside0.mk (Kd.R_lower h2 ((D2.out.err 0).at nx nx.toNat NX.out).b.size)
      have W3 := Aside0.mk (show Went 98 w0 W w2 r A c l (rowS l (a, 0)).2 from by rw [RS.out]; exact ⟨(((D2.out.err 0).at nx nx.toNat NX.out)).below hb, grown_then (grown_then (grown_then (grown_then (grown_drew1 W _) G1.out) (grown_set _ _ _ _)) (grown_set _ _ _ _)) (grown_of_below hb _)⟩)
      clear h2 hb
      go_wp2_with fail
      go_ret
      exact ⟨_, rfl, by rw [RS.out]; exact O3.out, W3.out⟩
    · have RS := Aside0.mk (show rowS l (a, 0) = ([], (a, e')) from by unfold rowS; rw [if_pos rfl, if_neg (by rw [← he']; exact h0), ← he'])
      have h0' : (e' != 0) = true := bne_iff_ne.mpr h0
      clear hq hnx he' h S ha h0
      go_enter Try.func68, Try.ntmps68
      go_upto_region 3 with fail
      clear c0 c1 c2
      have D1 := Aside0.mk (D0.out.drew1)
      have HS0 := D1.out.held
      go_region_held3 (fun w' => w'.cell? ⟨r, 0, none⟩ = some (.slice A (ofN l).length c) ∧ w'.cell? ⟨r, 1, none⟩ = some (.int .i64 (a : Int)) ∧ w'.cell? ⟨r, 2, none⟩ = some (.int .i64 0))
        (first | exact HS0 | with_reducible exact D2.out.held)
        ((go_at_call 54; (with_reducible refine (num_GetRow.calls 100 A c (ofN l) a 16384 (ofN q) nx e' _ (Kd.C_below SR.out.r D1.out.b) SR.out.c GF.out).mono ?_); rintro x w1 ⟨v1, rfl, h1, hb⟩; have D2 := Aside0.mk (D1.out.below hb); have G1 := Aside0.mk (grown_of_below hb (some r)); clear h1 hb))
      clear HS0 f1 f2
      have f1 := blk_frozen D2.out.k 1
      have f2 := blk_frozen D2.out.k 2
      go_wp2_with fail
      go_ret
      rw [RS.out]
      exact ⟨_, rfl, Kd.R_nil _ _ _ _ _, ⟨D2.out.err e', grown_then (grown_then (grown_drew1 W _) G1.out) (grown_set _ _ _ _)⟩⟩
  · have RS := Aside0.mk (show rowS l (a, e) = ([], (a, e)) from by unfold rowS; rw [if_neg he])
    have h0' : (e != 0) = true := bne_iff_ne.mpr he
    clear h S ha he
    go_enter Try.func68, Try.ntmps68
    go_wp2_with fail
    go_ret
    rw [RS.out]
    exact ⟨_, rfl, Kd.R_nil _ _ _ _ _, ⟨D0.out, World.grownBy.refl W _⟩⟩
end Go.Proofs.Ytpanefmemabckaa.GenGet
namespace Go.Proofs.Ytpanefmemabckaa.GenGetR
open Go.RowKit Go.Proofs.Ytpanefmemabckaa.NumA Go.Proofs.Ytpanefmemabckaa.NumQ Go.Proofs.Ytpanefmemabckaa.NumGetRow Go.Proofs.Ytpanefmemabckaa.NumMath Go.Proofs.Ytpanefmemabckaa.Bytes Go.Proofs.Ytpanefmemabckaa.GenS Go.Proofs.Ytpanefmemabckaa.GenRep Go.Proofs.Ytpanefmemabckaa.GenBlk Go.Proofs.Ytpanefmemabckaa.GenPure Go.Proofs.Ytpanefmemabckaa.GenMath Go.Proofs.Ytpanefmemabckaa.GenPuts Go.Proofs.YtpanefmemabckaaW.PrintWords Go.Proofs.YtpanefmemabckaaW.PrintLast
open Go.Proofs.Ytpanefmemabckaa.GenGet (Src Rd Went grown_drew grown_drew1 grown_set)
open Go.Proofs.Ytpanefmemabckaa.GenZero (heap_new blk_kept blk_drew1)
set_option linter.unusedSimpArgs false
set_option linter.unusedVariables false

set_option maxRecDepth 100000 in
set_option maxHeartbeats 4000000 in
theorem get_calls {w0 W : World} {r : Nat} {A : Option Addr} {c : Nat} {l : List Nat} {a : Nat} {e : Int} (S : Src w0 A c l) (h : Rd 104 w0 W r A c l a e) (ha : a ≤ l.length) (s : Nat) (sz : Int) (hsz : sz = s) (hs : s ≤ 8) :
    Calls Try.prog 72 #[.pointer (some ⟨r, 0, none⟩), .int .i64 sz] W fun x w' => x = .returned (.int .u64 ((getS l (a, e) s).1 : Int)) ∧ Went 104 w0 W w' r A c l (getS l (a, e) s).2 := by
  obtain ⟨c0, c1, c2⟩ := h.held
  have f1 := blk_frozen h.k 1
  have f2 := blk_frozen h.k 2
  have D := Aside0.mk h
  have SR := Aside0.mk S
  by_cases he : e = 0
  · subst he
    obtain ⟨n, hn⟩ : ∃ n, n = (getP l a s).1 := ⟨_, rfl⟩
    obtain ⟨e', he'⟩ : ∃ n, n = (getP l a s).2 := ⟨_, rfl⟩
    have GF := Aside0.mk (show cardexref01_Get.f 100 (ofN l) a sz = some ((n : Int), e') from by rw [hsz, hn, he']; exact NumRefQ.get_f l S.b (by have := S.m; omega) a s 100 (by omega))
    by_cases h0 : e' = 0
    · have GS := Aside0.mk (show getS l (a, 0) s = (n, (a + s, 0)) from by unfold getS; rw [if_pos rfl, if_pos (by rw [← he', h0]), ← hn])
      subst h0
      have hb : a + s ≤ l.length := getP_ok he'.symm
      have hm := S.m
      have hz0 : 0 ≤ sz := by omega
      have hz8 : sz ≤ 8 := by omega
      have ha9 : (a : Int) ≤ 1000000 := by omega
      have SZ := Aside0.mk hsz
      clear hn he' h S hsz hb hm ha hs
      go_enter Try.func72, Try.ntmps72
      go_upto_region 3 with fail
      go_quiet ((go_at_call 47; exact Calls.quiet_of ((cardexref01_Get.calls 100 A c (ofN l) a sz n 0 _ (Kd.C_drewN (Kd.C_below SR.out.r D.out.b) _) SR.out.c GF.out).mono fun _ _ h => ⟨h.1, h.2.out⟩)))
      go_wp2_with fail
      go_ret
      rw [GS.out]
      refine ⟨rfl, ?_⟩
      exact ⟨(D.out.drew _).at _ (a + s) (by have := SZ.out; omega), grown_then (grown_drew _ _ _) (grown_set _ _ _ _)⟩
    · have GS := Aside0.mk (show getS l (a, 0) s = (0, (a, e')) from by unfold getS; rw [if_pos rfl, if_neg (by rw [← he']; exact h0), ← he'])
      have h0' : (e' != 0) = true := bne_iff_ne.mpr h0
      clear hn he' h S hsz ha hs h0
      go_enter Try.func72, Try.ntmps72
      go_upto_region 3 with fail
      go_quiet ((go_at_call 47; exact Calls.quiet_of ((cardexref01_Get.calls 100 A c (ofN l) a sz n e' _ (Kd.C_drewN (Kd.C_below SR.out.r D.out.b) _) SR.out.c GF.out).mono fun _ _ h => ⟨h.1, h.2.out⟩)))
      go_wp2_with fail
      go_ret
      rw [GS.out]
      refine ⟨rfl, ?_⟩
      exact ⟨(D.out.drew _).err e', grown_then (grown_drew _ _ _) (grown_set _ _ _ _)⟩
  · have GS := Aside0.mk (show getS l (a, e) s = (0, (a, e)) from by unfold getS; rw [if_neg he])
    have h0' : (e != 0) = true := bne_iff_ne.mpr he
    clear h S hsz ha hs he
    go_enter Try.func72, Try.ntmps72
    go_wp2_with fail
    go_ret
    rw [GS.out]
    exact ⟨rfl, ⟨D.out, World.grownBy.refl W _⟩⟩
theorem get1 {w0 W : World} {r : Nat} {A : Option Addr} {c : Nat} {l : List Nat} {a : Nat} {e : Int} (S : Src w0 A c l) (h : Rd 104 w0 W r A c l a e) (ha : a ≤ l.length) :
    Calls Try.prog 72 #[.pointer (some ⟨r, 0, none⟩), .int .i64 1] W fun x w' => x = .returned (.int .u64 ((getS l (a, e) 1).1 : Int)) ∧ Went 104 w0 W w' r A c l (getS l (a, e) 1).2 := get_calls S h ha 1 1 rfl (by decide)
theorem get4 {w0 W : World} {r : Nat} {A : Option Addr} {c : Nat} {l : List Nat} {a : Nat} {e : Int} (S : Src w0 A c l) (h : Rd 104 w0 W r A c l a e) (ha : a ≤ l.length) :
    Calls Try.prog 72 #[.pointer (some ⟨r, 0, none⟩), .int .i64 4] W fun x w' => x = .returned (.int .u64 ((getS l (a, e) 4).1 : Int)) ∧ Went 104 w0 W w' r A c l (getS l (a, e) 4).2 := get_calls S h ha 4 4 rfl (by decide)
theorem get8 {w0 W : World} {r : Nat} {A : Option Addr} {c : Nat} {l : List Nat} {a : Nat} {e : Int} (S : Src w0 A c l) (h : Rd 104 w0 W r A c l a e) (ha : a ≤ l.length) :
    Calls Try.prog 72 #[.pointer (some ⟨r, 0, none⟩), .int .i64 8] W fun x w' => x = .returned (.int .u64 ((getS l (a, e) 8).1 : Int)) ∧ Went 104 w0 W w' r A c l (getS l (a, e) 8).2 := get_calls S h ha 8 8 rfl (by decide)

theorem getS_lt {l : List Nat} (hb : ∀ x ∈ l, x < 256) (a : Nat) (e : Int) : (getS l (a, e) 4).1 < 4294967296 := by
  unfold getS
  split
  · split
    · next h1 =>
      rw [getP_val h1]
      have h := val_lt (l := (l.drop a).take 4) (fun x hx => hb x (List.mem_of_mem_drop (List.mem_of_mem_take hx)))
      refine Nat.lt_of_lt_of_le h (Nat.le_trans (Nat.pow_le_pow_right (by decide) (show ((l.drop a).take 4).length ≤ 4 from by rw [List.length_take]; omega)) (by decide))
    · exact (by decide : (0 : Nat) < 4294967296)
  · exact (by decide : (0 : Nat) < 4294967296)
set_option maxRecDepth 100000 in
set_option maxHeartbeats 4000000 in
theorem many_calls {w0 W : World} {r : Nat} {A : Option Addr} {c : Nat} {l : List Nat} {a : Nat} {e : Int} (S : Src w0 A c l) (h : Rd 104 w0 W r A c l a e) (ha : a ≤ l.length) (s : Nat) (sz : Int) (hsz : sz = s) (hs : 0 < s) (hs8 : s ≤ 16) :
    Calls Try.prog 87 #[.pointer (some ⟨r, 0, none⟩), .int .i64 sz] W fun x w' => x = .returned (.int .i64 ((manyS l (a, e) s).1 : Int)) ∧ Went 104 w0 W w' r A c l (manyS l (a, e) s).2 := by
  have D0 := Aside0.mk h
  have SR := Aside0.mk S
  obtain ⟨n, hn⟩ : ∃ n, n = (getS l (a, e) 4).1 := ⟨_, rfl⟩
  obtain ⟨a1, ha1⟩ : ∃ n, n = (getS l (a, e) 4).2.1 := ⟨_, rfl⟩
  obtain ⟨e1, he1⟩ : ∃ n, n = (getS l (a, e) 4).2.2 := ⟨_, rfl⟩
  have hn32 : n < 4294967296 := by rw [hn]; exact getS_lt S.b a e
  have hle : a1 ≤ l.length := by rw [ha1]; exact getS_le ha
  have hne : e1 ≠ 0 → n = 0 := fun hh => by rw [hn]; exact getS_err (by rw [← he1]; exact hh)
  have GE := Aside0.mk (show getS l (a, e) 4 = (n, (a1, e1)) from by rw [hn, ha1, he1])
  have HA := Aside0.mk ha
  have SZ := Aside0.mk hsz
  have HS := Aside0.mk hs
  have HLE := Aside0.mk hle
  have HM := Aside0.mk S.m
  have HN := Aside0.mk hn32
  have HNE := Aside0.mk hne
  clear hn ha1 he1 h S ha hsz hs hn32 hle hne
  go_enter Try.func87, Try.ntmps87
  go_wp2_with fail
  refine (get4 SR.out D0.out HA.out).mono ?_
  rintro x w1 ⟨rfl, hw⟩
  rw [GE.out] at hw ⊢
  have G1 := Aside0.mk hw.g
  have D := Aside0.mk (show Rd 104 w0 w1 r A c l a1 e1 from hw.d)
  clear hw
  obtain ⟨c0, c1, c2⟩ := D.out.held
  have f1 := blk_frozen D.out.k 1
  have f2 := blk_frozen D.out.k 2
  by_cases h0 : e1 = 0
  · subst h0
    obtain ⟨d, hd⟩ : ∃ d, d = (l.length - a1) / s := ⟨_, rfl⟩
    have hq : Int.tdiv (((ofN l).length : Int) - (a1 : Int)) sz = (d : Int) := by
      have h1 := HLE.out
      rw [ofN_length, SZ.out, hd, show (l.length : Int) - (a1 : Int) = ((l.length - a1 : Nat) : Int) from by omega]
      rfl
    have hd9 : d ≤ 1000000 := by rw [hd]; exact Nat.le_trans (Nat.div_le_self _ _) (by have := HM.out; omega)
    have hw1 : IntKind.i64.wrap (((ofN l).length : Int) - (a1 : Int)) = ((ofN l).length : Int) - (a1 : Int) := by rw [IntKind.wrap_i64, ofN_length]; have := HM.out; have := HLE.out; omega
    have hw2 : IntKind.u64.wrap (d : Int) = (d : Int) := by rw [IntKind.wrap_u64]; omega
    have hw3 : wrap64 (d : Int) = (d : Int) := by unfold wrap64; omega
    have hz : (sz == 0) = false := beq_eq_false_iff_ne.mpr (by have := SZ.out; have := HS.out; omega)
    have hz2 : sz ≠ 0 := by have := SZ.out; have := HS.out; omega
    by_cases hc : d < n
    · have MS := Aside0.mk (show manyS l (a, e) s = (0, (a1, 5)) from by unfold manyS; rw [GE.out]; simp only; rw [if_pos trivial, if_pos (by rw [← hd]; exact hc)])
      have hc' : decide (d < n) = true := decide_eq_true hc
      clear hc hd hd9
      go_upto_region 2 with fail
      go_quiet (fail)
      go_wp2_with fail
      go_ret
      rw [MS.out]
      exact ⟨rfl, ⟨(D.out.drew _).err 5, grown_then (grown_then G1.out (grown_drew _ _ _)) (grown_set _ _ _ _)⟩⟩
    · have MS := Aside0.mk (show manyS l (a, e) s = (n, (a1, 0)) from by unfold manyS; rw [GE.out]; simp only; rw [if_pos trivial, if_neg (by rw [← hd]; exact hc)])
      have hc' : decide (d < n) = false := decide_eq_false hc
      have hn9 : n ≤ 1000000 := by omega
      clear hc hd
      go_upto_region 2 with fail
      go_quiet (fail)
      go_wp2_with fail
      go_ret
      rw [MS.out]
      exact ⟨rfl, ⟨D.out.drew _, grown_then G1.out (grown_drew _ _ _)⟩⟩
  · have h0' : (e1 == 0) = false := beq_eq_false_iff_ne.mpr h0
    have h0'' : (e1 != 0) = true := bne_iff_ne.mpr h0
    obtain rfl := HNE.out h0
    have MS := Aside0.mk (show manyS l (a, e) s = (0, (a1, e1)) from by unfold manyS; rw [GE.out]; simp only; rw [if_neg h0])
    clear h0
    go_upto_region 2 with fail
    go_quiet (fail)
    go_wp2_with fail
    go_ret
    rw [MS.out]
    exact ⟨rfl, ⟨D.out.drew _, grown_then G1.out (grown_drew _ _ _)⟩⟩

set_option maxRecDepth 100000 in
set_option maxHeartbeats 4000000 in
theorem row_calls {w0 W : World} {r : Nat} {A : Option Addr} {c : Nat} {l : List Nat} {a : Nat} {e : Int} (S : Src w0 A c l) (h : Rd 104 w0 W r A c l a e) (ha : a ≤ l.length) :
    Calls Try.prog 71 #[.pointer (some ⟨r, 0, none⟩)] W fun x w' => ∃ v, x = .returned v ∧ RowR kB 5 w' w0.heap.size v (ofN (rowS l (a, e)).1) ∧ Went 104 w0 W w' r A c l (rowS l (a, e)).2 := by
  have D0 := Aside0.mk h
  have SR := Aside0.mk S
  obtain ⟨c0, c1, c2⟩ := D0.out.held
  have f1 := blk_frozen D0.out.k 1
  have f2 := blk_frozen D0.out.k 2
  by_cases he : e = 0
  · subst he
    obtain ⟨q, hq⟩ : ∃ n, n = (getRowP l a 16384).1 := ⟨_, rfl⟩
    obtain ⟨nx, hnx⟩ : ∃ n, n = (getRowP l a 16384).2.1 := ⟨_, rfl⟩
    obtain ⟨e', he'⟩ : ∃ n, n = (getRowP l a 16384).2.2 := ⟨_, rfl⟩
    have GF := Aside0.mk (show cardexref01_GetRow.f 100 (ofN l) a 16384 = some (ofN q, nx, e') from by rw [hq, hnx, he']; exact NumRefQ.getRow_f l S.b (by have := S.m; omega) a 16384 100 (by omega))
    by_cases h0 : e' = 0
    · have RS := Aside0.mk (show rowS l (a, 0) = (q, (nx.toNat, 0)) from by unfold rowS; rw [if_pos rfl, if_pos (by rw [← he', h0]), ← hq, ← hnx])
      subst h0
      have hn := getRowP_ok he'.symm
      have NX := Aside0.mk (show nx = (nx.toNat : Int) from by rw [hnx, hn.2.2.2.2]; omega)
      have QL := Aside0.mk (show q.length ≤ 1000000 from by rw [hq, hn.2.2.2.1, List.length_take, List.length_drop]; have := S.m; omega)
      clear hn hq hnx he' h S ha
      go_enter Try.func71, Try.ntmps71
      go_upto_region 3 with fail
      clear c0 c1 c2
      have D1 := Aside0.mk (D0.out.drew1)
      have HS0 := D1.out.held
      go_region_held3 (fun w' => w'.cell? ⟨r, 0, none⟩ = some (.slice A (ofN l).length c) ∧ w'.cell? ⟨r, 1, none⟩ = some (.int .i64 (a : Int)) ∧ w'.cell? ⟨r, 2, none⟩ = some (.int .i64 0))
        (first | exact HS0 | with_reducible exact D2.out.held)
        ((go_at_call 55; (with_reducible refine (cardexref01_GetRow.calls 100 A c (ofN l) a 16384 (ofN q) nx 0 _ (Kd.C_below SR.out.r D1.out.b) SR.out.c GF.out).mono ?_); rintro x w1 ⟨v1, rfl, h1, hb⟩; have D2 := Aside0.mk (D1.out.below hb); have O1 := Aside0.mk (Kd.R_lower h1 D1.out.b.size); have G1 := Aside0.mk (grown_of_below hb (some r)); clear h1 hb))
      clear HS0 f1 f2
      have f1 := blk_frozen D2.out.k 1
      have f2 := blk_frozen D2.out.k 2
      go_wp2_with fail
      go_ret
      rw [RS.out]
      exact ⟨_, rfl, row_set O1.out D2.out.k (by decide) 1 (.int .i64 nx), ⟨D2.out.at nx nx.toNat NX.out, grown_then (grown_then (grown_drew1 W _) G1.out) (grown_set _ _ _ _)⟩⟩
    · have RS := Aside0.mk (show rowS l (a, 0) = ([], (a, e')) from by unfold rowS; rw [if_pos rfl, if_neg (by rw [← he']; exact h0), ← he'])
      have h0' : (e' != 0) = true := bne_iff_ne.mpr h0
      clear hq hnx he' h S ha h0
      go_enter Try.func71, Try.ntmps71
      go_upto_region 3 with fail
      clear c0 c1 c2
      have D1 := Aside0.mk (D0.out.drew1)
      have HS0 := D1.out.held
      go_region_held3 (fun w' => w'.cell? ⟨r, 0, none⟩ = some (.slice A (ofN l).length c) ∧ w'.cell? ⟨r, 1, none⟩ = some (.int .i64 (a : Int)) ∧ w'.cell? ⟨r, 2, none⟩ = some (.int .i64 0))
        (first | exact HS0 | with_reducible exact D2.out.held)
        ((go_at_call 55; (with_reducible refine (cardexref01_GetRow.calls 100 A c (ofN l) a 16384 (ofN q) nx e' _ (Kd.C_below SR.out.r D1.out.b) SR.out.c GF.out).mono ?_); rintro x w1 ⟨v1, rfl, h1, hb⟩; have D2 := Aside0.mk (D1.out.below hb); have G1 := Aside0.mk (grown_of_below hb (some r)); clear h1 hb))
      clear HS0 f1 f2
      have f1 := blk_frozen D2.out.k 1
      have f2 := blk_frozen D2.out.k 2
      go_wp2_with fail
      go_ret
      rw [RS.out]
      exact ⟨_, rfl, Kd.R_nil _ _ _ _ _, ⟨D2.out.err e', grown_then (grown_then (grown_drew1 W _) G1.out) (grown_set _ _ _ _)⟩⟩
  · have RS := Aside0.mk (show rowS l (a, e) = ([], (a, e)) from by unfold rowS; rw [if_neg he])
    have h0' : (e != 0) = true := bne_iff_ne.mpr he
    clear h S ha he
    go_enter Try.func71, Try.ntmps71
    go_wp2_with fail
    go_ret
    rw [RS.out]
    exact ⟨_, rfl, Kd.R_nil _ _ _ _ _, ⟨D0.out, World.grownBy.refl W _⟩⟩
end Go.Proofs.Ytpanefmemabckaa.GenGetR
namespace Go.Proofs.Ytpanefmemabckaa.GenReadH
open Go.RowKit Go.Proofs.Ytpanefmemabckaa.NumA Go.Proofs.Ytpanefmemabckaa.NumMath Go.Proofs.Ytpanefmemabckaa.Bytes Go.Proofs.Ytpanefmemabckaa.GenS Go.Proofs.Ytpanefmemabckaa.GenRep Go.Proofs.Ytpanefmemabckaa.GenBlk Go.Proofs.Ytpanefmemabckaa.GenPure Go.Proofs.Ytpanefmemabckaa.GenMath Go.Proofs.Ytpanefmemabckaa.GenPuts Go.Proofs.Ytpanefmemabckaa.GenHalf Go.Proofs.YtpanefmemabckaaW.PrintWords Go.Proofs.YtpanefmemabckaaW.PrintLast
open Go.Proofs.Ytpanefmemabckaa.GenGet (get1 get4 get8 many_calls)
open Go.Proofs.Ytpanefmemabckaa.GenGet (Src Rd Went grown_drew grown_drew1 grown_set getS_lt)
open Go.Proofs.Ytpanefmemabckaa.GenZero (heap_new blk_kept blk_drew1)
set_option linter.unusedSimpArgs false
set_option linter.unusedVariables false

theorem row_other {α : Type} {d : Kd α} {e base : Nat} {W w1 : World} {u : Value} {xs : List α} (h : RowR d e W base u xs) {r t : Nat} {cs : Array Value} (hr : W.heap[r]? = some (.cells cs t (0, 0))) (ht : ∀ q, q ∈ e :: d.E → q ≠ t) (hg : W.grownBy w1 (some r)) : RowR d e w1 base u xs :=
  Kd.R_mono (Kd.R_grown (Kd.R_types h hr ht) hg (fun k hk => by simpa using hk.2)) (fun _ _ => trivial)
theorem grown_new {W W1 : World} {row : Option Nat} (h : W.grownBy W1 row) {q : Nat} (hq : W.heap.size ≤ q) (j : Nat) (u : Value) : W.grownBy (W1.setCell ⟨q, j, none⟩ u) row :=
  ⟨h.os, h.tape, h.output, by simpa using h.size, fun b hb hne => by rw [Below.heap_setCell _ _ _ _ (show b ≠ q from by omega)]; exact h.block b hb hne⟩
theorem grown_own {W W1 W2 : World} {row row2 : Option Nat} (h : W.grownBy W1 row) (k : W1.grownBy W2 row2) (hb : ∀ b, row2 = some b → W.heap.size ≤ b) : W.grownBy W2 row :=
  ⟨k.os.trans h.os, k.tape.trans h.tape, k.output.trans h.output, Nat.le_trans h.size k.size, fun b hlt hne => (k.block b (Nat.lt_of_lt_of_le hlt h.size) (fun e => by have := hb b e.symm; omega)).trans (h.block b hlt hne)⟩
theorem getS_ok {l : List Nat} {a s : Nat} (hs : isSize s = true) (h : a + s ≤ l.length) : getS l (a, 0) s = (val ((l.drop a).take s), (a + s, 0)) := by
  unfold getS
  rw [if_pos rfl, getP_ok_of hs h, if_pos rfl]
theorem val_u32 {l : List Nat} (hb : ∀ x ∈ l, x < 256) (a : Nat) : val ((l.drop a).take 4) < 4294967296 := by
  have h := val_lt (l := (l.drop a).take 4) (fun x hx => hb x (List.mem_of_mem_drop (List.mem_of_mem_take hx)))
  exact Nat.lt_of_lt_of_le h (Nat.le_trans (Nat.pow_le_pow_right (by decide) (show ((l.drop a).take 4).length ≤ 4 from by rw [List.length_take]; omega)) (by decide))
/-- what stands while a half is read -/
structure HS (T : Nat) (w0 W wr : World) (r q : Nat) (A : Option Addr) (c : Nat) (l : List Nat) (a : Nat) (e : Int) (k : Int) (v1 v2 : Value) (xs : List Seen) (ys : List Cli) : Prop where
  d : Rd T w0 wr r A c l a e
  g : W.grownBy wr (some r)
  p : wr.heap[q]? = some (halfO k v1 v2)
  o1 : RowR kS 111 wr W.heap.size v1 xs
  o2 : RowR kC 114 wr W.heap.size v2 ys
section
variable {T : Nat} {w0 W wr w' : World} {r q : Nat} {A : Option Addr} {c : Nat} {l : List Nat} {a : Nat} {e k : Int} {v1 v2 : Value} {xs : List Seen} {ys : List Cli}
theorem HS.step (h : HS T w0 W wr r q A c l a e k v1 v2 xs ys) (hq : q ≠ r) (ht : T ≠ 111 ∧ T ≠ 114) {st : Nat × Int} (hw : Went T w0 wr w' r A c l st) : HS T w0 W w' r q A c l st.1 st.2 k v1 v2 xs ys :=
  ⟨hw.d, grown_then h.g hw.g, blk_grown h.p hw.g (fun e => hq (by injection e)), row_other h.o1 h.d.k (fun q hq => by rcases List.mem_cons.1 hq with rfl | hq; exact Ne.symm ht.1; exact absurd (show q ∈ ([] : List Nat) from hq) (by simp)) hw.g, row_other h.o2 h.d.k (fun q hq => by rcases List.mem_cons.1 hq with rfl | hq; exact Ne.symm ht.2; exact absurd (show q ∈ ([] : List Nat) from hq) (by simp)) hw.g⟩
theorem HS.below (h : HS T w0 W wr r q A c l a e k v1 v2 xs ys) (hb : Below wr.heap.size wr w') : HS T w0 W w' r q A c l a e k v1 v2 xs ys :=
  ⟨h.d.below hb, grown_then h.g (grown_of_below hb _), blk_kept h.p hb, Kd.R_below h.o1 hb, Kd.R_below h.o2 hb⟩
theorem Rd.own (h : Rd T w0 wr r A c l a e) {row : Option Nat} (hg : wr.grownBy w' row) (hr : some r ≠ row) (hb : ∀ k, row = some k → w0.heap.size ≤ k) : Rd T w0 w' r A c l a e :=
  ⟨blk_grown h.k hg hr, h.b.grown hg h.b.size hb, h.g⟩
/-- a view grew, and is laid into the half -/
theorem HS.app1 (h : HS T w0 W wr r q A c l a e k v1 v2 xs ys) (hq : W.heap.size ≤ q) (hqr : q ≠ r) (ht : T ≠ 111) (hw : w0.heap.size ≤ W.heap.size) {v : Value} {xs' : List Seen} (ho : RowR kS 111 w' W.heap.size v xs') (hg : wr.grownBy w' v1.ownBlock) : HS T w0 W (w'.setCell ⟨q, 1, none⟩ v) r q A c l a e k v v2 xs' ys := by
  have hb := Kd.R_base h.o1
  have p' := blk_grown h.p hg (Kd.R_ne h.o1 h.p (by decide))
  have d' := Rd.own h.d hg (Kd.R_ne h.o1 h.d.k (Ne.symm ht)) (fun b hk => Nat.le_trans hw (hb b hk))
  exact ⟨⟨blk_far d'.k (p := ⟨q, 1, none⟩) (Ne.symm hqr) _, set_below d'.b (Nat.le_trans hw hq) 1 _, d'.g⟩, grown_new (grown_own h.g hg hb) hq 1 _, blk_set p' 1 _, row_set ho p' (by decide) 1 _, row_set (Kd.R_over h.o2 h.o1 (by decide) hg) p' (by decide) 1 _⟩
theorem HS.app2 (h : HS T w0 W wr r q A c l a e k v1 v2 xs ys) (hq : W.heap.size ≤ q) (hqr : q ≠ r) (ht : T ≠ 114) (hw : w0.heap.size ≤ W.heap.size) {v : Value} {ys' : List Cli} (ho : RowR kC 114 w' W.heap.size v ys') (hg : wr.grownBy w' v2.ownBlock) : HS T w0 W (w'.setCell ⟨q, 2, none⟩ v) r q A c l a e k v1 v xs ys' := by
  have hb := Kd.R_base h.o2
  have p' := blk_grown h.p hg (Kd.R_ne h.o2 h.p (by decide))
  have d' := Rd.own h.d hg (Kd.R_ne h.o2 h.d.k (Ne.symm ht)) (fun b hk => Nat.le_trans hw (hb b hk))
  exact ⟨⟨blk_far d'.k (p := ⟨q, 2, none⟩) (Ne.symm hqr) _, set_below d'.b (Nat.le_trans hw hq) 2 _, d'.g⟩, grown_new (grown_own h.g hg hb) hq 2 _, blk_set p' 2 _, row_set (Kd.R_over h.o1 h.o2 (by decide) hg) p' (by decide) 2 _, row_set ho p' (by decide) 2 _⟩
theorem HS.same3 (h : HS T w0 W wr r q A c l a e k v1 v2 xs ys) (hq : W.heap.size ≤ q) (hqr : q ≠ r) (hw : w0.heap.size ≤ W.heap.size) : HS T w0 W (put3 wr q 0 (.int .u32 k) v1 v2) r q A c l a e k v1 v2 xs ys :=
  ⟨⟨put3_far h.d.k (Ne.symm hqr) 0 _ _ _, put3_below h.d.b (Nat.le_trans hw hq) 0 _ _ _, h.d.g⟩, grown_new (grown_new (grown_new h.g hq 0 _) hq 1 _) hq 2 _, blk_set (blk_set (blk_set h.p 0 _) 1 _) 2 _, put3_row h.o1 h.p (by decide) 0 _ _ _, put3_row h.o2 h.p (by decide) 0 _ _ _⟩
theorem HS.key (h : HS T w0 W wr r q A c l a e k v1 v2 xs ys) (hq : W.heap.size ≤ q) (hqr : q ≠ r) (hw : w0.heap.size ≤ W.heap.size) (k' : Int) : HS T w0 W (wr.setCell ⟨q, 0, none⟩ (.int .u32 k')) r q A c l a e k' v1 v2 xs ys :=
  ⟨⟨blk_far h.d.k (p := ⟨q, 0, none⟩) (Ne.symm hqr) _, set_below h.d.b (Nat.le_trans hw hq) 0 _, h.d.g⟩, grown_new h.g hq 0 _, blk_set h.p 0 _, row_set h.o1 h.p (by decide) 0 _, row_set h.o2 h.p (by decide) 0 _⟩
end

set_option maxRecDepth 100000 in
set_option maxHeartbeats 8000000 in
theorem half_calls {w0 W : World} {r : Nat} {A : Option Addr} {c : Nat} {l : List Nat} {a : Nat} {e : Int} (S : Src w0 A c l) (h : Rd 98 w0 W r A c l a e) (ha : a ≤ l.length) :
    Calls Try.prog 67 #[.pointer (some ⟨r, 0, none⟩)] W fun x w' => ∃ v1 v2, x = .returned (.agg #[.int .u32 (halfS l (a, e)).k, v1, v2]) ∧ RowR kS 111 w' w0.heap.size v1 (halfS l (a, e)).v ∧ RowR kC 114 w' w0.heap.size v2 (halfS l (a, e)).c ∧ Went 98 w0 W w' r A c l ((halfS l (a, e)).at_, (halfS l (a, e)).e) := by
  have SR := Aside0.mk S
  have HAa := Aside0.mk ha
  have RQ := Aside0.mk (show r < W.heap.size from blk_lt h.k)
  have W0 := Aside0.mk h.b.size
  obtain ⟨K, hK⟩ : ∃ K, K = getS l (a, e) 4 := ⟨_, rfl⟩
  obtain ⟨k, a1, e1⟩ := K
  obtain ⟨M, hM⟩ : ∃ K, K = manyS l (a1, e1) 12 := ⟨_, rfl⟩
  obtain ⟨n, a2, e2⟩ := M
  obtain ⟨M', hM'⟩ : ∃ K, K = manyS l (a2 + 12 * n, e2) 16 := ⟨_, rfl⟩
  obtain ⟨m, a3, e3⟩ := M'
  have HE := Aside0.mk (show halfS l (a, e) = ⟨(k : Int), seenR l a2 n, cliR l a3 m, a3 + 16 * m, e3⟩ from by unfold halfS; simp only [← hK, ← hM, ← hM'])
  have K32 := Aside0.mk (show k < 4294967296 from by have h1 := getS_lt S.b a e; rw [← hK] at h1; exact h1)
  have A1 := Aside0.mk (show a1 ≤ l.length from by have h1 := getS_le (s := 4) (st := (a, e)) ha; rw [← hK] at h1; exact h1)
  have A2 := Aside0.mk (show a2 + 12 * n ≤ l.length from by have h1 := manyS_room (s := 12) (st := (a1, e1)) A1.out (by decide); rw [← hM] at h1; exact h1)
  have A3 := Aside0.mk (show a3 + 16 * m ≤ l.length from by have h1 := manyS_room (s := 16) (st := (a2 + 12 * n, e2)) A2.out (by decide); rw [← hM'] at h1; exact h1)
  have E2 := Aside0.mk (show e2 ≠ 0 → n = 0 from by have h1 := manyS_err (l := l) (st := (a1, e1)) (s := 12); rw [← hM] at h1; exact h1)
  have E3 := Aside0.mk (show e3 ≠ 0 → m = 0 from by have h1 := manyS_err (l := l) (st := (a2 + 12 * n, e2)) (s := 16); rw [← hM'] at h1; exact h1)
  have HK := Aside0.mk hK
  have HM := Aside0.mk hM
  have HM' := Aside0.mk hM'
  have LM := Aside0.mk S.m
  have H0 := Aside0.mk (show HS 98 w0 W (W.alloc (halfO 0 (.slice none 0 0) (.slice none 0 0))) r W.heap.size A c l a e 0 (.slice none 0 0) (.slice none 0 0) [] [] from ⟨h.below (below_al W _), grown_of_below (below_al W _) _, heap_new W _, Kd.R_nil _ _ _ _ _, Kd.R_nil _ _ _ _ _⟩)
  obtain ⟨q, hq⟩ : ∃ q, q = W.heap.size := ⟨_, rfl⟩
  rw [← hq] at H0
  have HQ := Aside0.mk (show W.heap.size ≤ q from by omega)
  have NQ := Aside0.mk (show q ≠ r from by have := RQ.out; omega)
  have EQ := Aside0.mk hq
  clear hK hM hM' hq S h ha
  go_enter Try.func67, Try.ntmps67
  go_upto_region 1 with fail
  change Code.wp _ _ _ _ (W.alloc (halfO 0 (.slice none 0 0) (.slice none 0 0)))
  rw [← EQ.out]
  generalize W.alloc (halfO 0 (.slice none 0 0) (.slice none 0 0)) = W1 at H0 ⊢
  clear EQ
  go_wp2_with fail
  refine (get4 SR.out H0.out.d HAa.out).mono ?_
  rintro x w1 ⟨rfl, hw⟩
  rw [← HK.out] at hw ⊢
  have H1 := Aside0.mk (H0.out.step NQ.out (by decide) hw)
  clear hw H0
  obtain ⟨c0, c1, c2⟩ := heldH H1.out.p
  have f0 := blk_frozen H1.out.p 0
  have k9 : k ≤ 4294967295 := by have := K32.out; omega
  have wk : (k : Int) % 4294967296 = (k : Int) := by omega
  go_upto_region 2 with fail
  obtain ⟨w2, hW⟩ : ∃ V, V = w1.setCell ⟨q, 0, none⟩ (.int .u32 (k : Int)) := ⟨_, rfl⟩
  rw [show w1.setCell ⟨q, 0, none⟩ (.int .u32 (k : Int)) = w2 from hW.symm]
  have H2 := Aside0.mk (show HS 98 w0 W w2 r q A c l a1 e1 k (.slice none 0 0) (.slice none 0 0) [] [] from by rw [hW]; exact H1.out.key HQ.out NQ.out W0.out k)
  clear hW H1 c0 c1 c2 f0 k9 wk
  go_wp2_with fail
  refine (many_calls SR.out H2.out.d A1.out 12 12 rfl (by decide) (by decide)).mono ?_
  rintro x w3 ⟨rfl, hw⟩
  rw [← HM.out] at hw ⊢
  have H3 := Aside0.mk (H2.out.step NQ.out (by decide) hw)
  have n9 := Aside0.mk (show n ≤ 1000000 from by have := A2.out; have := LM.out; omega)
  have m9 := Aside0.mk (show m ≤ 1000000 from by have := A3.out; have := LM.out; omega)
  clear hw H2
  go_wp2_with fail
  go_loopw [12] (fun v12 wr => ∃ (i : Nat) (v : Value), i ≤ n ∧ v12 = .int .i64 i ∧ Aside0 (HS 98 w0 W wr r q A c l (a2 + 12 * i) e2 k v (.slice none 0 0) (seenR l a2 i) [])) (fun v12 _ => n - (intOf v12).toNat)
  case atStart => exact ⟨0, _, by omega, rfl, H3⟩
  case round =>
    obtain ⟨i, v, hi, rfl, HH⟩ := hrel
    have n9' := n9.out
    by_cases hlt : i < n
    · have e20 : e2 = 0 := by
        by_cases h : e2 = 0
        · exact h
        · have := E2.out h; omega
      subst e20
      have G4 := Aside0.mk (show getS l (a2 + 12 * i, 0) 4 = (val ((l.drop (a2 + 12 * i)).take 4), (a2 + 12 * i + 4, 0)) from getS_ok rfl (by have := A2.out; omega))
      have G8 := Aside0.mk (show getS l (a2 + 12 * i + 4, 0) 8 = (val ((l.drop (a2 + 12 * i + 4)).take 8), (a2 + 12 * i + 4 + 8, 0)) from getS_ok rfl (by have := A2.out; omega))
      have SN := Aside0.mk (seenR_snoc l a2 i)
      have LI := Aside0.mk (show a2 + 12 * i + 4 ≤ l.length from by have := A2.out; omega)
      have XL := Aside0.mk (seenR_length l a2 i)
      have D32 := Aside0.mk (val_u32 SR.out.b (a2 + 12 * i))
      obtain ⟨d, hd⟩ : ∃ d, d = val ((l.drop (a2 + 12 * i)).take 4) := ⟨_, rfl⟩
      obtain ⟨s, hs⟩ : ∃ d, d = val ((l.drop (a2 + 12 * i + 4)).take 8) := ⟨_, rfl⟩
      obtain ⟨xs, hxs⟩ : ∃ d, d = seenR l a2 i := ⟨_, rfl⟩
      rw [← hd] at G4 SN D32
      rw [← hs] at G8 SN
      rw [← hxs] at HH SN XL
      clear hd hs hxs H3
      have d9 : d ≤ 4294967295 := by have := D32.out; omega
      have wd : (d : Int) % 4294967296 = (d : Int) := by omega
      go_wp2_with fail
      refine (get4 SR.out HH.out.d (by have := LI.out; omega)).mono ?_
      rintro x w4 ⟨rfl, hw⟩
      rw [G4.out] at hw ⊢
      have H4 := Aside0.mk (HH.out.step NQ.out (by decide) hw)
      clear hw HH
      obtain ⟨Av, nv, rfl⟩ := Kd.R_slice H4.out.o1
      go_upto_region 5 with fail
      clear d9 wd
      have H5 := Aside0.mk (H4.out.below (below_of_drew w4))
      clear H4
      refine start_ (n := 10) (S := (fun w' => w'.cell? ⟨q, 0, none⟩ = some (.int .u32 (k : Int)) ∧ w'.cell? ⟨q, 1, none⟩ = some (.slice Av xs.length nv))) (ds := [9]) #[false, false, false, false, false, false, false, false, false, false] (by kernel_rfl) rfl rfl ⟨(heldH H5.out.p).1, (heldH H5.out.p).2.1⟩ (fun hHeld => ?_)
      generalize w4.drew = w5 at H5 hHeld ⊢
      refine pure_ (i := 0) (N := some 17) (v := ?_) (a' := ?_) #[true, false, false, false, false, false, false, false, false, false] rfl rfl (by kernel_rfl) (fun _ _ _ h => h) (Or.inl ⟨by rfl, ?_⟩) ?_ ?_
      rotate_left
      · intro w'
        go_simp
        with_reducible rfl
      rotate_left
      · simp only [Act.put, List.setIfInBounds_toArray, List.set_cons_zero, List.set_cons_succ, i64_w, i32_w]
        rfl
      refine take_ (i := 1) (N := some 18) (v := ?_) (a' := ?_) #[true, true, false, false, false, false, false, false, false, false] rfl rfl (by kernel_rfl) (fun _ _ _ h => h) (Or.inl ⟨by rfl, ?_⟩) hHeld ?_ ?_
      rotate_left
      · rintro w' ⟨s_0, s_1⟩
        go_simp
        with_reducible rfl
      rotate_left
      · simp only [Act.put, List.setIfInBounds_toArray, List.set_cons_zero, List.set_cons_succ, i64_w, i32_w]
        rfl
      refine pure_ (i := 2) (N := some 19) (v := ?_) (a' := ?_) #[true, true, true, false, false, false, false, false, false, false] rfl rfl (by kernel_rfl) (fun _ _ _ h => h) (Or.inl ⟨by rfl, ?_⟩) ?_ ?_
      rotate_left
      · intro w'
        go_simp
        with_reducible rfl
      rotate_left
      · simp only [Act.put, List.setIfInBounds_toArray, List.set_cons_zero, List.set_cons_succ, i64_w, i32_w]
        rfl
      refine pure_ (i := 3) (N := some 20) (v := ?_) (a' := ?_) #[true, true, true, true, false, false, false, false, false, false] rfl rfl (by kernel_rfl) (fun _ _ _ h => h) (Or.inl ⟨by rfl, ?_⟩) ?_ ?_
      rotate_left
      · intro w'
        go_simp
        with_reducible rfl
      rotate_left
      · simp only [Act.put, List.setIfInBounds_toArray, List.set_cons_zero, List.set_cons_succ, i64_w, i32_w]
        rfl
      refine one_ (i := 4) (N := some 21) #[true, true, true, true, true, false, false, false, false, false] rfl rfl (by kernel_rfl) (by decide) (fun K hK => ?_)
      refine goes_ Try.func69 (by kernel_rfl) rfl #[.pointer (some ⟨r, 0, none⟩), .int .i64 8] (by rfl) rfl rfl (by (try simp only [List.map_toArray, List.map_cons, List.map_nil]); first | done | rfl) ?_
      with_reducible refine (get8 SR.out H5.out.d LI.out).mono ?_
      rintro e w6 ⟨rfl, hw⟩
      rw [G8.out] at hw ⊢
      have H6 := Aside0.mk (H5.out.step NQ.out (by decide) hw)
      clear hw H5
      refine ⟨_, rfl, ?_⟩
      refine hK.out _ _ ⟨(heldH H6.out.p).1, (heldH H6.out.p).2.1⟩ (fun hHeld => ?_)
      clear hK K
      refine norm_ (a' := ?_) ?_ ?_
      rotate_left
      · show Act.put _ (some 21) _ = _
        simp only [Act.put, List.setIfInBounds_toArray, List.set_cons_zero, List.set_cons_succ, i64_w, i32_w]
        rfl
      refine pure_ (i := 5) (N := some 22) (v := ?_) (a' := ?_) #[true, true, true, true, true, true, false, false, false, false] rfl rfl (by kernel_rfl) (fun _ _ _ h => h) (Or.inl ⟨by rfl, ?_⟩) ?_ ?_
      rotate_left
      · intro w'
        go_simp
        with_reducible rfl
      rotate_left
      · simp only [Act.put, List.setIfInBounds_toArray, List.set_cons_zero, List.set_cons_succ, i64_w, i32_w]
        rfl
      refine one_ (i := 6) (N := some 23) #[true, true, true, true, true, true, true, false, false, false] rfl rfl (by kernel_rfl) (by decide) (fun K hK => ?_)
      refine Kd.R_lit_step kS (w0 := w6) w6.heap.size 111 (by rfl) (N := 23) (by rfl) (xs := [(⟨(d : Int), (s : Int)⟩ : Seen)]) (inner := [.int .u32 (d : Int), .int .u64 (s : Int)]) (ok := fun _ => True) (okp := fun _ => False) ?hr ?hp (fun _ h => h.elim) trivial (Below.refl _ _) (Nat.le_refl _) (by simp) ?_
      case hr => first | (go_simp; done) | (go_simp; rfl)
      case hp => exact ⟨rfl, fun j p hj => by cases j with | zero => (obtain rfl : (⟨(d : Int), (s : Int)⟩ : Seen) = p := by simpa using hj); exact k111_mkM _ _ _ _ | succ j => simp at hj⟩
      intro v7 w7 ho hb hg_ hn_
      clear hg_ hn_
      obtain ⟨A7, n7, rfl⟩ := Kd.R_slice ho
      have X7 := Aside0.mk (Kd.R_reads' ho).2.2
      have H7 := Aside0.mk (H6.out.below hb)
      clear ho hb H6
      refine hK.out _ _ ⟨(heldH H7.out.p).1, (heldH H7.out.p).2.1⟩ (fun hHeld => ?_)
      clear hK K
      refine norm_ (a' := ?_) ?_ ?_
      rotate_left
      · show Act.put _ (some 23) _ = _
        simp only [Act.put, List.setIfInBounds_toArray, List.set_cons_zero, List.set_cons_succ, i64_w, i32_w]
        rfl
      refine one_ (i := 7) (N := some 24) #[true, true, true, true, true, true, true, true, false, false] rfl rfl (by kernel_rfl) (by decide) (fun K hK => ?_)
      refine Kd.R_append_rows_step kS (w0 := w7) W.heap.size (by rfl) (.tmp 18) (.tmp 23) 53 111 (.agg #[(.int .u32 0), (.int .u64 0)]) 16 rfl Try.underlying53 Go.Proofs.Ytpanefmemabckaa.GenS.info111 rfl (by decide) (by decide) (.slice Av xs.length nv) xs [(⟨(d : Int), (s : Int)⟩ : Seen)] _ _ _ (fun _ => True) (fun _ => False) rfl rfl H7.out.o1 X7.out (fun _ _ h => h) (fun _ h => h.elim) (fun _ _ => trivial) (Below.refl _ _) H7.out.g.size (by have := XL.out; have := n9.out; simp only [List.length_cons, List.length_nil]; omega) ?_
      intro v8 w8 ho hb hg hat
      obtain ⟨A8, n8, e8⟩ := Kd.R_slice ho
      rw [show (xs ++ [(⟨(d : Int), (s : Int)⟩ : Seen)]).length = xs.length + 1 from List.length_append] at e8
      subst e8
      have P8 := Aside0.mk (blk_grown H7.out.p hg (Kd.R_ne H7.out.o1 H7.out.p (by decide)))
      have O8 := Aside0.mk ho
      have G8' := Aside0.mk hg
      clear ho hb hg hat
      refine hK.out _ _ ⟨(heldH P8.out).1, (heldH P8.out).2.1⟩ (fun hHeld => ?_)
      clear hK K
      refine norm_ (a' := ?_) ?_ ?_
      rotate_left
      · show Act.put _ (some 24) _ = _
        simp only [Act.put, List.setIfInBounds_toArray, List.set_cons_zero, List.set_cons_succ, i64_w, i32_w]
        rfl
      refine pure_ (i := 8) (N := some 25) (v := ?_) (a' := ?_) #[true, true, true, true, true, true, true, true, true, false] rfl rfl (by kernel_rfl) (fun _ _ _ h => h) (Or.inl ⟨by rfl, ?_⟩) ?_ ?_
      rotate_left
      · intro w'
        go_simp
        with_reducible rfl
      rotate_left
      · simp only [Act.put, List.setIfInBounds_toArray, List.set_cons_zero, List.set_cons_succ, i64_w, i32_w]
        rfl
      refine last_ (i := 9) (N := none) #[true, true, true, true, true, true, true, true, true, true] rfl rfl (by kernel_rfl) (by decide) (fun K hK => ?_)
      have d1 := blk_cell P8.out 1
      have f1 := blk_frozen P8.out 1
      simp only [List.getElem?_toArray, List.getElem?_cons_zero, List.getElem?_cons_succ] at d1
      refine skip_ (w1 := ?_) (by rfl) rfl ?_ ?_
      rotate_left
      · go_simp
        rfl
      refine hK.out _ _ ?_
      clear hK K
      clear d1 f1
      refine done_ (by kernel_rfl) ?_
      obtain ⟨w9, hW⟩ : ∃ V, V = w8.setCell ⟨q, 1, none⟩ (.slice A8 (xs.length + 1) n8) := ⟨_, rfl⟩
      rw [show w8.setCell ⟨q, 1, none⟩ (.slice A8 (xs.length + 1) n8) = w9 from hW.symm]
      have H9 := Aside0.mk (show HS 98 w0 W w9 r q A c l (a2 + 12 * (i + 1)) 0 k (.slice A8 (xs.length + 1) n8) (.slice none 0 0) (seenR l a2 (i + 1)) [] from by rw [hW, SN.out, show a2 + 12 * (i + 1) = a2 + 12 * i + 4 + 8 from by omega]; exact H7.out.app1 HQ.out NQ.out (by decide) W0.out O8.out G8'.out)
      clear hW P8 O8 G8' H7 X7 hHeld
      go_wp2_with fail
      go_roundw
      case rel => exact ⟨i + 1, _, by omega, by go_num, H9⟩
      case measure => simp [intOf]; omega
    · obtain rfl : i = n := by omega
      clear H3
      obtain ⟨vs, hvs⟩ : ∃ d, d = seenR l a2 i := ⟨_, rfl⟩
      rw [← hvs] at HH
      have EV := Aside0.mk hvs
      clear hvs
      obtain ⟨Av, nv, rfl⟩ := Kd.R_slice HH.out.o1
      go_wp2_with fail
      refine (many_calls SR.out HH.out.d A2.out 16 16 rfl (by decide) (by decide)).mono ?_
      rintro x w3' ⟨rfl, hw⟩
      rw [← HM'.out] at hw ⊢
      have H3' := Aside0.mk (HH.out.step NQ.out (by decide) hw)
      clear hw HH n9'
      go_wp2_with fail
      go_loopw [29] (fun v29 wr => ∃ (j : Nat) (v : Value), j ≤ m ∧ v29 = .int .i64 j ∧ Aside0 (HS 98 w0 W wr r q A c l (a3 + 16 * j) e3 k (.slice Av vs.length nv) v vs (cliR l a3 j))) (fun v29 _ => m - (intOf v29).toNat)
      case atStart => exact ⟨0, _, by omega, rfl, H3'⟩
      case round =>
        obtain ⟨j, v, hj, rfl, HH⟩ := hrel
        have m9' := m9.out
        by_cases hlt2 : j < m
        · have e30 : e3 = 0 := by
            by_cases h : e3 = 0
            · exact h
            · have := E3.out h; omega
          subst e30
          have G4 := Aside0.mk (show getS l (a3 + 16 * j, 0) 4 = (val ((l.drop (a3 + 16 * j)).take 4), (a3 + 16 * j + 4, 0)) from getS_ok rfl (by have := A3.out; omega))
          have G4b := Aside0.mk (show getS l (a3 + 16 * j + 4, 0) 4 = (val ((l.drop (a3 + 16 * j + 4)).take 4), (a3 + 16 * j + 4 + 4, 0)) from getS_ok rfl (by have := A3.out; omega))
          have G8 := Aside0.mk (show getS l (a3 + 16 * j + 4 + 4, 0) 8 = (val ((l.drop (a3 + 16 * j + 8)).take 8), (a3 + 16 * j + 4 + 4 + 8, 0)) from getS_ok rfl (by have := A3.out; omega))
          have SN := Aside0.mk (cliR_snoc l a3 j)
          have LI := Aside0.mk (show a3 + 16 * j + 4 + 4 ≤ l.length from by have := A3.out; omega)
          have XL := Aside0.mk (cliR_length l a3 j)
          have D32 := Aside0.mk (val_u32 SR.out.b (a3 + 16 * j))
          have F32 := Aside0.mk (val_u32 SR.out.b (a3 + 16 * j + 4))
          obtain ⟨d, hd⟩ : ∃ d, d = val ((l.drop (a3 + 16 * j)).take 4) := ⟨_, rfl⟩
          obtain ⟨f, hf⟩ : ∃ d, d = val ((l.drop (a3 + 16 * j + 4)).take 4) := ⟨_, rfl⟩
          obtain ⟨s, hs⟩ : ∃ d, d = val ((l.drop (a3 + 16 * j + 8)).take 8) := ⟨_, rfl⟩
          obtain ⟨xs, hxs⟩ : ∃ d, d = cliR l a3 j := ⟨_, rfl⟩
          rw [← hd] at G4 SN D32
          rw [← hf] at G4b SN F32
          rw [← hs] at G8 SN
          rw [← hxs] at HH SN XL
          clear hd hf hs hxs H3'
          have d9 : d ≤ 4294967295 := by have := D32.out; omega
          have wd : (d : Int) % 4294967296 = (d : Int) := by omega
          have f9 : f ≤ 4294967295 := by have := F32.out; omega
          have wf : (f : Int) % 4294967296 = (f : Int) := by omega
          go_wp2_with fail
          refine (get4 SR.out HH.out.d (by have := LI.out; omega)).mono ?_
          rintro x w4 ⟨rfl, hw⟩
          rw [G4.out] at hw ⊢
          have H4 := Aside0.mk (HH.out.step NQ.out (by decide) hw)
          clear hw HH
          go_wp2_with fail
          refine (get4 SR.out H4.out.d (by have := LI.out; show a3 + 16 * j + 4 ≤ l.length; omega)).mono ?_
          rintro x w4b ⟨rfl, hw⟩
          rw [G4b.out] at hw ⊢
          have H4b := Aside0.mk (H4.out.step NQ.out (by decide) hw)
          clear hw H4
          obtain ⟨Aw, nw, rfl⟩ := Kd.R_slice H4b.out.o2
          go_upto_region 10 with fail
          clear d9 wd f9 wf
          have H5 := Aside0.mk (H4b.out.below (below_of_drew w4b))
          clear H4b
          refine start_ (n := 11) (S := (fun w' => w'.cell? ⟨q, 0, none⟩ = some (.int .u32 (k : Int)) ∧ w'.cell? ⟨q, 2, none⟩ = some (.slice Aw xs.length nw))) (ds := [10]) #[false, false, false, false, false, false, false, false, false, false, false] (by kernel_rfl) rfl rfl ⟨(heldH H5.out.p).1, (heldH H5.out.p).2.2⟩ (fun hHeld => ?_)
          generalize w4b.drew = w5 at H5 hHeld ⊢
          refine pure_ (i := 0) (N := some 37) (v := ?_) (a' := ?_) #[true, false, false, false, false, false, false, false, false, false, false] rfl rfl (by kernel_rfl) (fun _ _ _ h => h) (Or.inl ⟨by rfl, ?_⟩) ?_ ?_
          rotate_left
          · intro w'
            go_simp
            with_reducible rfl
          rotate_left
          · simp only [Act.put, List.setIfInBounds_toArray, List.set_cons_zero, List.set_cons_succ, i64_w, i32_w]
            rfl
          refine take_ (i := 1) (N := some 38) (v := ?_) (a' := ?_) #[true, true, false, false, false, false, false, false, false, false, false] rfl rfl (by kernel_rfl) (fun _ _ _ h => h) (Or.inl ⟨by rfl, ?_⟩) hHeld ?_ ?_
          rotate_left
          · rintro w' ⟨s_0, s_1⟩
            go_simp
            with_reducible rfl
          rotate_left
          · simp only [Act.put, List.setIfInBounds_toArray, List.set_cons_zero, List.set_cons_succ, i64_w, i32_w]
            rfl
          refine pure_ (i := 2) (N := some 39) (v := ?_) (a' := ?_) #[true, true, true, false, false, false, false, false, false, false, false] rfl rfl (by kernel_rfl) (fun _ _ _ h => h) (Or.inl ⟨by rfl, ?_⟩) ?_ ?_
          rotate_left
          · intro w'
            go_simp
            with_reducible rfl
          rotate_left
          · simp only [Act.put, List.setIfInBounds_toArray, List.set_cons_zero, List.set_cons_succ, i64_w, i32_w]
            rfl
          refine pure_ (i := 3) (N := some 40) (v := ?_) (a' := ?_) #[true, true, true, true, false, false, false, false, false, false, false] rfl rfl (by kernel_rfl) (fun _ _ _ h => h) (Or.inl ⟨by rfl, ?_⟩) ?_ ?_
          rotate_left
          · intro w'
            go_simp
            with_reducible rfl
          rotate_left
          · simp only [Act.put, List.setIfInBounds_toArray, List.set_cons_zero, List.set_cons_succ, i64_w, i32_w]
            rfl
          refine pure_ (i := 4) (N := some 41) (v := ?_) (a' := ?_) #[true, true, true, true, true, false, false, false, false, false, false] rfl rfl (by kernel_rfl) (fun _ _ _ h => h) (Or.inl ⟨by rfl, ?_⟩) ?_ ?_
          rotate_left
          · intro w'
            go_simp
            with_reducible rfl
          rotate_left
          · simp only [Act.put, List.setIfInBounds_toArray, List.set_cons_zero, List.set_cons_succ, i64_w, i32_w]
            rfl
          refine one_ (i := 5) (N := some 42) #[true, true, true, true, true, true, false, false, false, false, false] rfl rfl (by kernel_rfl) (by decide) (fun K hK => ?_)
          refine goes_ Try.func69 (by kernel_rfl) rfl #[.pointer (some ⟨r, 0, none⟩), .int .i64 8] (by rfl) rfl rfl (by (try simp only [List.map_toArray, List.map_cons, List.map_nil]); first | done | rfl) ?_
          with_reducible refine (get8 SR.out H5.out.d LI.out).mono ?_
          rintro e w6 ⟨rfl, hw⟩
          rw [G8.out] at hw ⊢
          have H6 := Aside0.mk (H5.out.step NQ.out (by decide) hw)
          clear hw H5
          refine ⟨_, rfl, ?_⟩
          refine hK.out _ _ ⟨(heldH H6.out.p).1, (heldH H6.out.p).2.2⟩ (fun hHeld => ?_)
          clear hK K
          refine norm_ (a' := ?_) ?_ ?_
          rotate_left
          · show Act.put _ (some 42) _ = _
            simp only [Act.put, List.setIfInBounds_toArray, List.set_cons_zero, List.set_cons_succ, i64_w, i32_w]
            rfl
          refine pure_ (i := 6) (N := some 43) (v := ?_) (a' := ?_) #[true, true, true, true, true, true, true, false, false, false, false] rfl rfl (by kernel_rfl) (fun _ _ _ h => h) (Or.inl ⟨by rfl, ?_⟩) ?_ ?_
          rotate_left
          · intro w'
            go_simp
            with_reducible rfl
          rotate_left
          · simp only [Act.put, List.setIfInBounds_toArray, List.set_cons_zero, List.set_cons_succ, i64_w, i32_w]
            rfl
          refine one_ (i := 7) (N := some 44) #[true, true, true, true, true, true, true, true, false, false, false] rfl rfl (by kernel_rfl) (by decide) (fun K hK => ?_)
          refine Kd.R_lit_step kC (w0 := w6) w6.heap.size 114 (by rfl) (N := 44) (by rfl) (xs := [(⟨(d : Int), (f : Int), (s : Int)⟩ : Cli)]) (inner := [.int .u32 (d : Int), .int .u32 (f : Int), .int .u64 (s : Int)]) (ok := fun _ => True) (okp := fun _ => False) ?hr2 ?hp2 (fun _ h => h.elim) trivial (Below.refl _ _) (Nat.le_refl _) (by simp) ?_
          case hr2 => first | (go_simp; done) | (go_simp; rfl)
          case hp2 => exact ⟨rfl, fun j p hj => by cases j with | zero => (obtain rfl : (⟨(d : Int), (f : Int), (s : Int)⟩ : Cli) = p := by simpa using hj); exact k114_mkM _ _ _ _ | succ j => simp at hj⟩
          intro v7 w7 ho hb hg_ hn_
          clear hg_ hn_
          obtain ⟨A7, n7, rfl⟩ := Kd.R_slice ho
          have X7 := Aside0.mk (Kd.R_reads' ho).2.2
          have H7 := Aside0.mk (H6.out.below hb)
          clear ho hb H6
          refine hK.out _ _ ⟨(heldH H7.out.p).1, (heldH H7.out.p).2.2⟩ (fun hHeld => ?_)
          clear hK K
          refine norm_ (a' := ?_) ?_ ?_
          rotate_left
          · show Act.put _ (some 44) _ = _
            simp only [Act.put, List.setIfInBounds_toArray, List.set_cons_zero, List.set_cons_succ, i64_w, i32_w]
            rfl
          refine one_ (i := 8) (N := some 45) #[true, true, true, true, true, true, true, true, true, false, false] rfl rfl (by kernel_rfl) (by decide) (fun K hK => ?_)
          refine Kd.R_append_rows_step kC (w0 := w7) W.heap.size (by rfl) (.tmp 38) (.tmp 44) 54 114 (.agg #[(.int .u32 0), (.int .u32 0), (.int .u64 0)]) 16 rfl Try.underlying54 Go.Proofs.Ytpanefmemabckaa.GenS.info114 rfl (by decide) (by decide) (.slice Aw xs.length nw) xs [(⟨(d : Int), (f : Int), (s : Int)⟩ : Cli)] _ _ _ (fun _ => True) (fun _ => False) rfl rfl H7.out.o2 X7.out (fun _ _ h => h) (fun _ h => h.elim) (fun _ _ => trivial) (Below.refl _ _) H7.out.g.size (by have := XL.out; have := m9.out; simp only [List.length_cons, List.length_nil]; omega) ?_
          intro v8 w8 ho hb hg hat
          obtain ⟨A8, n8, e8⟩ := Kd.R_slice ho
          rw [show (xs ++ [(⟨(d : Int), (f : Int), (s : Int)⟩ : Cli)]).length = xs.length + 1 from List.length_append] at e8
          subst e8
          have P8 := Aside0.mk (blk_grown H7.out.p hg (Kd.R_ne H7.out.o2 H7.out.p (by decide)))
          have O8 := Aside0.mk ho
          have G8' := Aside0.mk hg
          clear ho hb hg hat
          refine hK.out _ _ ⟨(heldH P8.out).1, (heldH P8.out).2.2⟩ (fun hHeld => ?_)
          clear hK K
          refine norm_ (a' := ?_) ?_ ?_
          rotate_left
          · show Act.put _ (some 45) _ = _
            simp only [Act.put, List.setIfInBounds_toArray, List.set_cons_zero, List.set_cons_succ, i64_w, i32_w]
            rfl
          refine pure_ (i := 9) (N := some 46) (v := ?_) (a' := ?_) #[true, true, true, true, true, true, true, true, true, true, false] rfl rfl (by kernel_rfl) (fun _ _ _ h => h) (Or.inl ⟨by rfl, ?_⟩) ?_ ?_
          rotate_left
          · intro w'
            go_simp
            with_reducible rfl
          rotate_left
          · simp only [Act.put, List.setIfInBounds_toArray, List.set_cons_zero, List.set_cons_succ, i64_w, i32_w]
            rfl
          refine last_ (i := 10) (N := none) #[true, true, true, true, true, true, true, true, true, true, true] rfl rfl (by kernel_rfl) (by decide) (fun K hK => ?_)
          have d1 := blk_cell P8.out 2
          have f1 := blk_frozen P8.out 2
          simp only [List.getElem?_toArray, List.getElem?_cons_zero, List.getElem?_cons_succ] at d1
          refine skip_ (w1 := ?_) (by rfl) rfl ?_ ?_
          rotate_left
          · go_simp
            rfl
          refine hK.out _ _ ?_
          clear hK K
          clear d1 f1
          refine done_ (by kernel_rfl) ?_
          obtain ⟨w9, hW⟩ : ∃ V, V = w8.setCell ⟨q, 2, none⟩ (.slice A8 (xs.length + 1) n8) := ⟨_, rfl⟩
          rw [show w8.setCell ⟨q, 2, none⟩ (.slice A8 (xs.length + 1) n8) = w9 from hW.symm]
          have H9 := Aside0.mk (show HS 98 w0 W w9 r q A c l (a3 + 16 * (j + 1)) 0 k (.slice Av vs.length nv) (.slice A8 (xs.length + 1) n8) vs (cliR l a3 (j + 1)) from by rw [hW, SN.out, show a3 + 16 * (j + 1) = a3 + 16 * j + 4 + 4 + 8 from by omega]; exact H7.out.app2 HQ.out NQ.out (by decide) W0.out O8.out G8'.out)
          clear hW P8 O8 G8' H7 X7 hHeld
          go_wp2_with fail
          go_roundw
          case rel => exact ⟨j + 1, _, by omega, by go_num, H9⟩
          case measure => simp [intOf]; omega
        · obtain rfl : j = m := by omega
          clear H3'
          obtain ⟨cs, hcs⟩ : ∃ d, d = cliR l a3 j := ⟨_, rfl⟩
          rw [← hcs] at HH
          have EC := Aside0.mk hcs
          clear hcs
          obtain ⟨Aw, nw, rfl⟩ := Kd.R_slice HH.out.o2
          obtain ⟨c0, c1, c2⟩ := heldH HH.out.p
          have f0 := blk_frozen HH.out.p 0
          have f1 := blk_frozen HH.out.p 1
          have f2 := blk_frozen HH.out.p 2
          go_wp2_with fail
          have H9 := Aside0.mk (HH.out.same3 HQ.out NQ.out W0.out)
          obtain ⟨w9, hW⟩ : ∃ V, V = put3 wr q 0 (.int .u32 (k : Int)) (.slice Av vs.length nv) (.slice Aw cs.length nw) := ⟨_, rfl⟩
          change bodyPost _ _ _ _ _ (put3 wr q 0 (.int .u32 (k : Int)) (.slice Av vs.length nv) (.slice Aw cs.length nw))
          rw [← hW] at H9 ⊢
          clear hW HH c0 c1 c2 f0 f1 f2
          obtain ⟨c0, c1, c2⟩ := heldH H9.out.p
          refine bodyPost_ret (v := .agg #[.int .u32 (k : Int), .slice Av vs.length nv, .slice Aw cs.length nw]) (by simp [results, Try.results67, go_sem, c0, c1, c2]) rfl ?_
          rw [HE.out, ← EV.out, ← EC.out]
          exact ⟨_, _, rfl, Kd.R_lower H9.out.o1 W0.out, Kd.R_lower H9.out.o2 W0.out, ⟨H9.out.d, H9.out.g⟩⟩
end Go.Proofs.Ytpanefmemabckaa.GenReadH
namespace Go.Proofs.Ytpanefmemabckaa.GenReadHR
open Go.RowKit Go.Proofs.Ytpanefmemabckaa.NumA Go.Proofs.Ytpanefmemabckaa.NumMath Go.Proofs.Ytpanefmemabckaa.Bytes Go.Proofs.Ytpanefmemabckaa.GenS Go.Proofs.Ytpanefmemabckaa.GenRep Go.Proofs.Ytpanefmemabckaa.GenBlk Go.Proofs.Ytpanefmemabckaa.GenPure Go.Proofs.Ytpanefmemabckaa.GenMath Go.Proofs.Ytpanefmemabckaa.GenPuts Go.Proofs.Ytpanefmemabckaa.GenHalf Go.Proofs.Ytpanefmemabckaa.GenPure Go.Proofs.YtpanefmemabckaaW.PrintWords Go.Proofs.YtpanefmemabckaaW.PrintLast
open Go.Proofs.Ytpanefmemabckaa.GenGetR (get1 get4 get8 many_calls)
open Go.Proofs.Ytpanefmemabckaa.GenGet (Src Rd Went grown_drew grown_drew1 grown_set getS_lt)
open Go.Proofs.Ytpanefmemabckaa.GenZero (heap_new blk_kept blk_drew1)
set_option linter.unusedSimpArgs false
set_option linter.unusedVariables false

open Go.Proofs.Ytpanefmemabckaa.GenReadH (HS val_u32 getS_ok grown_new)
theorem R_one1 (x : Seen) (base : Nat) (W : World) (hb : base ≤ W.heap.size) : RowR kS 111 (W.alloc (.cells #[.int .u32 x.f0, .int .u64 x.f1] 111)) base (.slice (some ⟨W.heap.size, 0, none⟩) 1 1) [x] := by
  refine ⟨fun _ _ => trivial, [.int .u32 x.f0, .int .u64 x.f1], ?_, ⟨rfl, fun j p hj => ?_⟩⟩
  · have h2 := World.ownsRow_lit (base := base) (e := 111) (size := 2) W #[.int .u32 x.f0, .int .u64 x.f1] 1 hb (by unfold maxLen; omega) (by rfl)
    simp only [List.size_toArray, List.length_cons, List.length_nil] at h2
    exact h2
  · cases j with
    | zero => (obtain rfl : x = p := by simpa using hj); exact k111_mkM _ _ _ _
    | succ j => simp at hj
theorem R_one2 (x : Cli) (base : Nat) (W : World) (hb : base ≤ W.heap.size) : RowR kC 114 (W.alloc (.cells #[.int .u32 x.f0, .int .u32 x.f1, .int .u64 x.f2] 114)) base (.slice (some ⟨W.heap.size, 0, none⟩) 1 1) [x] := by
  refine ⟨fun _ _ => trivial, [.int .u32 x.f0, .int .u32 x.f1, .int .u64 x.f2], ?_, ⟨rfl, fun j p hj => ?_⟩⟩
  · have h2 := World.ownsRow_lit (base := base) (e := 114) (size := 3) W #[.int .u32 x.f0, .int .u32 x.f1, .int .u64 x.f2] 1 hb (by unfold maxLen; omega) (by rfl)
    simp only [List.size_toArray, List.length_cons, List.length_nil] at h2
    exact h2
  · cases j with
    | zero => (obtain rfl : x = p := by simpa using hj); exact k114_mkM _ _ _ _
    | succ j => simp at hj
set_option maxRecDepth 100000 in
set_option maxHeartbeats 8000000 in
theorem half_calls {w0 W : World} {r : Nat} {A : Option Addr} {c : Nat} {l : List Nat} {a : Nat} {e : Int} (S : Src w0 A c l) (h : Rd 104 w0 W r A c l a e) (ha : a ≤ l.length) :
    Calls Try.prog 70 #[.pointer (some ⟨r, 0, none⟩)] W fun x w' => ∃ v1 v2, x = .returned (.agg #[.int .u32 (halfS l (a, e)).k, v1, v2]) ∧ RowR kS 111 w' w0.heap.size v1 (halfS l (a, e)).v ∧ RowR kC 114 w' w0.heap.size v2 (halfS l (a, e)).c ∧ Went 104 w0 W w' r A c l ((halfS l (a, e)).at_, (halfS l (a, e)).e) := by
  have SR := Aside0.mk S
  have HAa := Aside0.mk ha
  have RQ := Aside0.mk (show r < W.heap.size from blk_lt h.k)
  have W0 := Aside0.mk h.b.size
  obtain ⟨K, hK⟩ : ∃ K, K = getS l (a, e) 4 := ⟨_, rfl⟩
  obtain ⟨k, a1, e1⟩ := K
  obtain ⟨M, hM⟩ : ∃ K, K = manyS l (a1, e1) 12 := ⟨_, rfl⟩
  obtain ⟨n, a2, e2⟩ := M
  obtain ⟨M', hM'⟩ : ∃ K, K = manyS l (a2 + 12 * n, e2) 16 := ⟨_, rfl⟩
  obtain ⟨m, a3, e3⟩ := M'
  have HE := Aside0.mk (show halfS l (a, e) = ⟨(k : Int), seenR l a2 n, cliR l a3 m, a3 + 16 * m, e3⟩ from by unfold halfS; simp only [← hK, ← hM, ← hM'])
  have K32 := Aside0.mk (show k < 4294967296 from by have h1 := getS_lt S.b a e; rw [← hK] at h1; exact h1)
  have A1 := Aside0.mk (show a1 ≤ l.length from by have h1 := getS_le (s := 4) (st := (a, e)) ha; rw [← hK] at h1; exact h1)
  have A2 := Aside0.mk (show a2 + 12 * n ≤ l.length from by have h1 := manyS_room (s := 12) (st := (a1, e1)) A1.out (by decide); rw [← hM] at h1; exact h1)
  have A3 := Aside0.mk (show a3 + 16 * m ≤ l.length from by have h1 := manyS_room (s := 16) (st := (a2 + 12 * n, e2)) A2.out (by decide); rw [← hM'] at h1; exact h1)
  have E2 := Aside0.mk (show e2 ≠ 0 → n = 0 from by have h1 := manyS_err (l := l) (st := (a1, e1)) (s := 12); rw [← hM] at h1; exact h1)
  have E3 := Aside0.mk (show e3 ≠ 0 → m = 0 from by have h1 := manyS_err (l := l) (st := (a2 + 12 * n, e2)) (s := 16); rw [← hM'] at h1; exact h1)
  have HK := Aside0.mk hK
  have HM := Aside0.mk hM
  have HM' := Aside0.mk hM'
  have LM := Aside0.mk S.m
  have H0 := Aside0.mk (show Rd 104 w0 (W.alloc (halfO 0 (.slice none 0 0) (.slice none 0 0))) r A c l a e from h.below (below_al W _))
  have B0 := Aside0.mk (show W.grownBy (W.alloc (halfO 0 (.slice none 0 0) (.slice none 0 0))) (some r) from grown_of_below (below_al W _) _)
  have Z0 := Aside0.mk (heap_new W (halfO 0 (.slice none 0 0) (.slice none 0 0)))
  obtain ⟨p, hp⟩ : ∃ q, q = W.heap.size := ⟨_, rfl⟩
  rw [← hp] at Z0
  have HP := Aside0.mk (show W.heap.size ≤ p from by omega)
  have NP := Aside0.mk (show p ≠ r from by have := RQ.out; omega)
  have EP := Aside0.mk hp
  clear hK hM hM' hp S h ha
  go_enter Try.func70, Try.ntmps70
  go_upto_region 1 with fail
  change Code.wp _ _ _ _ (W.alloc (halfO 0 (.slice none 0 0) (.slice none 0 0)))
  rw [← EP.out]
  generalize W.alloc (halfO 0 (.slice none 0 0) (.slice none 0 0)) = W1 at H0 B0 Z0 ⊢
  clear EP
  go_wp2_with fail
  refine (get4 SR.out H0.out HAa.out).mono ?_
  rintro x w1 ⟨rfl, hw⟩
  rw [← HK.out] at hw ⊢
  have B1 := Aside0.mk (grown_then B0.out hw.g)
  have Z1 := Aside0.mk (blk_grown Z0.out hw.g (fun e => NP.out (by injection e)))
  have H1 := Aside0.mk hw.d
  clear hw H0 B0 Z0
  obtain ⟨q, hq⟩ : ∃ q, q = w1.heap.size := ⟨_, rfl⟩
  have H3 := Aside0.mk (show HS 104 w0 W (w1.alloc (halfO k (.slice none 0 0) (.slice none 0 0))) r q A c l a1 e1 k (.slice none 0 0) (.slice none 0 0) [] [] from by rw [hq]; exact ⟨H1.out.below (below_al w1 _), grown_then B1.out (grown_of_below (below_al w1 _) _), heap_new w1 _, Kd.R_nil _ _ _ _ _, Kd.R_nil _ _ _ _ _⟩)
  have Z3 := Aside0.mk (blk_kept Z1.out (below_al w1 (halfO k (.slice none 0 0) (.slice none 0 0))))
  have PQ := Aside0.mk (show p < q from by have := blk_lt Z1.out; omega)
  have HQ := Aside0.mk (show W.heap.size ≤ q from by have := PQ.out; have := HP.out; omega)
  have NQ := Aside0.mk (show q ≠ r from by have := RQ.out; have := HQ.out; omega)
  clear H1 B1 Z1
  have k9 : k ≤ 4294967295 := by have := K32.out; omega
  have wk : (k : Int) % 4294967296 = (k : Int) := by omega
  go_upto_region 2 with fail
  change Code.wp _ _ _ _ (w1.alloc (halfO k (.slice none 0 0) (.slice none 0 0)))
  rw [← hq]
  generalize w1.alloc (halfO k (.slice none 0 0) (.slice none 0 0)) = w2 at H3 Z3 ⊢
  clear hq k9 wk
  go_wp2_with fail
  refine (many_calls SR.out H3.out.d A1.out 12 12 rfl (by decide) (by decide)).mono ?_
  rintro x w3 ⟨rfl, hw⟩
  rw [← HM.out] at hw ⊢
  have H4 := Aside0.mk (H3.out.step NQ.out (by decide) hw)
  have Z4 := Aside0.mk (blk_grown Z3.out hw.g (fun e => NP.out (by injection e)))
  have n9 := Aside0.mk (show n ≤ 1000000 from by have := A2.out; have := LM.out; omega)
  have m9 := Aside0.mk (show m ≤ 1000000 from by have := A3.out; have := LM.out; omega)
  clear hw H3 Z3
  go_wp2_with fail
  go_loopw [5] (fun v5 wr => ∃ (i : Nat) (v : Value), i ≤ n ∧ v5 = .int .i64 i ∧ Aside0 (wr.heap[p]? = some (halfO 0 (.slice none 0 0) (.slice none 0 0))) ∧ Aside0 (HS 104 w0 W wr r q A c l (a2 + 12 * i) e2 k v (.slice none 0 0) (seenR l a2 i) [])) (fun v5 _ => n - (intOf v5).toNat)
  case atStart => exact ⟨0, _, by omega, rfl, Z4, H4⟩
  case round =>
    obtain ⟨i, v, hi, rfl, ZH, HH⟩ := hrel
    have n9' := n9.out
    clear H4 Z4
    obtain ⟨x0, x1, x2⟩ := HH.out.d.held
    by_cases hlt : i < n
    · have e20 : e2 = 0 := by
        by_cases h : e2 = 0
        · exact h
        · have := E2.out h; omega
      subst e20
      have G4 := Aside0.mk (show getS l (a2 + 12 * i, 0) 4 = (val ((l.drop (a2 + 12 * i)).take 4), (a2 + 12 * i + 4, 0)) from getS_ok rfl (by have := A2.out; omega))
      have G8 := Aside0.mk (show getS l (a2 + 12 * i + 4, 0) 8 = (val ((l.drop (a2 + 12 * i + 4)).take 8), (a2 + 12 * i + 4 + 8, 0)) from getS_ok rfl (by have := A2.out; omega))
      have SN := Aside0.mk (seenR_snoc l a2 i)
      have LI := Aside0.mk (show a2 + 12 * i + 4 ≤ l.length from by have := A2.out; omega)
      have XL := Aside0.mk (seenR_length l a2 i)
      have D32 := Aside0.mk (val_u32 SR.out.b (a2 + 12 * i))
      obtain ⟨d, hd⟩ : ∃ d, d = val ((l.drop (a2 + 12 * i)).take 4) := ⟨_, rfl⟩
      obtain ⟨s, hs⟩ : ∃ d, d = val ((l.drop (a2 + 12 * i + 4)).take 8) := ⟨_, rfl⟩
      obtain ⟨xs, hxs⟩ : ∃ d, d = seenR l a2 i := ⟨_, rfl⟩
      rw [← hd] at G4 SN D32
      rw [← hs] at G8 SN
      rw [← hxs] at HH SN XL
      clear hd hs hxs
      have XB := Aside0.mk (show xs.length ≤ 1000000 from by have := XL.out; omega)
      have d9 : d ≤ 4294967295 := by have := D32.out; omega
      have wd : (d : Int) % 4294967296 = (d : Int) := by omega
      go_wp2_with fail
      clear x0 x1 x2
      refine (get4 SR.out HH.out.d (by have := LI.out; omega)).mono ?_
      rintro x w4 ⟨rfl, hw⟩
      rw [G4.out] at hw ⊢
      have H5 := Aside0.mk (HH.out.step NQ.out (by decide) hw)
      have Z5 := Aside0.mk (blk_grown ZH.out hw.g (fun e => NP.out (by injection e)))
      clear hw HH ZH
      go_wp2_with fail
      refine (get8 SR.out H5.out.d LI.out).mono ?_
      rintro x w5 ⟨rfl, hw⟩
      rw [G8.out] at hw ⊢
      have H6 := Aside0.mk (H5.out.step NQ.out (by decide) hw)
      have Z6 := Aside0.mk (blk_grown Z5.out hw.g (fun e => NP.out (by injection e)))
      clear hw H5 Z5
      obtain ⟨Av, nv, rfl⟩ := Kd.R_slice H6.out.o1
      have C7 := Aside0.mk ((Kd.R_reads' (R_one1 ⟨(d : Int), (s : Int)⟩ w5.heap.size w5 (Nat.le_refl _))).2.2)
      have H7 := Aside0.mk (H6.out.below (below_al w5 (.cells #[.int .u32 (d : Int), .int .u64 (s : Int)] 111)))
      have Z7 := Aside0.mk (blk_kept Z6.out (below_al w5 (.cells #[.int .u32 (d : Int), .int .u64 (s : Int)] 111)))
      obtain ⟨x0, x1, x2⟩ := heldH H6.out.p
      clear x0 x2 H6 Z6
      go_wp2_with (first | ((with_reducible refine gate_builtin (b := .append) (xs := #[.tmp 35, .tmp 40]) rfl ?_); at_builtin; refine Kd.R_append_rows kS (w0 := w5.alloc (.cells #[.int .u32 (d : Int), .int .u64 (s : Int)] 111)) W.heap.size rfl (.tmp 35) (.tmp 40) 53 111 (.agg #[(.int .u32 0), (.int .u64 0)]) 16 rfl Try.underlying53 Go.Proofs.Ytpanefmemabckaa.GenS.info111 rfl (by decide) (by omega) (.slice Av xs.length nv) xs [(⟨(d : Int), (s : Int)⟩ : Seen)] _ _ _ (fun _ => True) (fun _ => False) rfl rfl ?aO ?aR (fun _ _ h => h) (fun _ h => h.elim) (fun _ _ => trivial) ?aB ?aS ?aL ?_; (case aR => exact C7.out); (case aB => exact Below.refl _ _); (case aO => exact H7.out.o1); (case aS => exact H7.out.g.size); (case aL => have := XB.out; (try simp only [List.length_cons, List.length_nil]); omega); intro v8 w8 ho hb hg hat; obtain ⟨A8, n8, e8⟩ := Kd.R_slice ho; rw [show (xs ++ [(⟨(d : Int), (s : Int)⟩ : Seen)]).length = xs.length + 1 from List.length_append] at e8; subst e8; have d1 := blk_cell (blk_grown H7.out.p hg (Kd.R_ne H7.out.o1 H7.out.p (by decide))) 1; have f1 := blk_frozen (blk_grown H7.out.p hg (Kd.R_ne H7.out.o1 H7.out.p (by decide))) 1; simp only [List.getElem?_toArray, List.getElem?_cons_zero, List.getElem?_cons_succ] at d1; have O8 := Aside0.mk ho; have G8' := Aside0.mk hg; clear ho hb hg hat))
      obtain ⟨w9, hW⟩ : ∃ V, V = w8.setCell ⟨q, 1, none⟩ (.slice A8 (xs.length + 1) n8) := ⟨_, rfl⟩
      rw [show w8.setCell ⟨q, 1, none⟩ (.slice A8 (xs.length + 1) n8) = w9 from hW.symm]
      have H9 := Aside0.mk (show HS 104 w0 W w9 r q A c l (a2 + 12 * (i + 1)) 0 k (.slice A8 (xs.length + 1) n8) (.slice none 0 0) (seenR l a2 (i + 1)) [] from by rw [hW, SN.out, show a2 + 12 * (i + 1) = a2 + 12 * i + 4 + 8 from by omega]; exact H7.out.app1 HQ.out NQ.out (by decide) W0.out O8.out G8'.out)
      have Z9 := Aside0.mk (show w9.heap[p]? = some (halfO 0 (.slice none 0 0) (.slice none 0 0)) from by rw [hW]; exact blk_far (blk_grown Z7.out G8'.out (Kd.R_ne H7.out.o1 Z7.out (by decide))) (p := ⟨q, 1, none⟩) (Nat.ne_of_lt PQ.out) _)
      clear hW O8 G8' H7 Z7 C7 x1 d1 f1
      go_roundw
      case rel => exact ⟨i + 1, _, by omega, by go_num, Z9, H9⟩
      case measure => simp [intOf]; omega
    · obtain rfl : i = n := by omega
      obtain ⟨vs, hvs⟩ : ∃ d, d = seenR l a2 i := ⟨_, rfl⟩
      rw [← hvs] at HH
      have EV := Aside0.mk hvs
      clear hvs
      obtain ⟨Av, nv, rfl⟩ := Kd.R_slice HH.out.o1
      go_wp2_with fail
      clear x0 x1 x2
      refine (many_calls SR.out HH.out.d A2.out 16 16 rfl (by decide) (by decide)).mono ?_
      rintro x w3' ⟨rfl, hw⟩
      rw [← HM'.out] at hw ⊢
      have H3' := Aside0.mk (HH.out.step NQ.out (by decide) hw)
      have Z3' := Aside0.mk (blk_grown ZH.out hw.g (fun e => NP.out (by injection e)))
      clear hw HH ZH n9'
      go_wp2_with fail
      go_loopw [8] (fun v8 wr => ∃ (j : Nat) (v : Value), j ≤ m ∧ v8 = .int .i64 j ∧ Aside0 (wr.heap[p]? = some (halfO 0 (.slice none 0 0) (.slice none 0 0))) ∧ Aside0 (HS 104 w0 W wr r q A c l (a3 + 16 * j) e3 k (.slice Av vs.length nv) v vs (cliR l a3 j))) (fun v8 _ => m - (intOf v8).toNat)
      case atStart => exact ⟨0, _, by omega, rfl, Z3', H3'⟩
      case round =>
        obtain ⟨j, v, hj, rfl, ZH, HH⟩ := hrel
        have m9' := m9.out
        clear H3' Z3'
        obtain ⟨x0, x1, x2⟩ := HH.out.d.held
        by_cases hlt2 : j < m
        · have e30 : e3 = 0 := by
            by_cases h : e3 = 0
            · exact h
            · have := E3.out h; omega
          subst e30
          have G4 := Aside0.mk (show getS l (a3 + 16 * j, 0) 4 = (val ((l.drop (a3 + 16 * j)).take 4), (a3 + 16 * j + 4, 0)) from getS_ok rfl (by have := A3.out; omega))
          have G4b := Aside0.mk (show getS l (a3 + 16 * j + 4, 0) 4 = (val ((l.drop (a3 + 16 * j + 4)).take 4), (a3 + 16 * j + 4 + 4, 0)) from getS_ok rfl (by have := A3.out; omega))
          have G8 := Aside0.mk (show getS l (a3 + 16 * j + 4 + 4, 0) 8 = (val ((l.drop (a3 + 16 * j + 8)).take 8), (a3 + 16 * j + 4 + 4 + 8, 0)) from getS_ok rfl (by have := A3.out; omega))
          have SN := Aside0.mk (cliR_snoc l a3 j)
          have LI := Aside0.mk (show a3 + 16 * j + 4 + 4 ≤ l.length from by have := A3.out; omega)
          have XL := Aside0.mk (cliR_length l a3 j)
          have D32 := Aside0.mk (val_u32 SR.out.b (a3 + 16 * j))
          have F32 := Aside0.mk (val_u32 SR.out.b (a3 + 16 * j + 4))
          obtain ⟨d, hd⟩ : ∃ d, d = val ((l.drop (a3 + 16 * j)).take 4) := ⟨_, rfl⟩
          obtain ⟨f, hf⟩ : ∃ d, d = val ((l.drop (a3 + 16 * j + 4)).take 4) := ⟨_, rfl⟩
          obtain ⟨s, hs⟩ : ∃ d, d = val ((l.drop (a3 + 16 * j + 8)).take 8) := ⟨_, rfl⟩
          obtain ⟨xs, hxs⟩ : ∃ d, d = cliR l a3 j := ⟨_, rfl⟩
          rw [← hd] at G4 SN D32
          rw [← hf] at G4b SN F32
          rw [← hs] at G8 SN
          rw [← hxs] at HH SN XL
          clear hd hf hs hxs
          have XB := Aside0.mk (show xs.length ≤ 1000000 from by have := XL.out; omega)
          have d9 : d ≤ 4294967295 := by have := D32.out; omega
          have wd : (d : Int) % 4294967296 = (d : Int) := by omega
          have f9 : f ≤ 4294967295 := by have := F32.out; omega
          have wf : (f : Int) % 4294967296 = (f : Int) := by omega
          go_wp2_with fail
          clear x0 x1 x2
          refine (get4 SR.out HH.out.d (by have := LI.out; omega)).mono ?_
          rintro x w4 ⟨rfl, hw⟩
          rw [G4.out] at hw ⊢
          have H4 := Aside0.mk (HH.out.step NQ.out (by decide) hw)
          have Z4 := Aside0.mk (blk_grown ZH.out hw.g (fun e => NP.out (by injection e)))
          clear hw HH ZH
          go_wp2_with fail
          refine (get4 SR.out H4.out.d (by have := LI.out; show a3 + 16 * j + 4 ≤ l.length; omega)).mono ?_
          rintro x w4b ⟨rfl, hw⟩
          rw [G4b.out] at hw ⊢
          have H5 := Aside0.mk (H4.out.step NQ.out (by decide) hw)
          have Z5 := Aside0.mk (blk_grown Z4.out hw.g (fun e => NP.out (by injection e)))
          clear hw H4 Z4
          go_wp2_with fail
          refine (get8 SR.out H5.out.d LI.out).mono ?_
          rintro x w5 ⟨rfl, hw⟩
          rw [G8.out] at hw ⊢
          have H6 := Aside0.mk (H5.out.step NQ.out (by decide) hw)
          have Z6 := Aside0.mk (blk_grown Z5.out hw.g (fun e => NP.out (by injection e)))
          clear hw H5 Z5
          obtain ⟨Aw, nw, rfl⟩ := Kd.R_slice H6.out.o2
          have C7 := Aside0.mk ((Kd.R_reads' (R_one2 ⟨(d : Int), (f : Int), (s : Int)⟩ w5.heap.size w5 (Nat.le_refl _))).2.2)
          have H7 := Aside0.mk (H6.out.below (below_al w5 (.cells #[.int .u32 (d : Int), .int .u32 (f : Int), .int .u64 (s : Int)] 114)))
          have Z7 := Aside0.mk (blk_kept Z6.out (below_al w5 (.cells #[.int .u32 (d : Int), .int .u32 (f : Int), .int .u64 (s : Int)] 114)))
          obtain ⟨x0, x1, x2⟩ := heldH H6.out.p
          clear x0 x1 H6 Z6
          go_wp2_with (first | ((with_reducible refine gate_builtin (b := .append) (xs := #[.tmp 64, .tmp 71]) rfl ?_); at_builtin; refine Kd.R_append_rows kC (w0 := w5.alloc (.cells #[.int .u32 (d : Int), .int .u32 (f : Int), .int .u64 (s : Int)] 114)) W.heap.size rfl (.tmp 64) (.tmp 71) 54 114 (.agg #[(.int .u32 0), (.int .u32 0), (.int .u64 0)]) 16 rfl Try.underlying54 Go.Proofs.Ytpanefmemabckaa.GenS.info114 rfl (by decide) (by omega) (.slice Aw xs.length nw) xs [(⟨(d : Int), (f : Int), (s : Int)⟩ : Cli)] _ _ _ (fun _ => True) (fun _ => False) rfl rfl ?aO ?aR (fun _ _ h => h) (fun _ h => h.elim) (fun _ _ => trivial) ?aB ?aS ?aL ?_; (case aR => exact C7.out); (case aB => exact Below.refl _ _); (case aO => exact H7.out.o2); (case aS => exact H7.out.g.size); (case aL => have := XB.out; (try simp only [List.length_cons, List.length_nil]); omega); intro v8 w8 ho hb hg hat; obtain ⟨A8, n8, e8⟩ := Kd.R_slice ho; rw [show (xs ++ [(⟨(d : Int), (f : Int), (s : Int)⟩ : Cli)]).length = xs.length + 1 from List.length_append] at e8; subst e8; have d1 := blk_cell (blk_grown H7.out.p hg (Kd.R_ne H7.out.o2 H7.out.p (by decide))) 2; have f1 := blk_frozen (blk_grown H7.out.p hg (Kd.R_ne H7.out.o2 H7.out.p (by decide))) 2; simp only [List.getElem?_toArray, List.getElem?_cons_zero, List.getElem?_cons_succ] at d1; have O8 := Aside0.mk ho; have G8' := Aside0.mk hg; clear ho hb hg hat))
          obtain ⟨w9, hW⟩ : ∃ V, V = w8.setCell ⟨q, 2, none⟩ (.slice A8 (xs.length + 1) n8) := ⟨_, rfl⟩
          rw [show w8.setCell ⟨q, 2, none⟩ (.slice A8 (xs.length + 1) n8) = w9 from hW.symm]
          have H9 := Aside0.mk (show HS 104 w0 W w9 r q A c l (a3 + 16 * (j + 1)) 0 k (.slice Av vs.length nv) (.slice A8 (xs.length + 1) n8) vs (cliR l a3 (j + 1)) from by rw [hW, SN.out, show a3 + 16 * (j + 1) = a3 + 16 * j + 4 + 4 + 8 from by omega]; exact H7.out.app2 HQ.out NQ.out (by decide) W0.out O8.out G8'.out)
          have Z9 := Aside0.mk (show w9.heap[p]? = some (halfO 0 (.slice none 0 0) (.slice none 0 0)) from by rw [hW]; exact blk_far (blk_grown Z7.out G8'.out (Kd.R_ne H7.out.o2 Z7.out (by decide))) (p := ⟨q, 2, none⟩) (Nat.ne_of_lt PQ.out) _)
          clear hW O8 G8' H7 Z7 C7 x2 d1 f1
          go_roundw
          case rel => exact ⟨j + 1, _, by omega, by go_num, Z9, H9⟩
          case measure => simp [intOf]; omega
        · obtain rfl : j = m := by omega
          obtain ⟨cs, hcs⟩ : ∃ d, d = cliR l a3 j := ⟨_, rfl⟩
          rw [← hcs] at HH
          have EC := Aside0.mk hcs
          clear hcs
          obtain ⟨Aw, nw, rfl⟩ := Kd.R_slice HH.out.o2
          obtain ⟨c0, c1, c2⟩ := heldH HH.out.p
          have f0 := blk_frozen ZH.out 0
          have f1 := blk_frozen ZH.out 1
          have f2 := blk_frozen ZH.out 2
          obtain ⟨z0, z1, z2⟩ := heldH ZH.out
          go_wp2_with fail
          obtain ⟨w9, hW⟩ : ∃ V, V = put3 wr p 0 (.int .u32 (k : Int)) (.slice Av vs.length nv) (.slice Aw cs.length nw) := ⟨_, rfl⟩
          have P9 := Aside0.mk (show w9.heap[p]? = some (halfO k (.slice Av vs.length nv) (.slice Aw cs.length nw)) from by rw [hW]; exact blk_set (blk_set (blk_set ZH.out 0 _) 1 _) 2 _)
          have O1 := Aside0.mk (show RowR kS 111 w9 W.heap.size (.slice Av vs.length nv) vs from by rw [hW]; exact put3_row HH.out.o1 ZH.out (by decide) 0 _ _ _)
          have O2 := Aside0.mk (show RowR kC 114 w9 W.heap.size (.slice Aw cs.length nw) cs from by rw [hW]; exact put3_row HH.out.o2 ZH.out (by decide) 0 _ _ _)
          have D9 := Aside0.mk (show Rd 104 w0 w9 r A c l (a3 + 16 * j) e3 from by rw [hW]; exact ⟨put3_far HH.out.d.k (Ne.symm NP.out) 0 _ _ _, put3_below HH.out.d.b (Nat.le_trans W0.out HP.out) 0 _ _ _, HH.out.d.g⟩)
          have B9 := Aside0.mk (show W.grownBy w9 (some r) from by rw [hW]; exact grown_new (grown_new (grown_new HH.out.g HP.out 0 _) HP.out 1 _) HP.out 2 _)
          change bodyPost _ _ _ _ _ (put3 wr p 0 (.int .u32 (k : Int)) (.slice Av vs.length nv) (.slice Aw cs.length nw))
          rw [← hW]
          clear hW HH ZH c0 c1 c2 f0 f1 f2 z0 z1 z2 x0 x1 x2
          obtain ⟨c0, c1, c2⟩ := heldH P9.out
          refine bodyPost_ret (v := .agg #[.int .u32 (k : Int), .slice Av vs.length nv, .slice Aw cs.length nw]) (by simp [results, Try.results70, go_sem, c0, c1, c2]) rfl ?_
          rw [HE.out, ← EV.out, ← EC.out]
          exact ⟨_, _, rfl, Kd.R_lower O1.out W0.out, Kd.R_lower O2.out W0.out, ⟨D9.out, B9.out⟩⟩
end Go.Proofs.Ytpanefmemabckaa.GenReadHR
