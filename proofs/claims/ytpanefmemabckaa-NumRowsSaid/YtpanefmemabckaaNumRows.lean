/- NumRows returns true at every row of bytes, place and limit: the walk. -/
import Derived.Test.YtpanefmemabckaaRowInts
import Derived.Test.YtpanefmemabckaaNumRef
import Derived.Test.YtpanefmemabckaaNumLives
namespace Go.Proofs.Ytpanefmemabckaa.NumRows
open Go.RowKit Go.Proofs.Ytpanefmemabckaa.NumA Go.Proofs.Ytpanefmemabckaa.NumR Go.Proofs.Ytpanefmemabckaa.NumL Go.Proofs.Ytpanefmemabckaa.NumMath Go.Proofs.Ytpanefmemabckaa.Bytes Go.Proofs.Ytpanefmemabckaa.Wide Go.Proofs.Ytpanefmemabckaa.Ints Go.Proofs.Ytpanefmemabckaa.RowInts Go.Proofs.YtpanefmemabckaaW.PrintWords Go.Proofs.YtpanefmemabckaaW.PrintLast

theorem rowP_lt {l : List Nat} (h : ∀ c ∈ l, c < 256) : ∀ c ∈ rowP l, c < 256 := by
  intro c hc
  unfold rowP at hc
  rcases List.mem_append.1 hc with hc | hc
  · unfold putP at hc
    split at hc
    · exact le_lt _ _ c hc
    · cases hc
  · exact h c hc
theorem getRowP_lt {l : List Nat} (h : ∀ c ∈ l, c < 256) (i most : Int) : ∀ c ∈ (getRowP l i most).1, c < 256 := by
  intro c hc
  unfold getRowP at hc
  split at hc
  · split at hc
    · cases hc
    · split at hc
      · cases hc
      · exact h c (List.mem_of_mem_drop (List.mem_of_mem_take hc))
  · cases hc

set_option maxRecDepth 100000 in
set_option maxHeartbeats 4000000 in
theorem walk (A2 : Option Addr) (l2 : List Int) (c2 : Nat) (a3 a4 : Int) (w : World)
    (hr2 : Kd.C (Kd.int .u8) w A2 l2.length l2) (hc2 : l2.length ≤ c2) (hw2 : ∀ x ∈ l2, (Lit.int .u8 x).wf = true) (hs2 : l2.length * 1 ≤ 140737488351232) (_ : (Lit.int .i64 a3).wf = true) (_ : (Lit.int .i64 a4).wf = true) :
    Calls Try.prog 14 #[.slice A2 l2.length c2, .int .i64 a3, .int .i64 a4] w fun e w' => e = .returned (.bool true) ∧ Below w.heap.size w w' := by
  obtain ⟨l, rfl, hb⟩ := bytes_of hw2
  have hs : l.length ≤ 140737488351232 := by rw [ofN_length] at hs2; omega
  have HR := Aside0.mk hr2
  have HC := Aside0.mk hc2
  have HS := Aside0.mk hs
  have HBY := Aside0.mk hb
  have rl := rowP_lt hb
  have gl := getRowP_lt hb a3 a4
  have p2 := NumRef.row_f l hs 100 (by omega)
  have g1 := NumPure.getRow_f l hb hs a3 a4 100 (by omega)
  have g2 := NumRef.getRow_f l hb hs a3 a4 100 (by omega)
  obtain ⟨x, hx⟩ : ∃ x, x = rowP l := ⟨_, rfl⟩
  obtain ⟨q, hq⟩ : ∃ q, q = (getRowP l a3 a4).1 := ⟨_, rfl⟩
  obtain ⟨nx, hn⟩ : ∃ q, q = (getRowP l a3 a4).2.1 := ⟨_, rfl⟩
  obtain ⟨er, he⟩ : ∃ q, q = (getRowP l a3 a4).2.2 := ⟨_, rfl⟩
  rw [← hx] at p2 rl
  rw [← hq, ← hn, ← he] at g1 g2
  rw [← hq] at gl
  have sx := NumPure.same_f x x rl rl
  have sq := NumPure.same_f q q gl gl
  rw [decide_eq_true rfl] at sx sq
  have EX := Aside0.mk hx
  have P2 := Aside0.mk p2
  have G1 := Aside0.mk g1
  have G2 := Aside0.mk g2
  have SX := Aside0.mk sx
  have SQ := Aside0.mk sq
  have LV := Aside0.mk NumLives.lives_at
  clear p2 g1 g2 sx sq rl gl hx hq hn he hr2 hc2 hs hb hw2 hs2
  go_enter Try.func14, Try.ntmps14
  go_wp2_with fail
  refine (wide_calls A2 c2 l _ HR.out HS.out).mono ?_
  rintro e1 w1 ⟨b, rfl, hblk, hb1⟩
  have B1 := Aside0.mk hb1
  have K1 := Aside0.mk hblk
  clear hb1 hblk
  go_wp2_with fail
  refine (row_ints _ _ l _ (C_block K1.out l (by have := HS.out; omega) List.take_left) HS.out).mono ?_
  rintro e2 w2 ⟨v2, rfl, ho, hi, hb2⟩
  rw [← EX.out] at ho
  obtain ⟨A3, c3, rfl⟩ := Kd.R_slice ho
  -- everything since w1 is told below w1's size
  have O2 := Aside0.mk ho
  have I2 := Aside0.mk hi
  have V2 := Aside0.mk (Kd.R_base ho)
  have D := Aside0.mk hb2
  clear ho hi hb2
  go_wp2_with fail
  refine (getRow_ints 100 _ _ (ofN l) a3 a4 (ofN q) nx er _ (C_block (blk_kept K1.out D.out) l (by have := HS.out; omega) List.take_left) (by rw [ofN_length]; omega) G1.out).mono ?_
  rintro e3 w3 ⟨v3, rfl, ho, hi, hb3⟩
  obtain ⟨A4, c4, rfl⟩ := Kd.R_slice ho
  have O3 := Aside0.mk ho
  have I3 := Aside0.mk hi
  have V3 := Aside0.mk (fun k hk => Nat.le_trans D.out.size (Kd.R_base ho k hk))
  replace O2 := Aside0.mk (Kd.R_below O2.out hb3)
  replace I2 := Aside0.mk (I2.out.below hb3)
  replace D := Aside0.mk (below_then D.out D.out.size hb3)
  clear ho hi hb3
  go_wp2_with fail
  refine (cardexref01_GetRow.calls 100 _ _ (ofN l) a3 a4 (ofN q) nx er _ (Kd.C_below HR.out (below_then B1.out B1.out.size D.out)) HC.out G2.out).mono ?_
  rintro e4 w4 ⟨v4, rfl, ho, hb4⟩
  obtain ⟨A5, c5, rfl⟩ := Kd.R_slice ho
  have O4 := Aside0.mk ho
  replace O2 := Aside0.mk (Kd.R_below O2.out hb4)
  replace I2 := Aside0.mk (I2.out.below hb4)
  replace O3 := Aside0.mk (Kd.R_below O3.out hb4)
  replace I3 := Aside0.mk (I3.out.below hb4)
  replace D := Aside0.mk (below_then D.out D.out.size hb4)
  clear ho hb4
  go_wp2_with fail
  refine (cardexref01_Row.calls 100 _ _ (ofN l) (ofN x) _ (Kd.C_below HR.out (below_then B1.out B1.out.size D.out)) HC.out P2.out).mono ?_
  rintro e5 w5 ⟨v5, rfl, ho, hb5⟩
  obtain ⟨A6, c6, rfl⟩ := Kd.R_slice ho
  have O5 := Aside0.mk ho
  replace O2 := Aside0.mk (Kd.R_below O2.out hb5)
  replace I2 := Aside0.mk (I2.out.below hb5)
  replace O3 := Aside0.mk (Kd.R_below O3.out hb5)
  replace I3 := Aside0.mk (I3.out.below hb5)
  replace O4 := Aside0.mk (Kd.R_below O4.out hb5)
  replace D := Aside0.mk (below_then D.out D.out.size hb5)
  clear ho hb5
  go_wp2_with fail
  refine (cardexref00_Same.calls _ _ (ofN x) _ _ (ofN x) true _ (Kd.R_reads' O2.out).2.2 (Kd.R_reads' O2.out).2.1 (Kd.R_reads' O5.out).2.2 (Kd.R_reads' O5.out).2.1 SX.out).mono ?_
  rintro e6 w6 ⟨rfl, hd6⟩
  replace O3 := Aside0.mk (Kd.R_below O3.out hd6.below)
  replace O4 := Aside0.mk (Kd.R_below O4.out hd6.below)
  replace I2 := Aside0.mk (I2.out.below hd6.below)
  replace I3 := Aside0.mk (I3.out.below hd6.below)
  replace D := Aside0.mk (below_then D.out D.out.size hd6.below)
  clear hd6 O2 O5
  go_wp2_with fail
  refine (cardexref00_Same.calls _ _ (ofN q) _ _ (ofN q) true _ (Kd.R_reads' O3.out).2.2 (Kd.R_reads' O3.out).2.1 (Kd.R_reads' O4.out).2.2 (Kd.R_reads' O4.out).2.1 SQ.out).mono ?_
  rintro e7 w7 ⟨rfl, hd7⟩
  replace I2 := Aside0.mk (I2.out.below hd7.below)
  replace I3 := Aside0.mk (I3.out.below hd7.below)
  replace D := Aside0.mk (below_then D.out D.out.size hd7.below)
  clear hd7 O3 O4
  go_wp2_with fail
  refine (spoil_calls _ _ 1 I2.out).mono ?_
  rintro e8 w8 ⟨rfl, hg, hi⟩
  replace I3 := Aside0.mk (hi _ I3.out)
  replace D := Aside0.mk (D.out.grown hg D.out.size V2.out)
  clear hg hi I2 V2
  go_wp2_with fail
  refine (spoil_calls _ _ 1 I3.out).mono ?_
  rintro e9 w9 ⟨rfl, hg, hi⟩
  replace D := Aside0.mk (D.out.grown hg D.out.size V3.out)
  clear hg hi I3 V3
  go_wp2_with fail
  refine (left_calls A2 c2 l b _ HBY.out HS.out (blk_kept K1.out D.out) (Kd.C_below HR.out (below_then B1.out B1.out.size D.out)) HC.out).mono ?_
  rintro e10 w10 ⟨rfl, hd⟩
  replace D := Aside0.mk (below_then D.out D.out.size hd.below)
  clear hd
  go_wp2_with fail
  refine (cardexlaw01_lives.calls 40 true _ LV.out).mono ?_
  rintro e11 w11 ⟨rfl, hb⟩
  have B8 := Aside0.mk (below_then B1.out B1.out.size (below_then D.out D.out.size hb))
  clear hb
  go_wp2_with fail
  go_ret
  exact ⟨rfl, B8.out⟩
end Go.Proofs.Ytpanefmemabckaa.NumRows
