/- NumNumbers returns true at every number, size, list of bytes and place: the walk. -/
import Derived.Test.YtpanefmemabckaaWide
import Derived.Test.YtpanefmemabckaaNumRef
import Derived.Test.YtpanefmemabckaaNumLives
namespace Go.Proofs.Ytpanefmemabckaa.NumNumbers
open Go.RowKit Go.Proofs.Ytpanefmemabckaa.NumA Go.Proofs.Ytpanefmemabckaa.NumR Go.Proofs.Ytpanefmemabckaa.NumL Go.Proofs.Ytpanefmemabckaa.NumMath Go.Proofs.Ytpanefmemabckaa.Bytes Go.Proofs.Ytpanefmemabckaa.Wide Go.Proofs.YtpanefmemabckaaW.PrintWords Go.Proofs.YtpanefmemabckaaW.PrintLast

theorem putP_lt (n : Nat) (a : Int) : ∀ c ∈ (putP n a).1, c < 256 := by
  intro c hc
  unfold putP at hc
  split at hc
  · exact le_lt _ _ c hc
  · cases hc

set_option maxRecDepth 100000 in
set_option maxHeartbeats 4000000 in
theorem walk (a0 a1 : Int) (A2 : Option Addr) (l2 : List Int) (c2 : Nat) (a3 : Int) (w : World) (h0 : (Lit.int .u64 a0).wf = true) (_ : (Lit.int .i64 a1).wf = true)
    (hr2 : Kd.C (Kd.int .u8) w A2 l2.length l2) (hc2 : l2.length ≤ c2) (hw2 : ∀ x ∈ l2, (Lit.int .u8 x).wf = true) (hs2 : l2.length * 1 ≤ 140737488351232) (_ : (Lit.int .i64 a3).wf = true) :
    Calls Try.prog 11 #[.int .u64 a0, .int .i64 a1, .slice A2 l2.length c2, .int .i64 a3] w fun e w' => e = .returned (.bool true) ∧ Below w.heap.size w w' := by
  obtain ⟨n, rfl, hn⟩ := nat_u64 h0
  obtain ⟨l, rfl, hb⟩ := bytes_of hw2
  have hs : l.length ≤ 140737488351232 := by rw [ofN_length] at hs2; omega
  have HR := Aside0.mk hr2
  have HC := Aside0.mk hc2
  have HS := Aside0.mk hs
  have HBY := Aside0.mk hb
  obtain ⟨x, hx⟩ : ∃ x, x = (putP n a1).1 := ⟨_, rfl⟩
  obtain ⟨e, he⟩ : ∃ e, e = (putP n a1).2 := ⟨_, rfl⟩
  obtain ⟨q, hq⟩ : ∃ q, q = (getP l a3 a1).1 := ⟨_, rfl⟩
  obtain ⟨f, hf⟩ : ∃ f, f = (getP l a3 a1).2 := ⟨_, rfl⟩
  have hx256 := putP_lt n a1
  have p1 := NumPure.put_f 100 n a1 (by omega)
  have p2 := NumRef.put_f 100 n a1 (by omega) hn
  have g1 := NumPure.get_f l hb hs a3 a1 100 (by omega)
  have g2 := NumRef.get_f l hb hs a3 a1 100 (by omega)
  rw [← hx, ← he] at p1 p2
  rw [← hq, ← hf] at g1 g2
  rw [← hx] at hx256
  have sm := NumPure.same_f x x hx256 hx256
  rw [decide_eq_true rfl] at sm
  have P1 := Aside0.mk p1
  have P2 := Aside0.mk p2
  have G1 := Aside0.mk g1
  have G2 := Aside0.mk g2
  have SM := Aside0.mk sm
  have LV := Aside0.mk NumLives.lives_at
  clear p1 p2 g1 g2 sm hx256 hx he hq hf hr2 hc2 hs hb hw2 hs2 h0 hn
  go_enter Try.func11, Try.ntmps11
  go_wp2_with fail
  refine (wide_calls A2 c2 l _ HR.out HS.out).mono ?_
  rintro e1 w1 ⟨b, rfl, hblk, hb1⟩
  have B1 := Aside0.mk hb1
  have K1 := Aside0.mk hblk
  clear hb1 hblk
  go_wp2_with fail
  refine (num_Put.calls 100 n a1 (ofN x) e _ P1.out).mono ?_
  rintro e2 w2 ⟨v2, rfl, ho2, hb2⟩
  obtain ⟨A3, c3, rfl⟩ := Kd.R_slice ho2
  have O2 := Aside0.mk ho2
  have K2 := Aside0.mk (blk_kept K1.out hb2)
  have B2 := Aside0.mk (below_then B1.out B1.out.size hb2)
  clear ho2 hb2 K1 B1
  go_wp2_with fail
  refine (cardexref01_Put.calls 100 n a1 (ofN x) e _ P2.out).mono ?_
  rintro e3 w3 ⟨v3, rfl, ho3, hb3⟩
  obtain ⟨A4, c4, rfl⟩ := Kd.R_slice ho3
  have O2' := Aside0.mk (Kd.R_below O2.out hb3)
  have O3 := Aside0.mk ho3
  have K3 := Aside0.mk (blk_kept K2.out hb3)
  have B3 := Aside0.mk (below_then B2.out B2.out.size hb3)
  clear ho3 hb3 K2 B2 O2
  go_wp2_with fail
  refine (num_Get.calls 100 _ _ (ofN l) a3 a1 q f _ (C_block K3.out l (by have := HS.out; omega) List.take_left) (by rw [ofN_length]; omega) G1.out).mono ?_
  rintro e4 w4 ⟨rfl, hd4⟩
  have O2a := Aside0.mk (Kd.R_below O2'.out hd4.below)
  have O3a := Aside0.mk (Kd.R_below O3.out hd4.below)
  have K4 := Aside0.mk (blk_kept K3.out hd4.below)
  have B4 := Aside0.mk (below_then B3.out B3.out.size hd4.below)
  clear hd4 O2' O3 K3 B3
  go_wp2_with fail
  refine (cardexref01_Get.calls 100 _ _ (ofN l) a3 a1 q f _ (Kd.C_below HR.out B4.out) HC.out G2.out).mono ?_
  rintro e5 w5 ⟨rfl, hd5⟩
  have O2b := Aside0.mk (Kd.R_below O2a.out hd5.below)
  have O3b := Aside0.mk (Kd.R_below O3a.out hd5.below)
  have K5 := Aside0.mk (blk_kept K4.out hd5.below)
  have B5 := Aside0.mk (below_then B4.out B4.out.size hd5.below)
  clear hd5 O2a O3a K4 B4
  go_wp2_with fail
  refine (cardexref00_Same.calls _ _ (ofN x) _ _ (ofN x) true _ (Kd.R_reads' O2b.out).2.2 (Kd.R_reads' O2b.out).2.1 (Kd.R_reads' O3b.out).2.2 (Kd.R_reads' O3b.out).2.1 SM.out).mono ?_
  rintro e6 w6 ⟨rfl, hd6⟩
  have K6 := Aside0.mk (blk_kept K5.out hd6.below)
  have B6 := Aside0.mk (below_then B5.out B5.out.size hd6.below)
  clear hd6 O2b O3b K5 B5
  go_wp2_with fail
  refine (left_calls A2 c2 l b _ HBY.out HS.out K6.out (Kd.C_below HR.out B6.out) HC.out).mono ?_
  rintro e7 w7 ⟨rfl, hd7⟩
  have B7 := Aside0.mk (below_then B6.out B6.out.size hd7.below)
  clear hd7 K6 B6
  go_wp2_with fail
  refine (cardexlaw01_lives.calls 40 true _ LV.out).mono ?_
  rintro e8 w8 ⟨rfl, hb8⟩
  have B8 := Aside0.mk (below_then B7.out B7.out.size hb8)
  clear hb8 B7
  go_wp2_with fail
  go_ret
  exact ⟨rfl, B8.out⟩
end Go.Proofs.Ytpanefmemabckaa.NumNumbers
