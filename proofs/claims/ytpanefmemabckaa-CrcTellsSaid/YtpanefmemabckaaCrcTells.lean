/- CrcTells returns true at every rest, sum, number and list of bytes: the walk. -/
import Derived.Test.YtpanefmemabckaaWide
import Derived.Test.YtpanefmemabckaaCrcRef
import Derived.Test.YtpanefmemabckaaCrcLives
import Derived.Deep.RegionWith
import Derived.Deep.DeepMust
namespace Go.Proofs.Ytpanefmemabckaa.CrcTells
open Go.RowKit Go.Proofs.Ytpanefmemabckaa.NumA Go.Proofs.Ytpanefmemabckaa.CrcA Go.Proofs.Ytpanefmemabckaa.CrcR Go.Proofs.Ytpanefmemabckaa.Bytes Go.Proofs.Ytpanefmemabckaa.Wide Go.Proofs.YtpanefmemabckaaW.PrintWords Go.Proofs.YtpanefmemabckaaW.PrintLast

theorem on_any (r : Nat) (m : Int) (hm : m < 3000) (hr : r < 4294967296) : crc_On.f 40000 r m = some ((CM.on r m.toNat : Nat) : Int) := by
  by_cases h : m ≤ 0
  · rw [CrcPure.on_neg _ r m (by omega) h, show m.toNat = 0 from by omega, CM.on_zero]
  · obtain ⟨n, rfl⟩ := Int.eq_ofNat_of_zero_le (by omega : 0 ≤ m)
    rw [CrcPure.on_f _ r n (by omega) (by omega) hr, show ((n : Int)).toNat = n from by omega]
theorem on_any_ref (r : Nat) (m : Int) (hm : m < 3000) (hr : r < 4294967296) : cardexref03_On.f 40000 r m = some ((CM.on r m.toNat : Nat) : Int) := by
  by_cases h : m ≤ 0
  · rw [CrcRef.on_neg _ r m (by omega) h, show m.toNat = 0 from by omega, CM.on_zero]
  · obtain ⟨n, rfl⟩ := Int.eq_ofNat_of_zero_le (by omega : 0 ≤ m)
    rw [CrcRef.on_f _ r n (by omega) (by omega) hr, show ((n : Int)).toNat = n from by omega]
theorem join_any (r s : Nat) (m : Int) (hm : m < 3000) (hr : r < 4294967296) (hs : s < 4294967296) : crc_Join.f 40000 r s m = some ((CM.join r s m.toNat : Nat) : Int) := by
  unfold crc_Join.f
  rw [on_any r m hm hr]
  exact congrArg some (u32_xor_nat _ _ (CM.on_lt _ hr) hs)
theorem join_any_ref (r s : Nat) (m : Int) (hm : m < 3000) (hr : r < 4294967296) (hs : s < 4294967296) : cardexref03_Join.f 40000 r s m = some ((CM.join r s m.toNat : Nat) : Int) := by
  unfold cardexref03_Join.f
  rw [on_any_ref r m hm hr]
  exact congrArg some (u32_xor_nat _ _ (CM.on_lt _ hr) hs)
theorem ofs (l : List Nat) : CrcPure.ofN l = ofN l := rfl

set_option maxRecDepth 100000 in
set_option maxHeartbeats 4000000 in
theorem walk (a0 a1 a2 : Int) (A3 : Option Addr) (l3 : List Int) (c3 : Nat) (w : World) (h0 : (Lit.int .u32 a0).wf = true) (h1 : (Lit.int .u32 a1).wf = true) (h2 : (Lit.int .i64 a2).wf = true)
    (hr3 : Kd.C (Kd.int .u8) w A3 l3.length l3) (hc3 : l3.length ≤ c3) (hw3 : ∀ x ∈ l3, (Lit.int .u8 x).wf = true) (hs3 : l3.length * 1 ≤ 140737488351232) :
    Calls Try.prog 5 #[.int .u32 a0, .int .u32 a1, .int .i64 a2, .slice A3 l3.length c3] w fun e w' => e = .returned (.bool true) ∧ Below w.heap.size w w' := by
  obtain ⟨r, rfl, hr⟩ := nat_u32 h0
  obtain ⟨s, rfl, hs⟩ := nat_u32 h1
  obtain ⟨l, rfl, hb⟩ := bytes_of hw3
  have hl : l.length ≤ 140737488351232 := by rw [ofN_length] at hs3; omega
  have HR := Aside0.mk hr3
  have HC := Aside0.mk hc3
  have HL := Aside0.mk hl
  have HBY := Aside0.mk hb
  have hb2 := bounds_i64 h2
  have hm3 : Int.tmod a2 3000 < 3000 := Int.tmod_lt_of_pos a2 (show (0 : Int) < 3000 by decide)
  have o1 := on_any r (Int.tmod a2 3000) hm3 hr
  have o2 := on_any_ref r (Int.tmod a2 3000) hm3 hr
  have j1 := join_any r s (Int.tmod a2 3000) hm3 hr hs
  have j2 := join_any_ref r s (Int.tmod a2 3000) hm3 hr hs
  have m1 := CrcPure.more_f l hl hb (l.length + 100) s (by omega) hs
  have m2 := CrcRef.more_f l hb (l.length + 100) s (by omega) hs
  have f1 := CrcPure.of_f l hl hb (l.length + 100) (by omega)
  have f2 := CrcRef.of_f l hb (l.length + 100) (by omega)
  obtain ⟨y1, e1⟩ : ∃ y, y = ((CM.on r (Int.tmod a2 3000).toNat : Nat) : Int) := ⟨_, rfl⟩
  obtain ⟨y2, e2⟩ : ∃ y, y = ((CM.join r s (Int.tmod a2 3000).toNat : Nat) : Int) := ⟨_, rfl⟩
  obtain ⟨y3, e3⟩ : ∃ y, y = ((CM.more s l : Nat) : Int) := ⟨_, rfl⟩
  obtain ⟨y4, e4⟩ : ∃ y, y = ((CM.of l : Nat) : Int) := ⟨_, rfl⟩
  rw [← e1] at o1 o2
  rw [← e2] at j1 j2
  rw [← e3] at m1 m2
  rw [← e4] at f1 f2
  have O1 := Aside0.mk o1
  have O2 := Aside0.mk o2
  have J1 := Aside0.mk j1
  have J2 := Aside0.mk j2
  have M1 := Aside0.mk m1
  have M2 := Aside0.mk m2
  have F1 := Aside0.mk f1
  have F2 := Aside0.mk f2
  have RR := Aside0.mk hr
  have HC3 := Aside0.mk hc3
  have HLL := Aside0.mk (ofN_length l)
  clear o1 o2 j1 j2 m1 m2 f1 f2 e1 e2 e3 e4 h0 h1 h2 hr3 hc3 hl hb hw3 hs3 hr hs hm3 hb2
  go_enter Try.func5, Try.ntmps5
  go_wp2_with fail
  refine (wide_calls A3 c3 l _ HR.out HL.out).mono ?_
  rintro e1 w1 ⟨b, rfl, hblk, hb1⟩
  have B1 := Aside0.mk hb1
  have K1 := Aside0.mk hblk
  clear hb1 hblk
  go_wp2_with fail
  refine (crc_On.calls 40000 _ _ _ _ O1.out).mono ?_
  rintro e2 w2 ⟨rfl, hd⟩
  have K2 := Aside0.mk (blk_kept K1.out hd.below)
  have B2 := Aside0.mk (below_then B1.out B1.out.size hd.below)
  clear hd K1 B1
  go_wp2_with fail
  refine (cardexref03_On.calls 40000 _ _ _ _ O2.out).mono ?_
  rintro e3 w3 ⟨rfl, hd⟩
  have K3 := Aside0.mk (blk_kept K2.out hd.below)
  have B3 := Aside0.mk (below_then B2.out B2.out.size hd.below)
  clear hd K2 B2
  go_wp2_with fail
  refine (crc_Join.calls 40000 _ _ _ _ _ J1.out).mono ?_
  rintro e4 w4 ⟨rfl, hd⟩
  have K4 := Aside0.mk (blk_kept K3.out hd.below)
  have B4 := Aside0.mk (below_then B3.out B3.out.size hd.below)
  clear hd K3 B3
  go_wp2_with fail
  refine (cardexref03_Join.calls 40000 _ _ _ _ _ J2.out).mono ?_
  rintro e5 w5 ⟨rfl, hd⟩
  have K5 := Aside0.mk (blk_kept K4.out hd.below)
  have B5 := Aside0.mk (below_then B4.out B4.out.size hd.below)
  clear hd K4 B4
  go_wp2_with fail
  go_loopw [10] (fun i wr => ∃ k : Nat, k ≤ l.length ∧ i = .int .i64 k ∧ Aside0 (wr.heap[b]? = some (.cells (cellsN (l ++ [7, 7, 7])) 5 (0, 0))) ∧ Aside0 (Below w.heap.size w wr)) (fun i _ => l.length - (intOf i).toNat)
  case atStart => exact ⟨0, by omega, rfl, K5, B5⟩
  case round =>
    clear K5 B5
    obtain ⟨k, hk, rfl, hbk, hBk⟩ := hrel
    by_cases hlt : k < l.length ∧ k < 50
    · obtain ⟨hlt, h50⟩ := hlt
      have q1 : (k : Int) < ((ofN l).length : Int) := by rw [HLL.out]; omega
      have q2 : (k : Int) < 50 := by omega
      obtain ⟨ad, he, hcell0⟩ := Kd.at_int HR.out (k : Int) (by omega) q1
      subst he
      have hcell := (hBk.out.cell (World.block_lt_of_cell? w _ hcell0)).trans hcell0
      rw [rd_ofN, show l.getD k 0 = l[k] from by rw [List.getD_eq_getElem?_getD, List.getElem?_eq_getElem hlt]; rfl, show ((k : Int)).toNat = k from by omega] at hcell
      have hc256 : l[k] < 256 := HBY.out _ (List.getElem_mem hlt)
      have i1 := CrcPure.into_f r l[k] RR.out hc256
      have i2 := CrcRef.into_f 40 r l[k] (by omega) RR.out hc256
      obtain ⟨c, hc⟩ : ∃ c, c = l[k] := ⟨_, rfl⟩
      obtain ⟨y, hy⟩ : ∃ y, y = ((CM.into r l[k] : Nat) : Int) := ⟨_, rfl⟩
      rw [← hy, ← hc] at i1 i2
      rw [← hc] at hcell
      have I1 := Aside0.mk i1
      have I2 := Aside0.mk i2
      clear i1 i2 hc hy hc256 hcell0
      go_wp2
      go_region_with (first
        | (go_at_call 25; refine (crc_Into.calls _ _ _ _ I1.out).mono ?_; rintro e w' ⟨rfl, hb'⟩; have hcell' := (hb'.cell (World.block_lt_of_cell? _ _ hcell)).trans hcell)
        | (go_at_call 26; refine (cardexref03_Into.calls 40 _ _ _ _ I2.out).mono ?_; rintro e w' ⟨rfl, ⟨nd, rfl⟩⟩))
      all_goals go_wp2_with fail
      all_goals go_roundw
      all_goals first
        | (case rel => exact ⟨k + 1, by omega, by go_num, ⟨(hb'.block b (blk_lt hbk.out)).trans hbk.out⟩, ⟨by (with_reducible first | apply pw_below_drewN | apply below_drew1 | skip); exact below_step (by repeat (first | (with_reducible first | exact hBk.out | apply pw_below_drewN | apply below_drew1) | exact hBk.out)) hb'⟩⟩)
        | (case measure => simp [intOf]; omega)
        | skip
    · have hq : ¬ ((k : Int) < ((ofN l).length : Int)) ∨ ((k : Int) < ((ofN l).length : Int) ∧ ¬ ((k : Int) < 50)) := by rw [HLL.out]; omega
      have K6 := hbk
      have B6 := hBk
      clear hbk hBk hlt
      rcases hq with hq | ⟨hq1, hq2⟩
      all_goals (
        go_wp2_with fail
        refine (crc_More.calls (l.length + 100) _ _ _ (ofN l) _ _ (C_block K6.out l (by have := HL.out; omega) List.take_left) (by rw [HLL.out]; omega) M1.out).mono ?_
        rintro e7 w7 ⟨rfl, hb⟩
        have K7 := Aside0.mk (blk_kept K6.out hb)
        have B7 := Aside0.mk (below_step B6.out hb)
        clear hb K6 B6
        go_wp2_with fail
        refine (cardexref03_More.calls (l.length + 100) _ (fun k_ => k_ < w.heap.size) _ _ (ofN l) _ _ (Kd.V_mk HC3.out (Kd.F_below (Kd.C_F (Kd.heap_int .u8) HR.out) B7.out)) M2.out).mono ?_
        rintro e8 w8 ⟨rfl, hb⟩
        have K8 := Aside0.mk (blk_kept K7.out hb)
        have B8 := Aside0.mk (below_step B7.out hb)
        clear hb K7 B7
        go_wp2_with fail
        refine (crc_Of.calls (l.length + 100) _ _ (ofN l) _ _ (C_block K8.out l (by have := HL.out; omega) List.take_left) (by rw [HLL.out]; omega) F1.out).mono ?_
        rintro e9 w9 ⟨rfl, hb⟩
        have K9 := Aside0.mk (blk_kept K8.out hb)
        have B9 := Aside0.mk (below_step B8.out hb)
        clear hb K8 B8
        go_wp2_with fail
        refine (cardexref03_Of.calls (l.length + 100) _ _ (ofN l) _ _ (Kd.C_below HR.out B9.out) HC3.out F2.out).mono ?_
        rintro e10 w10 ⟨rfl, hb⟩
        have K10 := Aside0.mk (blk_kept K9.out hb)
        have B10 := Aside0.mk (below_step B9.out hb)
        clear hb K9 B9
        go_wp2_with fail
        refine (left_calls A3 c3 l b _ HBY.out HL.out K10.out (Kd.C_below HR.out B10.out) HC3.out).mono ?_
        rintro e11 w11 ⟨rfl, hd⟩
        have B11 := Aside0.mk (below_step B10.out hd.below)
        clear hd K10 B10
        go_wp2_with fail
        refine (CrcLives.lives_calls _).mono ?_
        rintro e12 w12 ⟨rfl, hb⟩
        have B12 := Aside0.mk (below_step B11.out hb)
        clear hb B11
        go_wp2_with fail
        go_ret
        exact ⟨rfl, B12.out⟩)
end Go.Proofs.Ytpanefmemabckaa.CrcTells
