/- PolicyTwice returns true at every device, phase and keys: the walk, way by way. -/
import Derived.Test.YtpanefmemabckaaPolicyLives
namespace Go.Proofs.Ytpanefmemabckaa.PolicyTwice
open Go.RowKit Go.Proofs.Ytpanefmemabckaa.PolicyDo Go.Proofs.Ytpanefmemabckaa.PolicyLives

set_option maxHeartbeats 1000000 in
/-- two replies that are the same -/
theorem replies_calls (s p : Int) (b : Bool) (w : World) : Calls Try.prog 17 #[repV s p b, repV s p b] w fun e w' => e = .returned (.bool true) ∧ Below w.heap.size w w' := by
  go_enter Try.func17, Try.ntmps17
  go_wp2
  go_ret
  exact ⟨by simp, ((Below.refl _ _).alloc (Nat.le_refl _) _).alloc (by simp) _⟩

set_option maxRecDepth 100000 in
set_option maxHeartbeats 4000000 in
theorem zero (k t o ph p m : Int) (w : World) :
    Calls Try.prog 3 #[devV k t o false, .int .u8 ph, .int .u32 p, .int .u32 0, .int .u32 m] w fun e w' => e = .returned (.bool true) ∧ Below w.heap.size w w' := by
  go_enter Try.func3, Try.ntmps3
  go_wp2_with fail
  refine (lives_calls _).mono ?_
  rintro e w1 ⟨rfl, hb1⟩
  have B1 := Lib.hid (((Below.refl w.heap.size w).alloc (Nat.le_refl _) _).trans (hb1.mono (by simp)))
  clear hb1
  go_wp2_with fail
  go_ret
  exact ⟨rfl, B1.out⟩

set_option maxRecDepth 100000 in
set_option maxHeartbeats 4000000 in
theorem zero_wipe (k t o ph p m : Int) (w : World) :
    Calls Try.prog 3 #[devV k t o true, .int .u8 ph, .int .u32 p, .int .u32 0, .int .u32 m] w fun e w' => e = .returned (.bool true) ∧ Below w.heap.size w w' := by
  go_enter Try.func3, Try.ntmps3
  go_wp2_with fail
  refine (lives_calls _).mono ?_
  rintro e w1 ⟨rfl, hb1⟩
  have B1 := Lib.hid (((Below.refl w.heap.size w).alloc (Nat.le_refl _) _).trans (hb1.mono (by simp)))
  clear hb1
  go_wp2_with fail
  go_ret
  exact ⟨rfl, B1.out⟩

set_option maxRecDepth 100000 in
set_option maxHeartbeats 4000000 in
theorem wiped (k t o ph p f m : Int) (w : World) (hf : f ≠ 0) :
    Calls Try.prog 3 #[devV k t o true, .int .u8 ph, .int .u32 p, .int .u32 f, .int .u32 m] w fun e w' => e = .returned (.bool true) ∧ Below w.heap.size w w' := by
  have hf' : (f == 0) = false := beq_eq_false_iff_ne.mpr hf
  clear hf
  go_enter Try.func3, Try.ntmps3
  go_wp2_with fail
  refine (lives_calls _).mono ?_
  rintro e w1 ⟨rfl, hb1⟩
  have B1 := Lib.hid (((Below.refl w.heap.size w).alloc (Nat.le_refl _) _).trans (hb1.mono (by simp)))
  clear hb1
  go_wp2_with fail
  go_ret
  exact ⟨rfl, B1.out⟩

set_option maxRecDepth 100000 in
set_option maxHeartbeats 4000000 in
theorem other (k t o ph p f m : Int) (w : World) (hf : f ≠ 0) (h1 : ph ≠ 1) (h2 : ph ≠ 2) :
    Calls Try.prog 3 #[devV k t o false, .int .u8 ph, .int .u32 p, .int .u32 f, .int .u32 m] w fun e w' => e = .returned (.bool true) ∧ Below w.heap.size w w' := by
  have hf' : (f == 0) = false := beq_eq_false_iff_ne.mpr hf
  have h1' : (ph != 1) = true := bne_iff_ne.mpr h1
  have h2' : (ph != 2) = true := bne_iff_ne.mpr h2
  clear hf h1 h2
  go_enter Try.func3, Try.ntmps3
  go_wp2_with fail
  refine (lives_calls _).mono ?_
  rintro e w1 ⟨rfl, hb1⟩
  have B1 := Lib.hid (((Below.refl w.heap.size w).alloc (Nat.le_refl _) _).trans (hb1.mono (by simp)))
  clear hb1
  go_wp2_with fail
  go_ret
  exact ⟨rfl, B1.out⟩

set_option maxRecDepth 100000 in
set_option maxHeartbeats 4000000 in
theorem ask1 (k t o p f m : Int) (w : World) (hf : f ≠ 0) (ht : t ≠ 0) :
    Calls Try.prog 3 #[devV k t o false, .int .u8 1, .int .u32 p, .int .u32 f, .int .u32 m] w fun e w' => e = .returned (.bool true) ∧ Below w.heap.size w w' := by
  have hf' : (f == 0) = false := beq_eq_false_iff_ne.mpr hf
  have D1 := Lib.hid (fun W : World => do_asked k t o p f W ht)
  have D2 := Lib.hid (fun W : World => do_asked k t o p m W ht)
  clear hf ht
  go_enter Try.func3, Try.ntmps3
  go_wp2_with fail
  refine (D1.out _).mono ?_
  rintro e w1 ⟨rfl, hb1⟩
  have A1 := Lib.hid (Two.mk_ (((Below.refl w.heap.size w).alloc (Nat.le_refl _) _).trans (hb1.mono (by simp))) (devO k t o false) (repO 1 t false))
  clear hb1
  go_wp2_with fail
  refine (D2.out _).mono ?_
  rintro e w2 ⟨rfl, hb2⟩
  have A2 := A1.out.call hb2
  have A2s := (A2.step (devO k t o false)).step (repO 1 t false)
  have C2 := Two.mk_ A2.bel (devO k t o false) (repO 1 t false)
  have B2 := Lib.hid A2s.bel
  have a0 := blk_cell A2s.dev 0
  have a1 := blk_cell A2s.dev 1
  have a2 := blk_cell A2s.dev 2
  have a3 := blk_cell A2s.dev 3
  have r0 := blk_cell A2s.rep 0
  have r1 := blk_cell A2s.rep 1
  have r2 := blk_cell A2s.rep 2
  have r3 := blk_cell A2s.rep 3
  have r4 := blk_cell A2s.rep 4
  have r5 := blk_cell A2s.rep 5
  have r6 := blk_cell A2s.rep 6
  have r7 := blk_cell A2s.rep 7
  have r8 := blk_cell A2s.rep 8
  have r9 := blk_cell A2s.rep 9
  have r10 := blk_cell A2s.rep 10
  have r11 := blk_cell A2s.rep 11
  have c0 := blk_cell C2.dev 0
  have c1 := blk_cell C2.dev 1
  have c2 := blk_cell C2.dev 2
  have c3 := blk_cell C2.dev 3
  have s0 := blk_cell C2.rep 0
  have s1 := blk_cell C2.rep 1
  have s2 := blk_cell C2.rep 2
  have s3 := blk_cell C2.rep 3
  have s4 := blk_cell C2.rep 4
  have s5 := blk_cell C2.rep 5
  have s6 := blk_cell C2.rep 6
  have s7 := blk_cell C2.rep 7
  have s8 := blk_cell C2.rep 8
  have s9 := blk_cell C2.rep 9
  have s10 := blk_cell C2.rep 10
  have s11 := blk_cell C2.rep 11
  clear hb2 A1 A2 A2s C2
  unfold devO repO at a0 a1 a2 a3 r0 r1 r2 r3 r4 r5 r6 r7 r8 r9 r10 r11 c0 c1 c2 c3 s0 s1 s2 s3 s4 s5 s6 s7 s8 s9 s10 s11
  simp only [List.getElem?_toArray, List.getElem?_cons_zero, List.getElem?_cons_succ] at a0 a1 a2 a3 r0 r1 r2 r3 r4 r5 r6 r7 r8 r9 r10 r11 c0 c1 c2 c3 s0 s1 s2 s3 s4 s5 s6 s7 s8 s9 s10 s11
  go_wp2_with fail
  refine (replies_calls 1 t false _).mono ?_
  rintro e w3 ⟨rfl, hb3⟩
  have B3 := Lib.hid (B2.out.trans (hb3.mono B2.out.size))
  clear hb3 a0 a1 a2 a3 r0 r1 r2 r3 r4 r5 r6 r7 r8 r9 r10 r11 c0 c1 c2 c3 s0 s1 s2 s3 s4 s5 s6 s7 s8 s9 s10 s11
  go_wp2_with fail
  refine (lives_calls _).mono ?_
  rintro e w4 ⟨rfl, hb4⟩
  have B4 := Lib.hid (B3.out.trans (hb4.mono B3.out.size))
  clear hb4
  go_wp2_with fail
  go_ret
  exact ⟨rfl, B4.out⟩

set_option maxRecDepth 100000 in
set_option maxHeartbeats 4000000 in
theorem ask2 (k o p f m : Int) (w : World) (hf : f ≠ 0) :
    Calls Try.prog 3 #[devV k 0 o false, .int .u8 1, .int .u32 p, .int .u32 f, .int .u32 m] w fun e w' => e = .returned (.bool true) ∧ Below w.heap.size w w' := by
  have hf' : (f == 0) = false := beq_eq_false_iff_ne.mpr hf
  have D1 := Lib.hid (fun W : World => do_ask k o p f W)
  have D2 := Lib.hid (fun W : World => do_asked k f o p m W hf)
  clear hf
  go_enter Try.func3, Try.ntmps3
  go_wp2_with fail
  refine (D1.out _).mono ?_
  rintro e w1 ⟨rfl, hb1⟩
  have A1 := Lib.hid (Two.mk_ (((Below.refl w.heap.size w).alloc (Nat.le_refl _) _).trans (hb1.mono (by simp))) (devO k f o false) (repO 1 f false))
  clear hb1
  go_wp2_with fail
  refine (D2.out _).mono ?_
  rintro e w2 ⟨rfl, hb2⟩
  have A2 := A1.out.call hb2
  have A2s := (A2.step (devO k f o false)).step (repO 1 f false)
  have C2 := Two.mk_ A2.bel (devO k f o false) (repO 1 f false)
  have B2 := Lib.hid A2s.bel
  have a0 := blk_cell A2s.dev 0
  have a1 := blk_cell A2s.dev 1
  have a2 := blk_cell A2s.dev 2
  have a3 := blk_cell A2s.dev 3
  have r0 := blk_cell A2s.rep 0
  have r1 := blk_cell A2s.rep 1
  have r2 := blk_cell A2s.rep 2
  have r3 := blk_cell A2s.rep 3
  have r4 := blk_cell A2s.rep 4
  have r5 := blk_cell A2s.rep 5
  have r6 := blk_cell A2s.rep 6
  have r7 := blk_cell A2s.rep 7
  have r8 := blk_cell A2s.rep 8
  have r9 := blk_cell A2s.rep 9
  have r10 := blk_cell A2s.rep 10
  have r11 := blk_cell A2s.rep 11
  have c0 := blk_cell C2.dev 0
  have c1 := blk_cell C2.dev 1
  have c2 := blk_cell C2.dev 2
  have c3 := blk_cell C2.dev 3
  have s0 := blk_cell C2.rep 0
  have s1 := blk_cell C2.rep 1
  have s2 := blk_cell C2.rep 2
  have s3 := blk_cell C2.rep 3
  have s4 := blk_cell C2.rep 4
  have s5 := blk_cell C2.rep 5
  have s6 := blk_cell C2.rep 6
  have s7 := blk_cell C2.rep 7
  have s8 := blk_cell C2.rep 8
  have s9 := blk_cell C2.rep 9
  have s10 := blk_cell C2.rep 10
  have s11 := blk_cell C2.rep 11
  clear hb2 A1 A2 A2s C2
  unfold devO repO at a0 a1 a2 a3 r0 r1 r2 r3 r4 r5 r6 r7 r8 r9 r10 r11 c0 c1 c2 c3 s0 s1 s2 s3 s4 s5 s6 s7 s8 s9 s10 s11
  simp only [List.getElem?_toArray, List.getElem?_cons_zero, List.getElem?_cons_succ] at a0 a1 a2 a3 r0 r1 r2 r3 r4 r5 r6 r7 r8 r9 r10 r11 c0 c1 c2 c3 s0 s1 s2 s3 s4 s5 s6 s7 s8 s9 s10 s11
  go_wp2_with fail
  refine (replies_calls 1 f false _).mono ?_
  rintro e w3 ⟨rfl, hb3⟩
  have B3 := Lib.hid (B2.out.trans (hb3.mono B2.out.size))
  clear hb3 a0 a1 a2 a3 r0 r1 r2 r3 r4 r5 r6 r7 r8 r9 r10 r11 c0 c1 c2 c3 s0 s1 s2 s3 s4 s5 s6 s7 s8 s9 s10 s11
  go_wp2_with fail
  refine (lives_calls _).mono ?_
  rintro e w4 ⟨rfl, hb4⟩
  have B4 := Lib.hid (B3.out.trans (hb4.mono B3.out.size))
  clear hb4
  go_wp2_with fail
  go_ret
  exact ⟨rfl, B4.out⟩

set_option maxRecDepth 100000 in
set_option maxHeartbeats 4000000 in
theorem take1 (k t o f m : Int) (w : World) (hf : f ≠ 0) (ht : t ≠ 0) :
    Calls Try.prog 3 #[devV k t o false, .int .u8 2, .int .u32 t, .int .u32 f, .int .u32 m] w fun e w' => e = .returned (.bool true) ∧ Below w.heap.size w w' := by
  have hq : (t == 0) = false := beq_eq_false_iff_ne.mpr ht
  have hf' : (f == 0) = false := beq_eq_false_iff_ne.mpr hf
  have D1 := Lib.hid (fun W : World => do_take k t o f W ht)
  have D2 := Lib.hid (fun W : World => do_took f 0 t m W (.inl rfl) ht)
  clear hf ht
  go_enter Try.func3, Try.ntmps3
  go_wp2_with fail
  refine (D1.out _).mono ?_
  rintro e w1 ⟨rfl, hb1⟩
  have A1 := Lib.hid (Two.mk_ (((Below.refl w.heap.size w).alloc (Nat.le_refl _) _).trans (hb1.mono (by simp))) (devO f 0 t false) (repO 1 f false))
  clear hb1
  go_wp2_with fail
  refine (D2.out _).mono ?_
  rintro e w2 ⟨rfl, hb2⟩
  have A2 := A1.out.call hb2
  have A2s := (A2.step (devO f 0 t false)).step (repO 1 f false)
  have C2 := Two.mk_ A2.bel (devO f 0 t false) (repO 1 f false)
  have B2 := Lib.hid A2s.bel
  have a0 := blk_cell A2s.dev 0
  have a1 := blk_cell A2s.dev 1
  have a2 := blk_cell A2s.dev 2
  have a3 := blk_cell A2s.dev 3
  have r0 := blk_cell A2s.rep 0
  have r1 := blk_cell A2s.rep 1
  have r2 := blk_cell A2s.rep 2
  have r3 := blk_cell A2s.rep 3
  have r4 := blk_cell A2s.rep 4
  have r5 := blk_cell A2s.rep 5
  have r6 := blk_cell A2s.rep 6
  have r7 := blk_cell A2s.rep 7
  have r8 := blk_cell A2s.rep 8
  have r9 := blk_cell A2s.rep 9
  have r10 := blk_cell A2s.rep 10
  have r11 := blk_cell A2s.rep 11
  have c0 := blk_cell C2.dev 0
  have c1 := blk_cell C2.dev 1
  have c2 := blk_cell C2.dev 2
  have c3 := blk_cell C2.dev 3
  have s0 := blk_cell C2.rep 0
  have s1 := blk_cell C2.rep 1
  have s2 := blk_cell C2.rep 2
  have s3 := blk_cell C2.rep 3
  have s4 := blk_cell C2.rep 4
  have s5 := blk_cell C2.rep 5
  have s6 := blk_cell C2.rep 6
  have s7 := blk_cell C2.rep 7
  have s8 := blk_cell C2.rep 8
  have s9 := blk_cell C2.rep 9
  have s10 := blk_cell C2.rep 10
  have s11 := blk_cell C2.rep 11
  clear hb2 A1 A2 A2s C2
  unfold devO repO at a0 a1 a2 a3 r0 r1 r2 r3 r4 r5 r6 r7 r8 r9 r10 r11 c0 c1 c2 c3 s0 s1 s2 s3 s4 s5 s6 s7 s8 s9 s10 s11
  simp only [List.getElem?_toArray, List.getElem?_cons_zero, List.getElem?_cons_succ] at a0 a1 a2 a3 r0 r1 r2 r3 r4 r5 r6 r7 r8 r9 r10 r11 c0 c1 c2 c3 s0 s1 s2 s3 s4 s5 s6 s7 s8 s9 s10 s11
  go_wp2_with fail
  refine (replies_calls 1 f false _).mono ?_
  rintro e w3 ⟨rfl, hb3⟩
  have B3 := Lib.hid (B2.out.trans (hb3.mono B2.out.size))
  clear hb3 a0 a1 a2 a3 r0 r1 r2 r3 r4 r5 r6 r7 r8 r9 r10 r11 c0 c1 c2 c3 s0 s1 s2 s3 s4 s5 s6 s7 s8 s9 s10 s11
  go_wp2_with fail
  refine (lives_calls _).mono ?_
  rintro e w4 ⟨rfl, hb4⟩
  have B4 := Lib.hid (B3.out.trans (hb4.mono B3.out.size))
  clear hb4
  go_wp2_with fail
  go_ret
  exact ⟨rfl, B4.out⟩

set_option maxRecDepth 100000 in
set_option maxHeartbeats 4000000 in
theorem took1 (k t o f m : Int) (w : World) (hf : f ≠ 0) (hn : t = 0 ∨ o ≠ t) (ho : o ≠ 0) :
    Calls Try.prog 3 #[devV k t o false, .int .u8 2, .int .u32 o, .int .u32 f, .int .u32 m] w fun e w' => e = .returned (.bool true) ∧ Below w.heap.size w w' := by
  have hq : (o == t) = false := beq_eq_false_iff_ne.mpr (fun h => hn.elim (fun h0 => ho (h.trans h0)) (fun h1 => h1 h))
  have hf' : (f == 0) = false := beq_eq_false_iff_ne.mpr hf
  have D1 := Lib.hid (fun W : World => do_took k t o f W hn ho)
  have D2 := Lib.hid (fun W : World => do_took k t o m W hn ho)
  clear hf hn ho
  go_enter Try.func3, Try.ntmps3
  go_wp2_with fail
  refine (D1.out _).mono ?_
  rintro e w1 ⟨rfl, hb1⟩
  have A1 := Lib.hid (Two.mk_ (((Below.refl w.heap.size w).alloc (Nat.le_refl _) _).trans (hb1.mono (by simp))) (devO k t o false) (repO 1 k false))
  clear hb1
  go_wp2_with fail
  refine (D2.out _).mono ?_
  rintro e w2 ⟨rfl, hb2⟩
  have A2 := A1.out.call hb2
  have A2s := (A2.step (devO k t o false)).step (repO 1 k false)
  have C2 := Two.mk_ A2.bel (devO k t o false) (repO 1 k false)
  have B2 := Lib.hid A2s.bel
  have a0 := blk_cell A2s.dev 0
  have a1 := blk_cell A2s.dev 1
  have a2 := blk_cell A2s.dev 2
  have a3 := blk_cell A2s.dev 3
  have r0 := blk_cell A2s.rep 0
  have r1 := blk_cell A2s.rep 1
  have r2 := blk_cell A2s.rep 2
  have r3 := blk_cell A2s.rep 3
  have r4 := blk_cell A2s.rep 4
  have r5 := blk_cell A2s.rep 5
  have r6 := blk_cell A2s.rep 6
  have r7 := blk_cell A2s.rep 7
  have r8 := blk_cell A2s.rep 8
  have r9 := blk_cell A2s.rep 9
  have r10 := blk_cell A2s.rep 10
  have r11 := blk_cell A2s.rep 11
  have c0 := blk_cell C2.dev 0
  have c1 := blk_cell C2.dev 1
  have c2 := blk_cell C2.dev 2
  have c3 := blk_cell C2.dev 3
  have s0 := blk_cell C2.rep 0
  have s1 := blk_cell C2.rep 1
  have s2 := blk_cell C2.rep 2
  have s3 := blk_cell C2.rep 3
  have s4 := blk_cell C2.rep 4
  have s5 := blk_cell C2.rep 5
  have s6 := blk_cell C2.rep 6
  have s7 := blk_cell C2.rep 7
  have s8 := blk_cell C2.rep 8
  have s9 := blk_cell C2.rep 9
  have s10 := blk_cell C2.rep 10
  have s11 := blk_cell C2.rep 11
  clear hb2 A1 A2 A2s C2
  unfold devO repO at a0 a1 a2 a3 r0 r1 r2 r3 r4 r5 r6 r7 r8 r9 r10 r11 c0 c1 c2 c3 s0 s1 s2 s3 s4 s5 s6 s7 s8 s9 s10 s11
  simp only [List.getElem?_toArray, List.getElem?_cons_zero, List.getElem?_cons_succ] at a0 a1 a2 a3 r0 r1 r2 r3 r4 r5 r6 r7 r8 r9 r10 r11 c0 c1 c2 c3 s0 s1 s2 s3 s4 s5 s6 s7 s8 s9 s10 s11
  go_wp2_with fail
  refine (replies_calls 1 k false _).mono ?_
  rintro e w3 ⟨rfl, hb3⟩
  have B3 := Lib.hid (B2.out.trans (hb3.mono B2.out.size))
  clear hb3 a0 a1 a2 a3 r0 r1 r2 r3 r4 r5 r6 r7 r8 r9 r10 r11 c0 c1 c2 c3 s0 s1 s2 s3 s4 s5 s6 s7 s8 s9 s10 s11
  go_wp2_with fail
  refine (lives_calls _).mono ?_
  rintro e w4 ⟨rfl, hb4⟩
  have B4 := Lib.hid (B3.out.trans (hb4.mono B3.out.size))
  clear hb4
  go_wp2_with fail
  go_ret
  exact ⟨rfl, B4.out⟩

set_option maxRecDepth 100000 in
set_option maxHeartbeats 4000000 in
theorem key1 (k t o p f m : Int) (w : World) (hf : f ≠ 0) (hn : t = 0 ∨ p ≠ t) (hm : o = 0 ∨ p ≠ o) (hpt : p ≠ t) :
    Calls Try.prog 3 #[devV k t o false, .int .u8 2, .int .u32 p, .int .u32 f, .int .u32 m] w fun e w' => e = .returned (.bool true) ∧ Below w.heap.size w w' := by
  have hq : (p == t) = false := beq_eq_false_iff_ne.mpr hpt
  have hf' : (f == 0) = false := beq_eq_false_iff_ne.mpr hf
  have D1 := Lib.hid (fun W : World => do_key k t o p f W hn hm)
  have D2 := Lib.hid (fun W : World => do_key k t o p m W hn hm)
  clear hf hn hm hpt
  go_enter Try.func3, Try.ntmps3
  go_wp2_with fail
  refine (D1.out _).mono ?_
  rintro e w1 ⟨rfl, hb1⟩
  have A1 := Lib.hid (Two.mk_ (((Below.refl w.heap.size w).alloc (Nat.le_refl _) _).trans (hb1.mono (by simp))) (devO k t o false) (repO 3 0 false))
  clear hb1
  go_wp2_with fail
  refine (D2.out _).mono ?_
  rintro e w2 ⟨rfl, hb2⟩
  have A2 := A1.out.call hb2
  have A2s := (A2.step (devO k t o false)).step (repO 3 0 false)
  have C2 := Two.mk_ A2.bel (devO k t o false) (repO 3 0 false)
  have B2 := Lib.hid A2s.bel
  have a0 := blk_cell A2s.dev 0
  have a1 := blk_cell A2s.dev 1
  have a2 := blk_cell A2s.dev 2
  have a3 := blk_cell A2s.dev 3
  have r0 := blk_cell A2s.rep 0
  have r1 := blk_cell A2s.rep 1
  have r2 := blk_cell A2s.rep 2
  have r3 := blk_cell A2s.rep 3
  have r4 := blk_cell A2s.rep 4
  have r5 := blk_cell A2s.rep 5
  have r6 := blk_cell A2s.rep 6
  have r7 := blk_cell A2s.rep 7
  have r8 := blk_cell A2s.rep 8
  have r9 := blk_cell A2s.rep 9
  have r10 := blk_cell A2s.rep 10
  have r11 := blk_cell A2s.rep 11
  have c0 := blk_cell C2.dev 0
  have c1 := blk_cell C2.dev 1
  have c2 := blk_cell C2.dev 2
  have c3 := blk_cell C2.dev 3
  have s0 := blk_cell C2.rep 0
  have s1 := blk_cell C2.rep 1
  have s2 := blk_cell C2.rep 2
  have s3 := blk_cell C2.rep 3
  have s4 := blk_cell C2.rep 4
  have s5 := blk_cell C2.rep 5
  have s6 := blk_cell C2.rep 6
  have s7 := blk_cell C2.rep 7
  have s8 := blk_cell C2.rep 8
  have s9 := blk_cell C2.rep 9
  have s10 := blk_cell C2.rep 10
  have s11 := blk_cell C2.rep 11
  clear hb2 A1 A2 A2s C2
  unfold devO repO at a0 a1 a2 a3 r0 r1 r2 r3 r4 r5 r6 r7 r8 r9 r10 r11 c0 c1 c2 c3 s0 s1 s2 s3 s4 s5 s6 s7 s8 s9 s10 s11
  simp only [List.getElem?_toArray, List.getElem?_cons_zero, List.getElem?_cons_succ] at a0 a1 a2 a3 r0 r1 r2 r3 r4 r5 r6 r7 r8 r9 r10 r11 c0 c1 c2 c3 s0 s1 s2 s3 s4 s5 s6 s7 s8 s9 s10 s11
  go_wp2_with fail
  refine (replies_calls 3 0 false _).mono ?_
  rintro e w3 ⟨rfl, hb3⟩
  have B3 := Lib.hid (B2.out.trans (hb3.mono B2.out.size))
  clear hb3 a0 a1 a2 a3 r0 r1 r2 r3 r4 r5 r6 r7 r8 r9 r10 r11 c0 c1 c2 c3 s0 s1 s2 s3 s4 s5 s6 s7 s8 s9 s10 s11
  go_wp2_with fail
  refine (lives_calls _).mono ?_
  rintro e w4 ⟨rfl, hb4⟩
  have B4 := Lib.hid (B3.out.trans (hb4.mono B3.out.size))
  clear hb4
  go_wp2_with fail
  go_ret
  exact ⟨rfl, B4.out⟩

set_option maxRecDepth 100000 in
set_option maxHeartbeats 4000000 in
theorem key2 (k o f m : Int) (w : World) (hf : f ≠ 0) (hm : o = 0 ∨ (0 : Int) ≠ o) :
    Calls Try.prog 3 #[devV k 0 o false, .int .u8 2, .int .u32 0, .int .u32 f, .int .u32 m] w fun e w' => e = .returned (.bool true) ∧ Below w.heap.size w w' := by
  have hf' : (f == 0) = false := beq_eq_false_iff_ne.mpr hf
  have D1 := Lib.hid (fun W : World => do_key k 0 o 0 f W (.inl rfl) hm)
  have D2 := Lib.hid (fun W : World => do_key k 0 o 0 m W (.inl rfl) hm)
  clear hf hm
  go_enter Try.func3, Try.ntmps3
  go_wp2_with fail
  refine (D1.out _).mono ?_
  rintro e w1 ⟨rfl, hb1⟩
  have A1 := Lib.hid (Two.mk_ (((Below.refl w.heap.size w).alloc (Nat.le_refl _) _).trans (hb1.mono (by simp))) (devO k 0 o false) (repO 3 0 false))
  clear hb1
  go_wp2_with fail
  refine (D2.out _).mono ?_
  rintro e w2 ⟨rfl, hb2⟩
  have A2 := A1.out.call hb2
  have A2s := (A2.step (devO k 0 o false)).step (repO 3 0 false)
  have C2 := Two.mk_ A2.bel (devO k 0 o false) (repO 3 0 false)
  have B2 := Lib.hid A2s.bel
  have a0 := blk_cell A2s.dev 0
  have a1 := blk_cell A2s.dev 1
  have a2 := blk_cell A2s.dev 2
  have a3 := blk_cell A2s.dev 3
  have r0 := blk_cell A2s.rep 0
  have r1 := blk_cell A2s.rep 1
  have r2 := blk_cell A2s.rep 2
  have r3 := blk_cell A2s.rep 3
  have r4 := blk_cell A2s.rep 4
  have r5 := blk_cell A2s.rep 5
  have r6 := blk_cell A2s.rep 6
  have r7 := blk_cell A2s.rep 7
  have r8 := blk_cell A2s.rep 8
  have r9 := blk_cell A2s.rep 9
  have r10 := blk_cell A2s.rep 10
  have r11 := blk_cell A2s.rep 11
  have c0 := blk_cell C2.dev 0
  have c1 := blk_cell C2.dev 1
  have c2 := blk_cell C2.dev 2
  have c3 := blk_cell C2.dev 3
  have s0 := blk_cell C2.rep 0
  have s1 := blk_cell C2.rep 1
  have s2 := blk_cell C2.rep 2
  have s3 := blk_cell C2.rep 3
  have s4 := blk_cell C2.rep 4
  have s5 := blk_cell C2.rep 5
  have s6 := blk_cell C2.rep 6
  have s7 := blk_cell C2.rep 7
  have s8 := blk_cell C2.rep 8
  have s9 := blk_cell C2.rep 9
  have s10 := blk_cell C2.rep 10
  have s11 := blk_cell C2.rep 11
  clear hb2 A1 A2 A2s C2
  unfold devO repO at a0 a1 a2 a3 r0 r1 r2 r3 r4 r5 r6 r7 r8 r9 r10 r11 c0 c1 c2 c3 s0 s1 s2 s3 s4 s5 s6 s7 s8 s9 s10 s11
  simp only [List.getElem?_toArray, List.getElem?_cons_zero, List.getElem?_cons_succ] at a0 a1 a2 a3 r0 r1 r2 r3 r4 r5 r6 r7 r8 r9 r10 r11 c0 c1 c2 c3 s0 s1 s2 s3 s4 s5 s6 s7 s8 s9 s10 s11
  go_wp2_with fail
  refine (lives_calls _).mono ?_
  rintro e w3 ⟨rfl, hb3⟩
  have B3 := Lib.hid (B2.out.trans (hb3.mono B2.out.size))
  clear hb3 a0 a1 a2 a3 r0 r1 r2 r3 r4 r5 r6 r7 r8 r9 r10 r11 c0 c1 c2 c3 s0 s1 s2 s3 s4 s5 s6 s7 s8 s9 s10 s11
  go_wp2_with fail
  go_ret
  exact ⟨rfl, B3.out⟩

theorem walk (k t o : Int) (b : Bool) (ph p f m : Int) (w : World) (_ : (Lit.int .u32 k).wf = true) (_ : (Lit.int .u32 t).wf = true) (_ : (Lit.int .u32 o).wf = true)
    (_ : (Lit.int .u8 ph).wf = true) (_ : (Lit.int .u32 p).wf = true) (_ : (Lit.int .u32 f).wf = true) (_ : (Lit.int .u32 m).wf = true) :
    Calls Try.prog 3 #[devV k t o b, .int .u8 ph, .int .u32 p, .int .u32 f, .int .u32 m] w fun e w' => e = .returned (.bool true) ∧ Below w.heap.size w w' := by
  by_cases hf : f = 0
  · subst hf
    cases b
    · exact zero k t o ph p m w
    · exact zero_wipe k t o ph p m w
  · cases b
    · by_cases h1 : ph = 1
      · subst h1
        by_cases ht : t = 0
        · subst ht; exact ask2 k o p f m w hf
        · exact ask1 k t o p f m w hf ht
      · by_cases h2 : ph = 2
        · subst h2
          by_cases ht : t ≠ 0 ∧ p = t
          · obtain ⟨h0, rfl⟩ := ht
            exact take1 k p o f m w hf h0
          · have hn : t = 0 ∨ p ≠ t := by
              by_cases h0 : t = 0
              · exact .inl h0
              · exact .inr (fun h => ht ⟨h0, h⟩)
            by_cases ho : o ≠ 0 ∧ p = o
            · obtain ⟨h0, rfl⟩ := ho
              exact took1 k t p f m w hf hn h0
            · have hm : o = 0 ∨ p ≠ o := by
                by_cases h0 : o = 0
                · exact .inl h0
                · exact .inr (fun h => ho ⟨h0, h⟩)
              by_cases hpt : p = t
              · have h0 : t = 0 := hn.resolve_right (fun h => h hpt)
                subst h0
                subst hpt
                exact key2 k o f m w hf hm
              · exact key1 k t o p f m w hf hn hm hpt
        · exact other k t o ph p f m w hf h1 h2
    · exact wiped k t o ph p f m w hf
end Go.Proofs.Ytpanefmemabckaa.PolicyTwice
