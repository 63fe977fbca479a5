/- policy.Do answers, way by way, as the document tells; for every device, phase and keys. -/
import Derived.Test.YtpanefmemabckabProg
import Derived.Test.YtpanefmemabckabPolicyDo
import Derived.Below
import Derived.OwnWalk
import Derived.WalkKit
import Derived.KernelRfl
import Derived.RowKit3
import Derived.Deep.QuietTactic
import Derived.BigQuiet
import Derived.RowKit
import Derived.RegionTactic
import Derived.ChangeAlike
namespace Go.Proofs.Ytpanefmemabckab.PolicyDo
open Go.RowKit


set_option maxRecDepth 100000 in
set_option maxHeartbeats 4000000 in
theorem do_took (k t o f : Int) (w : World) (hn : t = 0 ∨ o ≠ t) (ho : o ≠ 0) :
    Calls Try.prog 46 #[.agg #[.int .u32 k, .int .u32 t, .int .u32 o, .bool false], .int .u8 2, .int .u32 o, .int .u32 f] w fun e w' => e = .returned (.tuple #[devV k t o false, repV 1 k false, .bool false, .bool false]) ∧ Below w.heap.size w w' := by
  have ho' : (o != 0) = true := bne_iff_ne.mpr ho
  clear ho
  by_cases hx : t = 0
  · have hx' : (t != 0) = false := bne_eq_false_iff_eq.mpr hx
    clear hn hx
    go_enter Try.func46, Try.ntmps46
    go_wp2
    go_region
    go_wp2
    exact bodyPost_ret (v := .tuple #[devV k t o false, repV 1 k false, .bool false, .bool false]) (by simp [results, Try.results46, go_sem]) rfl ⟨rfl, (((((Below.refl _ _).alloc (Nat.le_refl _) _).alloc (by simp) _).alloc (by simp; omega) _).alloc (by simp; omega) _).drew⟩
  · have hx' : (t != 0) = true := bne_iff_ne.mpr hx
    have hy' : (o == t) = false := beq_eq_false_iff_ne.mpr (hn.resolve_left hx)
    clear hx hn
    go_enter Try.func46, Try.ntmps46
    go_wp2
    go_region
    go_wp2
    exact bodyPost_ret (v := .tuple #[devV k t o false, repV 1 k false, .bool false, .bool false]) (by simp [results, Try.results46, go_sem]) rfl ⟨rfl, (((((Below.refl _ _).alloc (Nat.le_refl _) _).alloc (by simp) _).alloc (by simp; omega) _).alloc (by simp; omega) _).drew⟩

set_option maxRecDepth 100000 in
set_option maxHeartbeats 4000000 in
theorem do_key (k t o p f : Int) (w : World) (hn : t = 0 ∨ p ≠ t) (hm : o = 0 ∨ p ≠ o) :
    Calls Try.prog 46 #[.agg #[.int .u32 k, .int .u32 t, .int .u32 o, .bool false], .int .u8 2, .int .u32 p, .int .u32 f] w fun e w' => e = .returned (.tuple #[devV k t o false, repV 3 0 false, .bool false, .bool false]) ∧ Below w.heap.size w w' := by
  by_cases hx : t = 0
  · have hx' : (t != 0) = false := bne_eq_false_iff_eq.mpr hx
    clear hn hx
    by_cases hz : o = 0
    · have hz' : (o != 0) = false := bne_eq_false_iff_eq.mpr hz
      clear hm hz
      go_enter Try.func46, Try.ntmps46
      go_wp2
      go_region
      go_wp2
      exact bodyPost_ret (v := .tuple #[devV k t o false, repV 3 0 false, .bool false, .bool false]) (by simp [results, Try.results46, go_sem]) rfl ⟨rfl, (((((Below.refl _ _).alloc (Nat.le_refl _) _).alloc (by simp) _).alloc (by simp; omega) _).alloc (by simp; omega) _).drew⟩
    · have hz' : (o != 0) = true := bne_iff_ne.mpr hz
      have hw' : (p == o) = false := beq_eq_false_iff_ne.mpr (hm.resolve_left hz)
      clear hz hm
      go_enter Try.func46, Try.ntmps46
      go_wp2
      go_region
      go_wp2
      exact bodyPost_ret (v := .tuple #[devV k t o false, repV 3 0 false, .bool false, .bool false]) (by simp [results, Try.results46, go_sem]) rfl ⟨rfl, (((((Below.refl _ _).alloc (Nat.le_refl _) _).alloc (by simp) _).alloc (by simp; omega) _).alloc (by simp; omega) _).drew⟩
  · have hx' : (t != 0) = true := bne_iff_ne.mpr hx
    have hy' : (p == t) = false := beq_eq_false_iff_ne.mpr (hn.resolve_left hx)
    clear hx hn
    by_cases hz : o = 0
    · have hz' : (o != 0) = false := bne_eq_false_iff_eq.mpr hz
      clear hm hz
      go_enter Try.func46, Try.ntmps46
      go_wp2
      go_region
      go_wp2
      exact bodyPost_ret (v := .tuple #[devV k t o false, repV 3 0 false, .bool false, .bool false]) (by simp [results, Try.results46, go_sem]) rfl ⟨rfl, (((((Below.refl _ _).alloc (Nat.le_refl _) _).alloc (by simp) _).alloc (by simp; omega) _).alloc (by simp; omega) _).drew⟩
    · have hz' : (o != 0) = true := bne_iff_ne.mpr hz
      have hw' : (p == o) = false := beq_eq_false_iff_ne.mpr (hm.resolve_left hz)
      clear hz hm
      go_enter Try.func46, Try.ntmps46
      go_wp2
      go_region
      go_wp2
      exact bodyPost_ret (v := .tuple #[devV k t o false, repV 3 0 false, .bool false, .bool false]) (by simp [results, Try.results46, go_sem]) rfl ⟨rfl, (((((Below.refl _ _).alloc (Nat.le_refl _) _).alloc (by simp) _).alloc (by simp; omega) _).alloc (by simp; omega) _).drew⟩

set_option maxRecDepth 100000 in
set_option maxHeartbeats 4000000 in
theorem do_other (k t o ph p f : Int) (w : World) (h1 : ph ≠ 1) (h2 : ph ≠ 2) :
    Calls Try.prog 46 #[.agg #[.int .u32 k, .int .u32 t, .int .u32 o, .bool false], .int .u8 ph, .int .u32 p, .int .u32 f] w fun e w' => e = .returned (.tuple #[devV k t o false, repV 4 0 false, .bool false, .bool false]) ∧ Below w.heap.size w w' := by
  have h1' : (ph == 1) = false := beq_eq_false_iff_ne.mpr h1
  have h2' : (ph == 2) = false := beq_eq_false_iff_ne.mpr h2
  clear h1 h2
  by_cases hx : t = 0
  · have hx' : (t != 0) = false := bne_eq_false_iff_eq.mpr hx
    clear hx
    go_enter Try.func46, Try.ntmps46
    go_wp2
    go_region
    go_wp2
    exact bodyPost_ret (v := .tuple #[devV k t o false, repV 4 0 false, .bool false, .bool false]) (by simp [results, Try.results46, go_sem]) rfl ⟨rfl, (((((Below.refl _ _).alloc (Nat.le_refl _) _).alloc (by simp) _).alloc (by simp; omega) _).alloc (by simp; omega) _).drew⟩
  · have hx' : (t != 0) = true := bne_iff_ne.mpr hx
    clear hx
    cases hy : (p == t)
    all_goals
      go_enter Try.func46, Try.ntmps46
      go_wp2
      go_region
      go_wp2
      exact bodyPost_ret (v := .tuple #[devV k t o false, repV 4 0 false, .bool false, .bool false]) (by simp [results, Try.results46, go_sem]) rfl ⟨rfl, (((((Below.refl _ _).alloc (Nat.le_refl _) _).alloc (by simp) _).alloc (by simp; omega) _).alloc (by simp; omega) _).drew⟩
end Go.Proofs.Ytpanefmemabckab.PolicyDo
