/- policy.Do answers, way by way, as the document tells; for every device, phase and keys. -/
import Derived.Test.YtpanefmemabckabProg
import Derived.Below
import Derived.OwnWalk
import Derived.WalkKit
import Derived.KernelRfl
import Derived.RowKit3
import Derived.Deep.QuietTactic
import Derived.BigQuiet
import Derived.RowKit
import Derived.RegionTactic
import Derived.ChangeAlike
namespace Go.Proofs.Ytpanefmemabckab.PolicyDo
open Go.RowKit

/-- a device, as a value -/
abbrev devV (k t o : Int) (w : Bool) : Value := .agg #[.int .u32 k, .int .u32 t, .int .u32 o, .bool w]
/-- a reply of Provision, as a value -/
abbrev repV (s p : Int) (w : Bool) : Value := .agg #[.int .u8 8, .int .u8 s, .int .u32 0, .int .u32 0, .bool false, .int .u32 0, .slice none 0 0, .slice none 0 0, .slice none 0 0, .slice none 0 0, .int .u32 p, .bool w]

set_option maxRecDepth 100000 in
set_option maxHeartbeats 4000000 in
theorem do_wiped (k t o p f : Int) (w : World) :
    Calls Try.prog 46 #[.agg #[.int .u32 k, .int .u32 t, .int .u32 o, .bool true], .int .u8 3, .int .u32 p, .int .u32 f] w fun e w' => e = .returned (.tuple #[devV 0 0 0 false, repV 1 0 false, .bool false, .bool true]) ∧ Below w.heap.size w w' := by
  by_cases hx : t = 0
  · have hx' : (t != 0) = false := bne_eq_false_iff_eq.mpr hx
    clear hx
    go_enter Try.func46, Try.ntmps46
    go_wp2
    go_region
    go_wp2
    exact bodyPost_ret (v := .tuple #[devV 0 0 0 false, repV 1 0 false, .bool false, .bool true]) (by simp [results, Try.results46, go_sem]) rfl ⟨rfl, (((((Below.refl _ _).alloc (Nat.le_refl _) _).alloc (by simp) _).alloc (by simp; omega) _).alloc (by simp; omega) _).drew⟩
  · have hx' : (t != 0) = true := bne_iff_ne.mpr hx
    clear hx
    cases hy : (p == t)
    all_goals
      go_enter Try.func46, Try.ntmps46
      go_wp2
      go_region
      go_wp2
      exact bodyPost_ret (v := .tuple #[devV 0 0 0 false, repV 1 0 false, .bool false, .bool true]) (by simp [results, Try.results46, go_sem]) rfl ⟨rfl, (((((Below.refl _ _).alloc (Nat.le_refl _) _).alloc (by simp) _).alloc (by simp; omega) _).alloc (by simp; omega) _).drew⟩

set_option maxRecDepth 100000 in
set_option maxHeartbeats 4000000 in
theorem do_wipe (k t o ph p f : Int) (w : World) (h3 : ph ≠ 3) :
    Calls Try.prog 46 #[.agg #[.int .u32 k, .int .u32 t, .int .u32 o, .bool true], .int .u8 ph, .int .u32 p, .int .u32 f] w fun e w' => e = .returned (.tuple #[devV k t o true, repV 1 0 true, .bool false, .bool false]) ∧ Below w.heap.size w w' := by
  have h3' : (ph == 3) = false := beq_eq_false_iff_ne.mpr h3
  clear h3
  by_cases hx : t = 0
  · have hx' : (t != 0) = false := bne_eq_false_iff_eq.mpr hx
    clear hx
    go_enter Try.func46, Try.ntmps46
    go_wp2
    go_region
    go_wp2
    exact bodyPost_ret (v := .tuple #[devV k t o true, repV 1 0 true, .bool false, .bool false]) (by simp [results, Try.results46, go_sem]) rfl ⟨rfl, (((((Below.refl _ _).alloc (Nat.le_refl _) _).alloc (by simp) _).alloc (by simp; omega) _).alloc (by simp; omega) _).drew⟩
  · have hx' : (t != 0) = true := bne_iff_ne.mpr hx
    clear hx
    cases hy : (p == t)
    all_goals
      go_enter Try.func46, Try.ntmps46
      go_wp2
      go_region
      go_wp2
      exact bodyPost_ret (v := .tuple #[devV k t o true, repV 1 0 true, .bool false, .bool false]) (by simp [results, Try.results46, go_sem]) rfl ⟨rfl, (((((Below.refl _ _).alloc (Nat.le_refl _) _).alloc (by simp) _).alloc (by simp; omega) _).alloc (by simp; omega) _).drew⟩

set_option maxRecDepth 100000 in
set_option maxHeartbeats 4000000 in
theorem do_asked (k t o p f : Int) (w : World) (ht : t ≠ 0) :
    Calls Try.prog 46 #[.agg #[.int .u32 k, .int .u32 t, .int .u32 o, .bool false], .int .u8 1, .int .u32 p, .int .u32 f] w fun e w' => e = .returned (.tuple #[devV k t o false, repV 1 t false, .bool false, .bool false]) ∧ Below w.heap.size w w' := by
  have ht' : (t != 0) = true := bne_iff_ne.mpr ht
  clear ht
  go_enter Try.func46, Try.ntmps46
  go_wp2
  go_region
  go_wp2
  exact bodyPost_ret (v := .tuple #[devV k t o false, repV 1 t false, .bool false, .bool false]) (by simp [results, Try.results46, go_sem]) rfl ⟨rfl, (((((Below.refl _ _).alloc (Nat.le_refl _) _).alloc (by simp) _).alloc (by simp; omega) _).alloc (by simp; omega) _).drew⟩

set_option maxRecDepth 100000 in
set_option maxHeartbeats 4000000 in
theorem do_ask (k o p f : Int) (w : World) :
    Calls Try.prog 46 #[.agg #[.int .u32 k, .int .u32 0, .int .u32 o, .bool false], .int .u8 1, .int .u32 p, .int .u32 f] w fun e w' => e = .returned (.tuple #[devV k f o false, repV 1 f false, .bool true, .bool false]) ∧ Below w.heap.size w w' := by
  go_enter Try.func46, Try.ntmps46
  go_wp2
  go_region
  go_wp2
  exact bodyPost_ret (v := .tuple #[devV k f o false, repV 1 f false, .bool true, .bool false]) (by simp [results, Try.results46, go_sem]) rfl ⟨rfl, (((((Below.refl _ _).alloc (Nat.le_refl _) _).alloc (by simp) _).alloc (by simp; omega) _).alloc (by simp; omega) _).drew⟩

set_option maxRecDepth 100000 in
set_option maxHeartbeats 4000000 in
theorem do_take (k t o f : Int) (w : World) (ht : t ≠ 0) :
    Calls Try.prog 46 #[.agg #[.int .u32 k, .int .u32 t, .int .u32 o, .bool false], .int .u8 2, .int .u32 t, .int .u32 f] w fun e w' => e = .returned (.tuple #[devV f 0 t false, repV 1 f false, .bool true, .bool false]) ∧ Below w.heap.size w w' := by
  have ht' : (t != 0) = true := bne_iff_ne.mpr ht
  clear ht
  go_enter Try.func46, Try.ntmps46
  go_wp2
  go_region
  go_wp2
  exact bodyPost_ret (v := .tuple #[devV f 0 t false, repV 1 f false, .bool true, .bool false]) (by simp [results, Try.results46, go_sem]) rfl ⟨rfl, (((((Below.refl _ _).alloc (Nat.le_refl _) _).alloc (by simp) _).alloc (by simp; omega) _).alloc (by simp; omega) _).drew⟩
end Go.Proofs.Ytpanefmemabckab.PolicyDo
