/- crc.Into moves a rest on by a byte, as the plain function CM.into tells; for every rest below 2^32 and every byte. -/
import Derived.Test.YtpanefmemabckaaProg
import Derived.Test.YtpanefmemabckaaCrcMath
import Derived.Below
import Derived.OwnWalk
import Derived.Laws.MakeOwn
import Derived.Laws.OwnMore
import Derived.WalkKit
import Derived.KernelRfl
import Derived.RowKit3
import Derived.Deep.LoopGhost
import Derived.Deep.QuietTactic
import Derived.BigQuiet
import Derived.Laws.Rows
import Derived.Laws.BitsLemmas
import Derived.Laws.BitsAllLaws
import Derived.RowKit
import Derived.Lib.Hide
namespace Go.Proofs.Ytpanefmemabckaa.CrcInto
open Go.RowKit
/-- what the table holds -/
def tabAgg : Array Value := #[.int .u32 0x00000000, .int .u32 0x105ec76f, .int .u32 0x20bd8ede, .int .u32 0x30e349b1, .int .u32 0x417b1dbc, .int .u32 0x5125dad3, .int .u32 0x61c69362, .int .u32 0x7198540d,
    .int .u32 0x82f63b78, .int .u32 0x92a8fc17, .int .u32 0xa24bb5a6, .int .u32 0xb21572c9, .int .u32 0xc38d26c4, .int .u32 0xd3d3e1ab, .int .u32 0xe330a81a, .int .u32 0xf36e6f75]
theorem tab_cell (j : Nat) (h : j < 16) : tabAgg[j]? = some (.int .u32 (CM.tab j : Nat)) := by
  have : j = 0 ∨ j = 1 ∨ j = 2 ∨ j = 3 ∨ j = 4 ∨ j = 5 ∨ j = 6 ∨ j = 7 ∨ j = 8 ∨ j = 9 ∨ j = 10 ∨ j = 11 ∨ j = 12 ∨ j = 13 ∨ j = 14 ∨ j = 15 := by omega
  rcases this with rfl | rfl | rfl | rfl | rfl | rfl | rfl | rfl | rfl | rfl | rfl | rfl | rfl | rfl | rfl | rfl <;> exact congrArg (fun n : Nat => some (Value.int .u32 (n : Int))) (by decide +kernel)
set_option maxRecDepth 100000 in
set_option maxHeartbeats 1000000 in
theorem fours_calls (w : World) :
    Calls Try.prog 60 #[] w fun e w' => e = .returned (.agg tabAgg) ∧ Below w.heap.size w w' := by
  go_enter Try.func60, Try.ntmps60
  go_wp2
  refine bodyPost_ret (v := .agg tabAgg) (by simp [results, Try.results60, go_sem, tabAgg]) rfl ⟨rfl, (Below.refl _ _).alloc (Nat.le_refl _) _⟩
set_option maxRecDepth 100000 in
set_option maxHeartbeats 1000000 in
theorem into_calls (a0 c : Nat) (w : World) (h0 : a0 < 4294967296) (hc : c < 256) :
    Calls Try.prog 25 #[.int .u32 a0, .int .u8 c] w fun e w' => e = .returned (.int .u32 (CM.into a0 c : Nat)) ∧ Below w.heap.size w w' := by
  go_enter Try.func25, Try.ntmps25
  go_wp2_with (go_at_call 60; refine (fours_calls _).mono ?_; rintro e w1 ⟨rfl, hb⟩; unfold tabAgg)
  have hcell : ∀ j, j < 16 → (w1.alloc (Obj.cells tabAgg 89)).cell? ⟨w1.heap.size, j, none⟩ = some (.int .u32 (CM.tab j : Nat)) := by
    intro j hj
    have h1 := tab_cell j hj
    rw [← h1]
    exact World.cell?_alloc_new _ _ _ _
  have hB : Below w.heap.size w (w1.alloc (Obj.cells tabAgg 89)) := hb.alloc (by have := hb.size; omega) _
  unfold tabAgg at hcell hB
  generalize w1.alloc (Obj.cells _ 89) = W at *
  generalize w1.heap.size = b at *
  go_loop [0, 14] (fun r i => ∃ k : Nat, ∃ n : Nat, k ≤ 2 ∧ i = .int .i64 k ∧ n < 4294967296 ∧ r = .int .u32 n ∧ (k = 0 → n = a0) ∧ (k = 1 → n = CM.bits 4 (a0 ^^^ c % 16)) ∧ (k = 2 → n = CM.into a0 c)) (fun _ i => 2 - (intOf i).toNat)
  case atStart => exact ⟨0, a0, by omega, rfl, h0, rfl, fun _ => rfl, by omega, by omega⟩
  case round =>
    obtain ⟨k, n, hk, rfl, hn, rfl, e0, e1, e2⟩ := hrel
    have i0 : ∀ w, (Instr.index 91 (.agg #[.int .u8 ((c : Int) % 16), .int .u8 ((c : Int) / 16)]) (.int .i64 0)).run Try.prog w = .ok (.int .u8 ((c : Int) % 16)) w := fun _ => by kernel_rfl
    have i1 : ∀ w, (Instr.index 91 (.agg #[.int .u8 ((c : Int) % 16), .int .u8 ((c : Int) / 16)]) (.int .i64 1)).run Try.prog w = .ok (.int .u8 ((c : Int) / 16)) w := fun _ => by kernel_rfl
    have hk3 : k = 0 ∨ k = 1 ∨ k = 2 := by omega
    rcases hk3 with rfl | rfl | rfl
    · have E0 := Lib.hid (e0 rfl)
      clear e0 e1 e2
      obtain ⟨j, hj⟩ : ∃ j, j = n % 16 ^^^ c % 16 := ⟨_, rfl⟩
      have hj16 : j < 16 := by rw [hj]; exact Nat.xor_lt_two_pow (n := 4) (by omega) (by omega)
      obtain ⟨t, ht⟩ : ∃ t, t = CM.tab j := ⟨_, rfl⟩
      have hc0 := hcell j hj16
      rw [← ht] at hc0
      have hx : bits .xor .u8 ((n : Int) % 16) ((c : Int) % 16) = (j : Int) := by rw [hj]; exact_mod_cast u8_xor_nat (n % 16) (c % 16) (by omega) (by omega)
      have ht32 : t < 4294967296 := by rw [ht]; exact CM.bits_lt 4 (by omega)
      obtain ⟨m, hm⟩ : ∃ m, m = n / 16 ^^^ t := ⟨_, rfl⟩
      have hm32 : m < 4294967296 := by rw [hm]; exact CM.xor_lt (by omega) ht32
      have hz : bits .xor .u32 ((n : Int) / 16) (t : Int) = (m : Int) := by rw [hm]; exact_mod_cast u32_xor_nat (n / 16) t (by omega) ht32
      have HM := Lib.hid (by rw [hm, ht, hj, CM.half_step _ _ (by omega), E0.out] : m = CM.bits 4 (a0 ^^^ c % 16))
      clear hj ht hm hcell
      go_wp2
      go_round
      case rel => exact ⟨1, m, by omega, rfl, hm32, rfl, by omega, fun _ => HM.out, by omega⟩
      case measure => simp [intOf]
    · have E1 := Lib.hid (e1 rfl)
      clear e0 e1 e2
      obtain ⟨j, hj⟩ : ∃ j, j = n % 16 ^^^ c / 16 := ⟨_, rfl⟩
      have hj16 : j < 16 := by rw [hj]; exact Nat.xor_lt_two_pow (n := 4) (by omega) (by omega)
      obtain ⟨t, ht⟩ : ∃ t, t = CM.tab j := ⟨_, rfl⟩
      have hc0 := hcell j hj16
      rw [← ht] at hc0
      have hx : bits .xor .u8 ((n : Int) % 16) ((c : Int) / 16) = (j : Int) := by rw [hj]; exact_mod_cast u8_xor_nat (n % 16) (c / 16) (by omega) (by omega)
      have ht32 : t < 4294967296 := by rw [ht]; exact CM.bits_lt 4 (by omega)
      obtain ⟨m, hm⟩ : ∃ m, m = n / 16 ^^^ t := ⟨_, rfl⟩
      have hm32 : m < 4294967296 := by rw [hm]; exact CM.xor_lt (by omega) ht32
      have hz : bits .xor .u32 ((n : Int) / 16) (t : Int) = (m : Int) := by rw [hm]; exact_mod_cast u32_xor_nat (n / 16) t (by omega) ht32
      have HM := Lib.hid (by rw [hm, ht, hj, CM.half_step _ _ (by omega), E1.out]; exact CM.into_halves _ _ : m = CM.into a0 c)
      clear hj ht hm hcell
      go_wp2
      go_round
      case rel => exact ⟨2, m, by omega, rfl, hm32, rfl, by omega, by omega, fun _ => HM.out⟩
      case measure => simp [intOf]
    · have E2 := Lib.hid (e2 rfl)
      clear e0 e1 e2
      go_wp2
      go_ret
      exact ⟨congrArg (fun z : Nat => Ending.returned (.int .u32 (z : Int))) E2.out, hB⟩
end Go.Proofs.Ytpanefmemabckaa.CrcInto
