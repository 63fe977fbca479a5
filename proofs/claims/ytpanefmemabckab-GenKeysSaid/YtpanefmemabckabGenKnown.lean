/- gen.Known: the first client of a number, by slices.IndexFunc and a closure. -/
import Derived.Test.YtpanefmemabckabGenRep
namespace Go.Proofs.Ytpanefmemabckab.GenKnown
open Go.RowKit Go.Proofs.Ytpanefmemabckab.NumA Go.Proofs.Ytpanefmemabckab.GenS Go.Proofs.Ytpanefmemabckab.GenRep Go.Proofs.Ytpanefmemabckab.GenBlk Go.Proofs.YtpanefmemabckabW.PrintWords Go.Proofs.YtpanefmemabckabW.PrintLast
open Go.Proofs.Ytpanefmemabckab.GenZero (heap_new blk_kept)
set_option linter.unusedSimpArgs false

set_option maxRecDepth 100000 in
set_option maxHeartbeats 4000000 in
/-- the closure: is a client the one that is looked for -/
theorem is_calls (a b c k : Int) (p : Nat) (w : World) (hp : w.cell? ⟨p, 0, none⟩ = some (.int .u32 k)) :
    Calls Try.prog 63 #[.agg #[.int .u32 a, .int .u32 b, .int .u64 c], .pointer (some ⟨p, 0, none⟩)] w fun e w' => e = .returned (.bool (a == k)) ∧ Below w.heap.size w w' := by
  have hlt : p < w.heap.size := World.block_lt_of_cell? w _ hp
  have B := Aside0.mk (below_al w (.cells #[.int .u32 a, .int .u32 b, .int .u64 c] 60))
  have hk : (w.alloc (.cells #[.int .u32 a, .int .u32 b, .int .u64 c] 60)).cell? ⟨p, 0, none⟩ = some (.int .u32 k) := (B.out.cell hlt).trans hp
  go_enter Try.func63, Try.ntmps63
  go_wp2
  go_ret
  exact ⟨rfl, B.out⟩
/-- where the first one is, from a place on -/
def idx : List S60 → Int → Nat → Int
  | [], _, _ => -1
  | x :: l, k, i => if x.f0 = k then (i : Int) else idx l k (i + 1)
set_option maxRecDepth 100000 in
set_option maxHeartbeats 4000000 in
theorem index_calls (A : Option Addr) (c : Nat) (l : List S60) (k : Int) (p : Nat) (w : World) (hr : Kd.C kC w A l.length l) (hl : l.length ≤ 1000000) (hp : w.cell? ⟨p, 0, none⟩ = some (.int .u32 k)) :
    Calls Try.prog 62 #[.slice A l.length c, .func (.func 63) #[] #[.pointer (some ⟨p, 0, none⟩)]] w fun e w' => e = .returned (.int .i64 (idx l k 0)) ∧ Below w.heap.size w w' := by
  have HR := Aside0.mk hr
  have HL := Aside0.mk hl
  have HP := Aside0.mk hp
  clear hr hl hp
  go_enter Try.func62, Try.ntmps62
  go_wp2_with fail
  go_loopw [8] (fun v8 wr => ∃ i : Nat, i ≤ l.length ∧ v8 = .int .i64 i ∧ Aside0 (Below w.heap.size w wr) ∧ Aside0 (idx l k 0 = idx (l.drop i) k i)) (fun v8 _ => l.length - (intOf v8).toNat)
  case atStart => exact ⟨0, by omega, rfl, ⟨Below.refl _ _⟩, ⟨by rw [List.drop_zero]⟩⟩
  case round =>
    obtain ⟨i, hi, rfl, HB, HI⟩ := hrel
    by_cases hlt : i < l.length
    · have hc := Kd.C_below HR.out HB.out
      obtain ⟨ad, hA, k0, k1, k2⟩ := at_T60 hc (i : Int) (by omega) (by omega)
      subst hA
      have e1 : rd_T60 l i = l[i] := by simp [rd_T60, hlt]
      rw [e1] at k0 k1 k2
      rw [show ((i : Int)).toNat = i from by omega] at k0 k1 k2
      clear hc e1
      go_wp2_with fail
      have hp' := (HB.out.cell (World.block_lt_of_cell? w _ HP.out)).trans HP.out
      refine (is_calls _ _ _ k p _ hp').mono ?_
      rintro e w1 ⟨rfl, hb⟩
      have B1 := Aside0.mk (below_then HB.out HB.out.size hb)
      have hi2 := HI.out
      rw [List.drop_eq_getElem_cons hlt, idx] at hi2
      clear hb HB HI hp' k0 k1 k2
      by_cases hk : l[i].f0 = k
      · rw [if_pos hk] at hi2
        have hk' : (l[i].f0 == k) = true := beq_iff_eq.mpr hk
        have HE := Aside0.mk hi2
        clear hk hi2
        go_wp2_with fail
        go_ret
        exact ⟨by rw [HE.out]; rfl, B1.out⟩
      · rw [if_neg hk] at hi2
        have hk' : (l[i].f0 == k) = false := beq_eq_false_iff_ne.mpr hk
        have HE := Aside0.mk hi2
        have hl := HL.out
        clear hk hi2
        go_wp2_with fail
        go_roundw
        case rel => exact ⟨i + 1, by omega, by go_num, B1, HE⟩
        case measure => simp [intOf]; omega
    · obtain rfl : i = l.length := by omega
      have hi2 := HI.out
      rw [List.drop_length, idx] at hi2
      have HE := Aside0.mk hi2
      clear hi2
      go_wp2_with fail
      go_ret
      exact ⟨by rw [HE.out]; rfl, HB.out⟩
theorem idx_cases (l : List S60) (k : Int) : ∀ i, idx l k i = -1 ∨ ∃ j, ∃ h : j < l.length, idx l k i = ((i + j : Nat) : Int) := by
  induction l with
  | nil => intro i; exact .inl rfl
  | cons x l ih =>
    intro i
    rw [idx]
    split
    · exact .inr ⟨0, by simp, by simp⟩
    · rcases ih (i + 1) with h | ⟨j, hj, h⟩
      · exact .inl h
      · exact .inr ⟨j + 1, by simpa using hj, by rw [h]; omega⟩
/-- the first client of a number, and is there one -/
def known (l : List S60) (k : Int) : S60 × Bool := if idx l k 0 < 0 then (⟨0, 0, 0⟩, false) else (rd_T60 l (idx l k 0), true)
abbrev cliV (x : S60) : Value := .agg #[.int .u32 x.f0, .int .u32 x.f1, .int .u64 x.f2]
abbrev cliO (x : S60) : Obj := .cells #[.int .u32 x.f0, .int .u32 x.f1, .int .u64 x.f2] 60
set_option maxRecDepth 100000 in
set_option maxHeartbeats 4000000 in
theorem known_calls (s : Value) (l : List S60) (k : Int) (w : World) (hs : RowC kC w s l) (hl : l.length ≤ 1000000) :
    Calls Try.prog 40 #[s, .int .u32 k] w fun e w' => e = .returned (.tuple #[cliV (known l k).1, .bool (known l k).2]) ∧ Below w.heap.size w w' := by
  obtain ⟨A, c, rfl, hc, hr⟩ := hs
  have hmf : ∀ (fn : Fn) (first cap : Array Value) (w : World), (Instr.makeFunc fn first cap).run Try.prog w = .ok (.func fn first cap) w := fun _ _ _ _ => rfl
  have HR := Aside0.mk hr
  have HL := Aside0.mk hl
  clear hr hl
  have hp := blk_alloc (heap_new w (.cells #[.int .u32 k] 23)) (cliO ⟨0, 0, 0⟩)
  have hq := heap_new (w.alloc (.cells #[.int .u32 k] 23)) (cliO ⟨0, 0, 0⟩)
  rw [show (w.alloc (.cells #[.int .u32 k] 23)).heap.size = w.heap.size + 1 from by simp] at hq
  have hB : Below w.heap.size w ((w.alloc (.cells #[.int .u32 k] 23)).alloc (cliO ⟨0, 0, 0⟩)) := (below_al w _).alloc (by simp) _
  obtain ⟨p, hp'⟩ : ∃ p, p = w.heap.size := ⟨_, rfl⟩
  obtain ⟨W0, hW0⟩ : ∃ W0, W0 = (w.alloc (.cells #[.int .u32 k] 23)).alloc (cliO ⟨0, 0, 0⟩) := ⟨_, rfl⟩
  rw [← hW0] at hp hq hB
  rw [← hp'] at hp hq
  have EW := Aside0.mk hW0
  have EP := Aside0.mk hp'
  have P := Aside0.mk hp
  have Q := Aside0.mk hq
  have B := Aside0.mk hB
  clear hp hq hB hp' hW0
  go_enter Try.func40, Try.ntmps40
  go_wp2_with fail
  change Calls _ _ _ ((w.alloc (.cells #[.int .u32 k] 23)).alloc (cliO ⟨0, 0, 0⟩)) _
  rw [← EW.out, ← EP.out]
  refine (index_calls A c l k p _ (Kd.C_below HR.out B.out) HL.out (blk_cell P.out 0)).mono ?_
  rintro e w1 ⟨rfl, hb⟩
  replace Q := Aside0.mk (blk_kept Q.out hb)
  replace B := Aside0.mk (below_then B.out B.out.size hb)
  clear hb P EW
  have z0 := blk_cell Q.out 0
  have z1 := blk_cell Q.out 1
  have z2 := blk_cell Q.out 2
  have f0 := blk_frozen Q.out 0
  have f1 := blk_frozen Q.out 1
  have f2 := blk_frozen Q.out 2
  simp only [List.getElem?_toArray, List.getElem?_cons_zero, List.getElem?_cons_succ] at z0 z1 z2
  have FIN : ∀ (x : S60) (W : World), W = ((w1.setCell ⟨p + 1, 0, none⟩ (.int .u32 x.f0)).setCell ⟨p + 1, 1, none⟩ (.int .u32 x.f1)).setCell ⟨p + 1, 2, none⟩ (.int .u64 x.f2) → W.heap[p + 1]? = some (cliO x) ∧ Below w.heap.size w W := by
    rintro x W rfl
    have hq : w.heap.size ≤ p + 1 := by have := EP.out; omega
    exact ⟨blk_set (blk_set (blk_set Q.out 0 _) 1 _) 2 _, set_below (set_below (set_below B.out hq _ _) hq _ _) hq _ _⟩
  have FIN' := Aside0.mk FIN
  clear FIN
  rcases idx_cases l k 0 with h | ⟨j, hj, h⟩
  · have hv : known l k = (⟨0, 0, 0⟩, false) := by unfold known; rw [h]; rfl
    rw [h]
    have HV := Aside0.mk hv
    clear h hv
    go_wp2_with fail
    obtain ⟨W, hW⟩ : ∃ W, W = ((w1.setCell ⟨p + 1, 0, none⟩ (.int .u32 0)).setCell ⟨p + 1, 1, none⟩ (.int .u32 0)).setCell ⟨p + 1, 2, none⟩ (.int .u64 0) := ⟨_, rfl⟩
    obtain ⟨D, BW⟩ := FIN'.out ⟨0, 0, 0⟩ W hW
    rw [← hW]
    clear hW z0 z1 z2 f0 f1 f2
    have z0 := blk_cell D 0
    have z1 := blk_cell D 1
    have z2 := blk_cell D 2
    simp only [List.getElem?_toArray, List.getElem?_cons_zero, List.getElem?_cons_succ] at z0 z1 z2
    exact bodyPost_ret (v := .tuple #[cliV ⟨0, 0, 0⟩, .bool false]) (by simp [results, Try.results40, go_sem, z0, z1, z2]) rfl ⟨by rw [HV.out], BW⟩
  · have e1 : rd_T60 l (j : Int) = l[j] := by simp [rd_T60, hj]
    rw [Nat.zero_add] at h
    have hv : known l k = (l[j], true) := by unfold known; rw [h, if_neg (by omega), e1]
    rw [h]
    have HV := Aside0.mk hv
    obtain ⟨ad, hA, k0, k1, k2⟩ := at_T60 (Kd.C_below HR.out B.out) (j : Int) (by omega) (by omega)
    subst hA
    rw [e1, show ((j : Int)).toNat = j from by omega] at k0
    rw [e1, show ((j : Int)).toNat = j from by omega] at k1
    rw [e1, show ((j : Int)).toNat = j from by omega] at k2
    clear h hv e1
    go_wp2_with fail
    obtain ⟨W, hW⟩ : ∃ W, W = ((w1.setCell ⟨p + 1, 0, none⟩ (.int .u32 l[j].f0)).setCell ⟨p + 1, 1, none⟩ (.int .u32 l[j].f1)).setCell ⟨p + 1, 2, none⟩ (.int .u64 l[j].f2) := ⟨_, rfl⟩
    obtain ⟨D, BW⟩ := FIN'.out l[j] W hW
    rw [← hW]
    clear hW z0 z1 z2 f0 f1 f2 k0 k1 k2
    have z0 := blk_cell D 0
    have z1 := blk_cell D 1
    have z2 := blk_cell D 2
    simp only [List.getElem?_toArray, List.getElem?_cons_zero, List.getElem?_cons_succ] at z0 z1 z2
    exact bodyPost_ret (v := .tuple #[cliV l[j], .bool true]) (by simp [results, Try.results40, go_sem, z0, z1, z2]) rfl ⟨by rw [HV.out], BW⟩
end Go.Proofs.Ytpanefmemabckab.GenKnown
