/- A Gen as a value: its six rows are read, or are of the call's own; what the small functions on rows of them do. -/
import Derived.Test.YtpanefmemabckaaGenSx
import Derived.Test.YtpanefmemabckaaNumPure
import Derived.Test.YtpanefmemabckaaGenZero
import Derived.Deep.DeepCutAuto
import Derived.Deep.RegionHeld3
namespace Go.Proofs.Ytpanefmemabckaa.GenRep
open Go.RowKit Go.Proofs.Ytpanefmemabckaa.NumA Go.Proofs.Ytpanefmemabckaa.GenS Go.Proofs.YtpanefmemabckaaW.PrintWords Go.Proofs.YtpanefmemabckaaW.PrintLast

/-- a row that can be read -/
def RowC {α : Type} (d : Kd α) (W : World) (v : Value) (l : List α) : Prop := ∃ A c, v = .slice A l.length c ∧ l.length ≤ c ∧ Kd.C d W A l.length l
/-- a row of the call's own -/
abbrev RowR {α : Type} (d : Kd α) (e : Nat) (W : World) (base : Nat) (v : Value) (l : List α) : Prop := Kd.R d e W base (fun _ => True) v l
theorem RowC.of {α : Type} {d : Kd α} {e : Nat} {W : World} {base : Nat} {ok : Nat → Prop} {v : Value} {l : List α} (h : Kd.R d e W base ok v l) : RowC d W v l := by
  obtain ⟨A, c, e, hl, hc⟩ := Kd.R_reads h
  exact ⟨A, c, e, hl, hc⟩
theorem RowC.below {α : Type} {d : Kd α} {W W' : World} {v : Value} {l : List α} (h : RowC d W v l) (hb : Below W.heap.size W W') : RowC d W' v l := by
  obtain ⟨A, c, e, hl, hc⟩ := h
  exact ⟨A, c, e, hl, Kd.C_below hc hb⟩
theorem RowC.nil {α : Type} (d : Kd α) (W : World) : RowC d W (.slice none 0 0) [] := ⟨none, 0, rfl, Nat.le_refl _, Kd.C_nil _ _⟩

/-- a Gen -/
structure G where
  k1 : Int
  v1 : List S111
  c1 : List S114
  k2 : Int
  v2 : List S111
  c2 : List S114
  rq : List Int
  rp : List Int
  ls : Bool
  su : Int
  wi : Int
abbrev kS := k111
abbrev kC := k114
abbrev kB := Kd.int .u8
/-- its value, by its rows' values -/
abbrev genV (g : G) (s1 s2 s3 s4 s5 s6 : Value) : Value := .agg #[.int .u32 g.k1, s1, s2, .int .u32 g.k2, s3, s4, s5, s6, .bool g.ls, .int .u8 g.su, .int .u8 g.wi]
/-- its rows are read -/
structure GenC (W : World) (g : G) (s1 s2 s3 s4 s5 s6 : Value) : Prop where
  h1 : RowC kS W s1 g.v1
  h2 : RowC kC W s2 g.c1
  h3 : RowC kS W s3 g.v2
  h4 : RowC kC W s4 g.c2
  h5 : RowC kB W s5 g.rq
  h6 : RowC kB W s6 g.rp
/-- its rows are of the call's own -/
structure GenR (W : World) (base : Nat) (g : G) (s1 s2 s3 s4 s5 s6 : Value) : Prop where
  h1 : RowR kS 111 W base s1 g.v1
  h2 : RowR kC 114 W base s2 g.c1
  h3 : RowR kS 111 W base s3 g.v2
  h4 : RowR kC 114 W base s4 g.c2
  h5 : RowR kB 5 W base s5 g.rq
  h6 : RowR kB 5 W base s6 g.rp
theorem GenC.below {W W' : World} {g : G} {s1 s2 s3 s4 s5 s6 : Value} (h : GenC W g s1 s2 s3 s4 s5 s6) (hb : Below W.heap.size W W') : GenC W' g s1 s2 s3 s4 s5 s6 :=
  ⟨h.h1.below hb, h.h2.below hb, h.h3.below hb, h.h4.below hb, h.h5.below hb, h.h6.below hb⟩
theorem GenC.of {W : World} {base : Nat} {g : G} {s1 s2 s3 s4 s5 s6 : Value} (h : GenR W base g s1 s2 s3 s4 s5 s6) : GenC W g s1 s2 s3 s4 s5 s6 :=
  ⟨RowC.of h.h1, RowC.of h.h2, RowC.of h.h3, RowC.of h.h4, RowC.of h.h5, RowC.of h.h6⟩
theorem GenR.below {W W' : World} {base : Nat} {g : G} {s1 s2 s3 s4 s5 s6 : Value} (h : GenR W base g s1 s2 s3 s4 s5 s6) (hb : Below W.heap.size W W') : GenR W' base g s1 s2 s3 s4 s5 s6 :=
  ⟨Kd.R_below h.h1 hb, Kd.R_below h.h2 hb, Kd.R_below h.h3 hb, Kd.R_below h.h4 hb, Kd.R_below h.h5 hb, Kd.R_below h.h6 hb⟩
/-- the Gen is no greater than a law asks of -/
structure GenL (g : G) (n : Nat) : Prop where
  h1 : g.v1.length ≤ n
  h2 : g.c1.length ≤ n
  h3 : g.v2.length ≤ n
  h4 : g.c2.length ≤ n
  h5 : g.rq.length ≤ 140737488351232
  h6 : g.rp.length ≤ 140737488351232

theorem cloneS {W : World} {s : Value} {l : List S111} (h : RowC kS W s l) (hl : l.length ≤ 1000000) :
    Calls Try.prog 82 #[s] W fun e w' => ∃ v, e = .returned v ∧ RowR kS 111 w' W.heap.size v l ∧ Below W.heap.size W w' := by
  obtain ⟨A, c, rfl, hc, hr⟩ := h
  exact api_Seen.calls A c l l W hr hc (if_pos (by omega))
theorem cloneC {W : World} {s : Value} {l : List S114} (h : RowC kC W s l) (hl : l.length ≤ 1000000) :
    Calls Try.prog 83 #[s] W fun e w' => ∃ v, e = .returned v ∧ RowR kC 114 w' W.heap.size v l ∧ Below W.heap.size W w' := by
  obtain ⟨A, c, rfl, hc, hr⟩ := h
  exact api_Client.calls A c l l W hr hc (if_pos (by omega))
theorem cloneB {W : World} {s : Value} {l : List Int} (h : RowC kB W s l) (hl : l.length ≤ 140737488351232) :
    Calls Try.prog 81 #[s] W fun e w' => ∃ v, e = .returned v ∧ RowR kB 5 w' W.heap.size v l ∧ Below W.heap.size W w' := by
  obtain ⟨A, c, rfl, hc, hr⟩ := h
  exact bytes_Clone.calls A c l l W hr hc (if_pos (by omega))
theorem twin {W : World} {s t : Value} {k : Int} {l : List S111} {m : List S114} (h : RowC kS W s l) (h' : RowC kC W t m) (hl : l.length ≤ 1000000) (hm : m.length ≤ 1000000) :
    Calls Try.prog 80 #[.agg #[.int .u32 k, s, t]] W fun e w' => ∃ v v', e = .returned (.agg #[.int .u32 k, v, v']) ∧ RowR kS 111 w' W.heap.size v l ∧ RowR kC 114 w' W.heap.size v' m ∧ Below W.heap.size W w' := by
  obtain ⟨A, c, rfl, hc, hr⟩ := h
  obtain ⟨A', c', rfl, hc', hr'⟩ := h'
  refine gen_twin.calls k A c l A' c' m k l m W hr hc hr' hc' ?_
  unfold gen_twin.f api_Seen.f api_Client.f
  rw [if_pos (by omega), Option.bind_some, if_pos (by omega), Option.bind_some]
end Go.Proofs.Ytpanefmemabckaa.GenRep
namespace Go.Proofs.Ytpanefmemabckaa.GenBlk
open Go.RowKit Go.Proofs.Ytpanefmemabckaa.NumA Go.Proofs.Ytpanefmemabckaa.GenS Go.Proofs.Ytpanefmemabckaa.GenRep Go.Proofs.YtpanefmemabckaaW.PrintWords Go.Proofs.YtpanefmemabckaaW.PrintLast
open Go.Proofs.Ytpanefmemabckaa.GenZero (heap_new blk_kept blk_drew1 Z)
open Go.Proofs.Ytpanefmemabckaa.GenZeroC (heldZ)
set_option linter.unusedSimpArgs false

/-- the Gen behind a request -/
def nextP (how key : Int) (view : List S111) (added : List S114) (rq rp : List Int) (g : G) : G :=
  if how = 2 then ⟨key, view, added, g.k1, g.v1, g.c1, rq, rp, g.ls, g.su, g.wi⟩
  else if how = 4 then ⟨key, view, g.c1 ++ added, g.k2, g.v2, g.c2, rq, rp, g.ls, g.su, g.wi⟩ else g
/-- a block that holds a Gen -/
abbrev genO (g : G) (s1 s2 s3 s4 s5 s6 : Value) : Obj := .cells #[.int .u32 g.k1, s1, s2, .int .u32 g.k2, s3, s4, s5, s6, .bool g.ls, .int .u8 g.su, .int .u8 g.wi] 58
theorem heldG {W : World} {p : Nat} {g : G} {s1 s2 s3 s4 s5 s6 : Value} (h : W.heap[p]? = some (genO g s1 s2 s3 s4 s5 s6)) : W.cell? ⟨p, 0, none⟩ = some (.int .u32 g.k1) ∧ W.cell? ⟨p, 1, none⟩ = some s1 ∧ W.cell? ⟨p, 2, none⟩ = some s2 ∧
    W.cell? ⟨p, 3, none⟩ = some (.int .u32 g.k2) ∧ W.cell? ⟨p, 4, none⟩ = some s3 ∧ W.cell? ⟨p, 5, none⟩ = some s4 ∧ W.cell? ⟨p, 6, none⟩ = some s5 ∧
    W.cell? ⟨p, 7, none⟩ = some s6 ∧ W.cell? ⟨p, 8, none⟩ = some (.bool g.ls) ∧ W.cell? ⟨p, 9, none⟩ = some (.int .u8 g.su) ∧ W.cell? ⟨p, 10, none⟩ = some (.int .u8 g.wi) :=
  ⟨blk_cell h 0, blk_cell h 1, blk_cell h 2, blk_cell h 3, blk_cell h 4, blk_cell h 5, blk_cell h 6, blk_cell h 7, blk_cell h 8, blk_cell h 9, blk_cell h 10⟩
theorem lower {W : World} {base base' : Nat} {g : G} {s1 s2 s3 s4 s5 s6 : Value} (h : GenR W base g s1 s2 s3 s4 s5 s6) (hb : base' ≤ base) : GenR W base' g s1 s2 s3 s4 s5 s6 :=
  ⟨Kd.R_lower h.h1 hb, Kd.R_lower h.h2 hb, Kd.R_lower h.h3 hb, Kd.R_lower h.h4 hb, Kd.R_lower h.h5 hb, Kd.R_lower h.h6 hb⟩
theorem below_of_drew (w : World) : Below w.heap.size w w.drew := below_drew1 (Below.refl _ _)

theorem below_unalloc {w w1 : World} {o : Obj} (h : Below (w.alloc o).heap.size (w.alloc o) w1) : Below w.heap.size w w1 :=
  ((Below.refl w.heap.size w).alloc (Nat.le_refl _) o).trans (h.mono (by simp))
theorem below_al (w : World) (o : Obj) : Below w.heap.size w (w.alloc o) := (Below.refl w.heap.size w).alloc (Nat.le_refl _) o
/-- a Gen is stored into a block -/
abbrev put11 (W : World) (r : Nat) (u0 u1 u2 u3 u4 u5 u6 u7 u8 u9 u10 : Value) : World :=
  ((((((((((W.setCell ⟨r, 0, none⟩ u0).setCell ⟨r, 1, none⟩ u1).setCell ⟨r, 2, none⟩ u2).setCell ⟨r, 3, none⟩ u3).setCell ⟨r, 4, none⟩ u4).setCell ⟨r, 5, none⟩ u5).setCell ⟨r, 6, none⟩ u6).setCell ⟨r, 7, none⟩ u7).setCell ⟨r, 8, none⟩ u8).setCell ⟨r, 9, none⟩ u9).setCell ⟨r, 10, none⟩ u10
theorem put11_self {W : World} {r : Nat} {g g' : G} {s1 s2 s3 s4 s5 s6 : Value} (h : W.heap[r]? = some (genO g s1 s2 s3 s4 s5 s6)) (t1 t2 t3 t4 t5 t6 : Value) :
    (put11 W r (.int .u32 g'.k1) t1 t2 (.int .u32 g'.k2) t3 t4 t5 t6 (.bool g'.ls) (.int .u8 g'.su) (.int .u8 g'.wi)).heap[r]? = some (genO g' t1 t2 t3 t4 t5 t6) := by
  have b0 : (W.setCell ⟨r, 0, none⟩ (.int .u32 g'.k1)).heap[r]? = some (.cells #[.int .u32 g'.k1, s1, s2, .int .u32 g.k2, s3, s4, s5, s6, .bool g.ls, .int .u8 g.su, .int .u8 g.wi] 58) := blk_set h 0 _
  have b1 : ((W.setCell ⟨r, 0, none⟩ (.int .u32 g'.k1)).setCell ⟨r, 1, none⟩ t1).heap[r]? = some (.cells #[.int .u32 g'.k1, t1, s2, .int .u32 g.k2, s3, s4, s5, s6, .bool g.ls, .int .u8 g.su, .int .u8 g.wi] 58) := blk_set b0 1 _
  have b2 : (((W.setCell ⟨r, 0, none⟩ (.int .u32 g'.k1)).setCell ⟨r, 1, none⟩ t1).setCell ⟨r, 2, none⟩ t2).heap[r]? = some (.cells #[.int .u32 g'.k1, t1, t2, .int .u32 g.k2, s3, s4, s5, s6, .bool g.ls, .int .u8 g.su, .int .u8 g.wi] 58) := blk_set b1 2 _
  have b3 : ((((W.setCell ⟨r, 0, none⟩ (.int .u32 g'.k1)).setCell ⟨r, 1, none⟩ t1).setCell ⟨r, 2, none⟩ t2).setCell ⟨r, 3, none⟩ (.int .u32 g'.k2)).heap[r]? = some (.cells #[.int .u32 g'.k1, t1, t2, .int .u32 g'.k2, s3, s4, s5, s6, .bool g.ls, .int .u8 g.su, .int .u8 g.wi] 58) := blk_set b2 3 _
  have b4 : (((((W.setCell ⟨r, 0, none⟩ (.int .u32 g'.k1)).setCell ⟨r, 1, none⟩ t1).setCell ⟨r, 2, none⟩ t2).setCell ⟨r, 3, none⟩ (.int .u32 g'.k2)).setCell ⟨r, 4, none⟩ t3).heap[r]? = some (.cells #[.int .u32 g'.k1, t1, t2, .int .u32 g'.k2, t3, s4, s5, s6, .bool g.ls, .int .u8 g.su, .int .u8 g.wi] 58) := blk_set b3 4 _
  have b5 : ((((((W.setCell ⟨r, 0, none⟩ (.int .u32 g'.k1)).setCell ⟨r, 1, none⟩ t1).setCell ⟨r, 2, none⟩ t2).setCell ⟨r, 3, none⟩ (.int .u32 g'.k2)).setCell ⟨r, 4, none⟩ t3).setCell ⟨r, 5, none⟩ t4).heap[r]? = some (.cells #[.int .u32 g'.k1, t1, t2, .int .u32 g'.k2, t3, t4, s5, s6, .bool g.ls, .int .u8 g.su, .int .u8 g.wi] 58) := blk_set b4 5 _
  have b6 : (((((((W.setCell ⟨r, 0, none⟩ (.int .u32 g'.k1)).setCell ⟨r, 1, none⟩ t1).setCell ⟨r, 2, none⟩ t2).setCell ⟨r, 3, none⟩ (.int .u32 g'.k2)).setCell ⟨r, 4, none⟩ t3).setCell ⟨r, 5, none⟩ t4).setCell ⟨r, 6, none⟩ t5).heap[r]? = some (.cells #[.int .u32 g'.k1, t1, t2, .int .u32 g'.k2, t3, t4, t5, s6, .bool g.ls, .int .u8 g.su, .int .u8 g.wi] 58) := blk_set b5 6 _
  have b7 : ((((((((W.setCell ⟨r, 0, none⟩ (.int .u32 g'.k1)).setCell ⟨r, 1, none⟩ t1).setCell ⟨r, 2, none⟩ t2).setCell ⟨r, 3, none⟩ (.int .u32 g'.k2)).setCell ⟨r, 4, none⟩ t3).setCell ⟨r, 5, none⟩ t4).setCell ⟨r, 6, none⟩ t5).setCell ⟨r, 7, none⟩ t6).heap[r]? = some (.cells #[.int .u32 g'.k1, t1, t2, .int .u32 g'.k2, t3, t4, t5, t6, .bool g.ls, .int .u8 g.su, .int .u8 g.wi] 58) := blk_set b6 7 _
  have b8 : (((((((((W.setCell ⟨r, 0, none⟩ (.int .u32 g'.k1)).setCell ⟨r, 1, none⟩ t1).setCell ⟨r, 2, none⟩ t2).setCell ⟨r, 3, none⟩ (.int .u32 g'.k2)).setCell ⟨r, 4, none⟩ t3).setCell ⟨r, 5, none⟩ t4).setCell ⟨r, 6, none⟩ t5).setCell ⟨r, 7, none⟩ t6).setCell ⟨r, 8, none⟩ (.bool g'.ls)).heap[r]? = some (.cells #[.int .u32 g'.k1, t1, t2, .int .u32 g'.k2, t3, t4, t5, t6, .bool g'.ls, .int .u8 g.su, .int .u8 g.wi] 58) := blk_set b7 8 _
  have b9 : ((((((((((W.setCell ⟨r, 0, none⟩ (.int .u32 g'.k1)).setCell ⟨r, 1, none⟩ t1).setCell ⟨r, 2, none⟩ t2).setCell ⟨r, 3, none⟩ (.int .u32 g'.k2)).setCell ⟨r, 4, none⟩ t3).setCell ⟨r, 5, none⟩ t4).setCell ⟨r, 6, none⟩ t5).setCell ⟨r, 7, none⟩ t6).setCell ⟨r, 8, none⟩ (.bool g'.ls)).setCell ⟨r, 9, none⟩ (.int .u8 g'.su)).heap[r]? = some (.cells #[.int .u32 g'.k1, t1, t2, .int .u32 g'.k2, t3, t4, t5, t6, .bool g'.ls, .int .u8 g'.su, .int .u8 g.wi] 58) := blk_set b8 9 _
  have b10 : (((((((((((W.setCell ⟨r, 0, none⟩ (.int .u32 g'.k1)).setCell ⟨r, 1, none⟩ t1).setCell ⟨r, 2, none⟩ t2).setCell ⟨r, 3, none⟩ (.int .u32 g'.k2)).setCell ⟨r, 4, none⟩ t3).setCell ⟨r, 5, none⟩ t4).setCell ⟨r, 6, none⟩ t5).setCell ⟨r, 7, none⟩ t6).setCell ⟨r, 8, none⟩ (.bool g'.ls)).setCell ⟨r, 9, none⟩ (.int .u8 g'.su)).setCell ⟨r, 10, none⟩ (.int .u8 g'.wi)).heap[r]? = some (.cells #[.int .u32 g'.k1, t1, t2, .int .u32 g'.k2, t3, t4, t5, t6, .bool g'.ls, .int .u8 g'.su, .int .u8 g'.wi] 58) := blk_set b9 10 _
  exact b10
theorem put11_below {B : Nat} {w W : World} {r : Nat} (h : Below B w W) (hr : B ≤ r) (u0 u1 u2 u3 u4 u5 u6 u7 u8 u9 u10 : Value) : Below B w (put11 W r u0 u1 u2 u3 u4 u5 u6 u7 u8 u9 u10) :=
  ((((((((((h.setCell (p := ⟨r, 0, none⟩) hr u0).setCell (p := ⟨r, 1, none⟩) hr u1).setCell (p := ⟨r, 2, none⟩) hr u2).setCell (p := ⟨r, 3, none⟩) hr u3).setCell (p := ⟨r, 4, none⟩) hr u4).setCell (p := ⟨r, 5, none⟩) hr u5).setCell (p := ⟨r, 6, none⟩) hr u6).setCell (p := ⟨r, 7, none⟩) hr u7).setCell (p := ⟨r, 8, none⟩) hr u8).setCell (p := ⟨r, 9, none⟩) hr u9).setCell (p := ⟨r, 10, none⟩) hr u10
theorem put11_far {W : World} {r b : Nat} {o : Obj} (h : W.heap[b]? = some o) (hne : b ≠ r) (u0 u1 u2 u3 u4 u5 u6 u7 u8 u9 u10 : Value) : (put11 W r u0 u1 u2 u3 u4 u5 u6 u7 u8 u9 u10).heap[b]? = some o := by
  rw [Below.heap_setCell _ _ _ _ hne, Below.heap_setCell _ _ _ _ hne, Below.heap_setCell _ _ _ _ hne, Below.heap_setCell _ _ _ _ hne, Below.heap_setCell _ _ _ _ hne, Below.heap_setCell _ _ _ _ hne, Below.heap_setCell _ _ _ _ hne, Below.heap_setCell _ _ _ _ hne, Below.heap_setCell _ _ _ _ hne, Below.heap_setCell _ _ _ _ hne, Below.heap_setCell _ _ _ _ hne]
  exact h
/-- a row stays, where a cell of a block of another type is written -/
theorem row_set {α : Type} {d : Kd α} {e : Nat} {W : World} {base : Nat} {v : Value} {l : List α} (h : RowR d e W base v l) {r t : Nat} {cs : Array Value} (hb : W.heap[r]? = some (.cells cs t)) (ht : ∀ q, q ∈ e :: d.E → q ≠ t) (j : Nat) (u : Value) :
    RowR d e (W.setCell ⟨r, j, none⟩ u) base v l := Kd.R_set h hb ht j u
theorem rows_set {W : World} {base : Nat} {g : G} {t1 t2 t3 t4 t5 t6 : Value} (h : GenR W base g t1 t2 t3 t4 t5 t6) {r t : Nat} {cs : Array Value} (hb : W.heap[r]? = some (.cells cs t))
    (ht : t = 58 ∨ t = 56) (j : Nat) (u : Value) : GenR (W.setCell ⟨r, j, none⟩ u) base g t1 t2 t3 t4 t5 t6 := by
  rcases ht with rfl | rfl
  · exact ⟨row_set h.h1 hb (by decide) j u, row_set h.h2 hb (by decide) j u, row_set h.h3 hb (by decide) j u, row_set h.h4 hb (by decide) j u, row_set h.h5 hb (by decide) j u, row_set h.h6 hb (by decide) j u⟩
  · exact ⟨row_set h.h1 hb (by decide) j u, row_set h.h2 hb (by decide) j u, row_set h.h3 hb (by decide) j u, row_set h.h4 hb (by decide) j u, row_set h.h5 hb (by decide) j u, row_set h.h6 hb (by decide) j u⟩
theorem put11_rows {W : World} {base : Nat} {g : G} {t1 t2 t3 t4 t5 t6 : Value} (h : GenR W base g t1 t2 t3 t4 t5 t6) {r : Nat} {cs : Array Value} (hb : W.heap[r]? = some (.cells cs 58)) (u0 u1 u2 u3 u4 u5 u6 u7 u8 u9 u10 : Value) :
    GenR (put11 W r u0 u1 u2 u3 u4 u5 u6 u7 u8 u9 u10) base g t1 t2 t3 t4 t5 t6 := by
  have b1 := blk_set hb 0 u0
  have b2 := blk_set b1 1 u1
  have b3 := blk_set b2 2 u2
  have b4 := blk_set b3 3 u3
  have b5 := blk_set b4 4 u4
  have b6 := blk_set b5 5 u5
  have b7 := blk_set b6 6 u6
  have b8 := blk_set b7 7 u7
  have b9 := blk_set b8 8 u8
  have b10 := blk_set b9 9 u9
  exact rows_set (rows_set (rows_set (rows_set (rows_set (rows_set (rows_set (rows_set (rows_set (rows_set (rows_set h hb (.inl rfl) 0 u0) b1 (.inl rfl) 1 u1) b2 (.inl rfl) 2 u2) b3 (.inl rfl) 3 u3) b4 (.inl rfl) 4 u4) b5 (.inl rfl) 5 u5) b6 (.inl rfl) 6 u6) b7 (.inl rfl) 7 u7) b8 (.inl rfl) 8 u8) b9 (.inl rfl) 9 u9) b10 (.inl rfl) 10 u10

/-- a block that holds a Gen, by its values -/
abbrev rawO (k1 : Int) (s1 s2 : Value) (k2 : Int) (s3 s4 s5 s6 : Value) (b : Bool) (x y : Int) : Obj := .cells #[.int .u32 k1, s1, s2, .int .u32 k2, s3, s4, s5, s6, .bool b, .int .u8 x, .int .u8 y] 58
abbrev halfO (k : Int) (s t : Value) : Obj := .cells #[.int .u32 k, s, t] 56
/-- three cells are written -/
abbrev put3 (W : World) (r j : Nat) (u0 u1 u2 : Value) : World := ((W.setCell ⟨r, j, none⟩ u0).setCell ⟨r, j + 1, none⟩ u1).setCell ⟨r, j + 2, none⟩ u2
theorem heldR {W : World} {p : Nat} {k1 : Int} {s1 s2 : Value} {k2 : Int} {s3 s4 s5 s6 : Value} {b : Bool} {x y : Int} (h : W.heap[p]? = some (rawO k1 s1 s2 k2 s3 s4 s5 s6 b x y)) : W.cell? ⟨p, 0, none⟩ = some (.int .u32 k1) ∧ W.cell? ⟨p, 1, none⟩ = some s1 ∧ W.cell? ⟨p, 2, none⟩ = some s2 ∧
    W.cell? ⟨p, 3, none⟩ = some (.int .u32 k2) ∧ W.cell? ⟨p, 4, none⟩ = some s3 ∧ W.cell? ⟨p, 5, none⟩ = some s4 ∧ W.cell? ⟨p, 6, none⟩ = some s5 ∧
    W.cell? ⟨p, 7, none⟩ = some s6 ∧ W.cell? ⟨p, 8, none⟩ = some (.bool b) ∧ W.cell? ⟨p, 9, none⟩ = some (.int .u8 x) ∧ W.cell? ⟨p, 10, none⟩ = some (.int .u8 y) :=
  ⟨blk_cell h 0, blk_cell h 1, blk_cell h 2, blk_cell h 3, blk_cell h 4, blk_cell h 5, blk_cell h 6, blk_cell h 7, blk_cell h 8, blk_cell h 9, blk_cell h 10⟩
theorem put3_0 {W : World} {r : Nat} {k1 : Int} {s1 s2 : Value} {k2 : Int} {s3 s4 s5 s6 : Value} {b : Bool} {x y : Int} (h : W.heap[r]? = some (rawO k1 s1 s2 k2 s3 s4 s5 s6 b x y)) (k : Int) (u v : Value) :
    (put3 W r 0 (.int .u32 k) u v).heap[r]? = some (rawO k u v k2 s3 s4 s5 s6 b x y) := by
  have b0 : (W.setCell ⟨r, 0, none⟩ (.int .u32 k)).heap[r]? = some (rawO k s1 s2 k2 s3 s4 s5 s6 b x y) := blk_set h 0 _
  have b1 : ((W.setCell ⟨r, 0, none⟩ (.int .u32 k)).setCell ⟨r, 0 + 1, none⟩ u).heap[r]? = some (rawO k u s2 k2 s3 s4 s5 s6 b x y) := blk_set b0 1 _
  exact blk_set b1 2 _
theorem put3_3 {W : World} {r : Nat} {k1 : Int} {s1 s2 : Value} {k2 : Int} {s3 s4 s5 s6 : Value} {b : Bool} {x y : Int} (h : W.heap[r]? = some (rawO k1 s1 s2 k2 s3 s4 s5 s6 b x y)) (k : Int) (u v : Value) :
    (put3 W r 3 (.int .u32 k) u v).heap[r]? = some (rawO k1 s1 s2 k u v s5 s6 b x y) := by
  have b0 : (W.setCell ⟨r, 3, none⟩ (.int .u32 k)).heap[r]? = some (rawO k1 s1 s2 k s3 s4 s5 s6 b x y) := blk_set h 3 _
  have b1 : ((W.setCell ⟨r, 3, none⟩ (.int .u32 k)).setCell ⟨r, 3 + 1, none⟩ u).heap[r]? = some (rawO k1 s1 s2 k u s4 s5 s6 b x y) := blk_set b0 4 _
  exact blk_set b1 5 _
theorem put1_6 {W : World} {r : Nat} {k1 : Int} {s1 s2 : Value} {k2 : Int} {s3 s4 s5 s6 : Value} {b : Bool} {x y : Int} (h : W.heap[r]? = some (rawO k1 s1 s2 k2 s3 s4 s5 s6 b x y)) (u : Value) :
    (W.setCell ⟨r, 6, none⟩ u).heap[r]? = some (rawO k1 s1 s2 k2 s3 s4 u s6 b x y) := blk_set h 6 _
theorem put1_7 {W : World} {r : Nat} {k1 : Int} {s1 s2 : Value} {k2 : Int} {s3 s4 s5 s6 : Value} {b : Bool} {x y : Int} (h : W.heap[r]? = some (rawO k1 s1 s2 k2 s3 s4 s5 s6 b x y)) (u : Value) :
    (W.setCell ⟨r, 7, none⟩ u).heap[r]? = some (rawO k1 s1 s2 k2 s3 s4 s5 u b x y) := blk_set h 7 _
theorem half_2 {W : World} {r : Nat} {k : Int} {s t : Value} (h : W.heap[r]? = some (halfO k s t)) (u : Value) : (W.setCell ⟨r, 2, none⟩ u).heap[r]? = some (halfO k s u) := blk_set h 2 _
theorem set_far {W : World} {r b : Nat} {o : Obj} (h : W.heap[b]? = some o) (hne : b ≠ r) (j : Nat) (u : Value) : (W.setCell ⟨r, j, none⟩ u).heap[b]? = some o := by
  rw [Below.heap_setCell _ _ _ _ hne]; exact h
theorem put3_far {W : World} {r b : Nat} {o : Obj} (h : W.heap[b]? = some o) (hne : b ≠ r) (j : Nat) (u0 u1 u2 : Value) : (put3 W r j u0 u1 u2).heap[b]? = some o := set_far (set_far (set_far h hne _ _) hne _ _) hne _ _
theorem set_below {B : Nat} {w W : World} {r : Nat} (h : Below B w W) (hr : B ≤ r) (j : Nat) (u : Value) : Below B w (W.setCell ⟨r, j, none⟩ u) := h.setCell (p := ⟨r, j, none⟩) hr u
theorem put3_below {B : Nat} {w W : World} {r : Nat} (h : Below B w W) (hr : B ≤ r) (j : Nat) (u0 u1 u2 : Value) : Below B w (put3 W r j u0 u1 u2) := set_below (set_below (set_below h hr _ _) hr _ _) hr _ _
theorem put3_row {α : Type} {d : Kd α} {e : Nat} {W : World} {base : Nat} {v : Value} {l : List α} (h : RowR d e W base v l) {r t : Nat} {cs : Array Value} (hb : W.heap[r]? = some (.cells cs t)) (ht : ∀ q, q ∈ e :: d.E → q ≠ t) (j : Nat) (u0 u1 u2 : Value) :
    RowR d e (put3 W r j u0 u1 u2) base v l := row_set (row_set (row_set h hb ht _ _) (blk_set hb _ _) ht _ _) (blk_set (blk_set hb _ _) _ _) ht _ _
theorem put3_rows {W : World} {base : Nat} {g : G} {t1 t2 t3 t4 t5 t6 : Value} (h : GenR W base g t1 t2 t3 t4 t5 t6) {r t : Nat} {cs : Array Value} (hb : W.heap[r]? = some (.cells cs t))
    (ht : t = 58 ∨ t = 56) (j : Nat) (u0 u1 u2 : Value) : GenR (put3 W r j u0 u1 u2) base g t1 t2 t3 t4 t5 t6 :=
  rows_set (rows_set (rows_set h hb ht _ _) (blk_set hb _ _) ht _ _) (blk_set (blk_set hb _ _) _ _) ht _ _
end Go.Proofs.Ytpanefmemabckaa.GenBlk
namespace Go.Proofs.Ytpanefmemabckaa.GenPure
open Go.RowKit Go.Proofs.Ytpanefmemabckaa.NumA Go.Proofs.Ytpanefmemabckaa.GenS Go.Proofs.Ytpanefmemabckaa.GenRep Go.Proofs.Ytpanefmemabckaa.Bytes Go.Proofs.YtpanefmemabckaaW.PrintWords Go.Proofs.YtpanefmemabckaaW.PrintLast

/-- bytes -/
def BytesOk (l : List Int) : Prop := ∀ x ∈ l, (Lit.int .u8 x).wf = true
theorem str_same {l m : List Int} (hl : BytesOk l) (hm : BytesOk m) : ((strOfNums l).toList == (strOfNums m).toList) = decide (l = m) := by
  obtain ⟨l, rfl, h1⟩ := bytes_of hl
  obtain ⟨m, rfl, h2⟩ := bytes_of hm
  rw [str_eq h1 h2]
  by_cases h : l = m
  · rw [decide_eq_true h, decide_eq_true (by rw [h])]
  · rw [decide_eq_false h, decide_eq_false (fun e => h (ofN_inj e))]
theorem seen_l0 (l m : List S111) (hlen : l.length = m.length) (hm : l.length ≤ 1000000) (d : Nat) : ∀ (k i : Nat), d < k → i + d = l.length → ∃ b, cardexref20_Same.l0 k l m i = some b ∧ (b = true ↔ l.drop i = m.drop i) := by
  induction d with
  | zero =>
    intro k i hk hi
    cases k with
    | zero => omega
    | succ k =>
      rw [cardexref20_Same.l0, if_neg (by omega)]
      refine ⟨true, rfl, fun _ => ?_, fun _ => rfl⟩
      rw [List.drop_eq_nil_of_le (by omega), List.drop_eq_nil_of_le (by omega)]
  | succ d ih =>
    intro k i hk hi
    cases k with
    | zero => omega
    | succ k =>
      have h1 : i < l.length := by omega
      have h2 : i < m.length := by omega
      rw [cardexref20_Same.l0, if_pos (by omega), if_pos (by omega), if_pos (by omega)]
      have e1 : rd_T111 l i = l[i] := by simp [rd_T111, h1]
      have e2 : rd_T111 m i = m[i] := by simp [rd_T111, h2]
      rw [e1, e2, List.drop_eq_getElem_cons h1, List.drop_eq_getElem_cons h2]
      obtain ⟨b, hb, hbi⟩ := ih k (i + 1) (by omega) (by omega)
      have ew : wrap64 ((i : Int) + 1) = ((i + 1 : Nat) : Int) := by unfold wrap64; omega
      split
      · next h =>
        refine ⟨false, rfl, (fun e => by cases e), fun e => ?_⟩
        injection e with e _
        rw [e] at h
        simp at h
      · next h =>
        rw [ew]
        refine ⟨b, hb, ?_⟩
        rw [hbi]
        have he : l[i] = m[i] := by
          cases hx : l[i] with
          | mk a1 a2 =>
            cases hy : m[i] with
            | mk b1 b2 =>
              rw [hx, hy] at h
              simp at h
              rw [h.1, h.2]
        rw [he]
        exact ⟨fun e => by rw [e], fun e => (List.cons.inj e).2⟩
theorem seen_same (l m : List S111) (hm : l.length ≤ 1000000) (k : Nat) (hk : l.length < k) : ∃ b, cardexref20_Same.f k l m = some b ∧ (b = true ↔ l = m) := by
  unfold cardexref20_Same.f
  by_cases h : l.length = m.length
  · rw [if_pos (by omega)]
    exact seen_l0 l m h hm l.length k 0 hk (by omega)
  · rw [if_neg (by omega)]
    exact ⟨false, rfl, (fun e => by cases e), fun e => absurd (by rw [e]) h⟩
theorem clients_l0 (l m : List S114) (hlen : l.length = m.length) (hm : l.length ≤ 1000000) (d : Nat) : ∀ (k i : Nat), d < k → i + d = l.length → ∃ b, cardexref22_sameClients.l0 k l m i = some b ∧ (b = true ↔ l.drop i = m.drop i) := by
  induction d with
  | zero =>
    intro k i hk hi
    cases k with
    | zero => omega
    | succ k =>
      rw [cardexref22_sameClients.l0, if_neg (by omega)]
      refine ⟨true, rfl, fun _ => ?_, fun _ => rfl⟩
      rw [List.drop_eq_nil_of_le (by omega), List.drop_eq_nil_of_le (by omega)]
  | succ d ih =>
    intro k i hk hi
    cases k with
    | zero => omega
    | succ k =>
      have h1 : i < l.length := by omega
      have h2 : i < m.length := by omega
      rw [cardexref22_sameClients.l0, if_pos (by omega), if_pos (by omega), if_pos (by omega)]
      have e1 : rd_T114 l i = l[i] := by simp [rd_T114, h1]
      have e2 : rd_T114 m i = m[i] := by simp [rd_T114, h2]
      rw [e1, e2, List.drop_eq_getElem_cons h1, List.drop_eq_getElem_cons h2]
      obtain ⟨b, hb, hbi⟩ := ih k (i + 1) (by omega) (by omega)
      have ew : wrap64 ((i : Int) + 1) = ((i + 1 : Nat) : Int) := by unfold wrap64; omega
      split
      · next h =>
        refine ⟨false, rfl, (fun e => by cases e), fun e => ?_⟩
        injection e with e _
        rw [e] at h
        simp at h
      · next h =>
        rw [ew]
        refine ⟨b, hb, ?_⟩
        rw [hbi]
        have he : l[i] = m[i] := by
          cases hx : l[i] with
          | mk a1 a2 a3 =>
            cases hy : m[i] with
            | mk b1 b2 b3 =>
              rw [hx, hy] at h
              simp at h
              rw [h.1, h.2.1, h.2.2]
        rw [he]
        exact ⟨fun e => by rw [e], fun e => (List.cons.inj e).2⟩
theorem clients_same (l m : List S114) (hm : l.length ≤ 1000000) (k : Nat) (hk : l.length < k) : ∃ b, cardexref22_sameClients.f k l m = some b ∧ (b = true ↔ l = m) := by
  unfold cardexref22_sameClients.f
  by_cases h : l.length = m.length
  · rw [if_pos (by omega)]
    exact clients_l0 l m h hm l.length k 0 hk (by omega)
  · rw [if_neg (by omega)]
    exact ⟨false, rfl, (fun e => by cases e), fun e => absurd (by rw [e]) h⟩

/-- are two Gens the same -/
noncomputable def sameB (g h : G) : Bool := @decide (g = h) (Classical.propDecidable _)
theorem sameB_iff (g h : G) : sameB g h = true ↔ g = h := by unfold sameB; simp
/-- the numbers are as wide as their types -/
def okS (x : S111) : Prop := (0 ≤ x.f0 ∧ x.f0 < 4294967296) ∧ (0 ≤ x.f1 ∧ x.f1 < 18446744073709551616)
def okC (x : S114) : Prop := (0 ≤ x.f0 ∧ x.f0 < 4294967296) ∧ (0 ≤ x.f1 ∧ x.f1 < 4294967296) ∧ (0 ≤ x.f2 ∧ x.f2 < 18446744073709551616)
structure GenW (g : G) : Prop where
  k1 : 0 ≤ g.k1 ∧ g.k1 < 4294967296
  v1 : ∀ x ∈ g.v1, okS x
  c1 : ∀ x ∈ g.c1, okC x
  k2 : 0 ≤ g.k2 ∧ g.k2 < 4294967296
  v2 : ∀ x ∈ g.v2, okS x
  c2 : ∀ x ∈ g.c2, okC x
  su : 0 ≤ g.su ∧ g.su < 256
  wi : 0 ≤ g.wi ∧ g.wi < 256
/-- the bytes of a Gen are bytes -/
def GenB (g : G) : Prop := BytesOk g.rq ∧ BytesOk g.rp
end Go.Proofs.Ytpanefmemabckaa.GenPure
namespace Go.Proofs.Ytpanefmemabckaa.GenCalls
open Go.RowKit Go.Proofs.Ytpanefmemabckaa.NumA Go.Proofs.Ytpanefmemabckaa.GenS Go.Proofs.Ytpanefmemabckaa.GenRep Go.Proofs.Ytpanefmemabckaa.GenBlk Go.Proofs.Ytpanefmemabckaa.GenPure Go.Proofs.Ytpanefmemabckaa.Bytes Go.Proofs.YtpanefmemabckaaW.PrintWords Go.Proofs.YtpanefmemabckaaW.PrintLast

/-- is a Gen greater than a law asks of -/
def greatB (g : G) : Bool := decide (400 < g.v1.length + g.v2.length) || (decide (300 < g.c1.length + g.c2.length) || decide (40000 < g.rq.length + g.rp.length))
theorem great_l {g : G} (h : greatB g = false) : GenL g 400000 := by
  unfold greatB at h
  simp only [Bool.or_eq_false_iff, decide_eq_false_iff_not] at h
  exact ⟨by omega, by omega, by omega, by omega, by omega, by omega⟩
theorem great_calls {w : World} {g : G} {s1 s2 s3 s4 s5 s6 : Value} (hg : GenC w g s1 s2 s3 s4 s5 s6) (hl : GenL g 140737488351232) :
    Calls Try.prog 33 #[genV g s1 s2 s3 s4 s5 s6] w fun e w' => e = .returned (.bool (greatB g)) ∧ Below w.heap.size w w' := by
  obtain ⟨⟨A1, c1, rfl, l1, r1⟩, ⟨A2, c2, rfl, l2, r2⟩, ⟨A3, c3, rfl, l3, r3⟩, ⟨A4, c4, rfl, l4, r4⟩, ⟨A5, c5, rfl, l5, r5⟩, ⟨A6, c6, rfl, l6, r6⟩⟩ := hg
  refine cardexlaw22_great.calls g.k1 A1 c1 g.v1 A2 c2 g.c1 g.k2 A3 c3 g.v2 A4 c4 g.c2 A5 c5 g.rq A6 c6 g.rp g.ls g.su g.wi _ w r1 l1 r2 l2 r3 l3 r4 l4 r5 l5 r6 l6 ?_
  have h1 := hl.h1
  have h2 := hl.h2
  have h3 := hl.h3
  have h4 := hl.h4
  have h5 := hl.h5
  have h6 := hl.h6
  unfold cardexlaw22_great.f greatB
  have e1 : wrap64 ((g.v1.length : Int) + g.v2.length) = ((g.v1.length + g.v2.length : Nat) : Int) := by unfold wrap64; omega
  have e2 : wrap64 ((g.c1.length : Int) + g.c2.length) = ((g.c1.length + g.c2.length : Nat) : Int) := by unfold wrap64; omega
  have e3 : wrap64 ((g.rq.length : Int) + g.rp.length) = ((g.rq.length + g.rp.length : Nat) : Int) := by unfold wrap64; omega
  rw [e1, e2, e3]
  clear e1 e2 e3
  by_cases x1 : 400 < g.v1.length + g.v2.length
  · rw [if_pos (by omega), decide_eq_true x1]; rfl
  · rw [if_neg (by omega), decide_eq_false x1]
    by_cases x2 : 300 < g.c1.length + g.c2.length
    · rw [if_pos (by omega), decide_eq_true x2]; rfl
    · rw [if_neg (by omega), decide_eq_false x2]
      by_cases x3 : 40000 < g.rq.length + g.rp.length
      · rw [decide_eq_true x3, decide_eq_true (by omega)]; rfl
      · rw [decide_eq_false x3, decide_eq_false (by omega)]; rfl
/-- what the document tells of -/
abbrev G5 : G := ⟨7, [], [], 5, [], [], [170], [], false, 0, 0⟩
theorem five_calls (w : World) : Calls Try.prog 63 #[] w fun e w' => ∃ s1 s2 s3 s4 s5 s6, e = .returned (genV G5 s1 s2 s3 s4 s5 s6) ∧ GenC w' G5 s1 s2 s3 s4 s5 s6 ∧ Below w.heap.size w w' :=
  (cardexlaw22_five.calls _ _ _ _ _ _ _ _ _ _ _ w rfl).mono fun _ _ ⟨_, _, _, _, _, _, e, h1, h2, h3, h4, h5, h6, hb⟩ => ⟨_, _, _, _, _, _, e, ⟨RowC.of h1, RowC.of h2, RowC.of h3, RowC.of h4, RowC.of h5, RowC.of h6⟩, hb⟩
/-- how a key is met -/
def howP (g : G) (key : Int) (rq : List Int) : Int :=
  if key = g.k1 ∧ key ≠ 0 then 2 else if key = g.k2 ∧ g.k1 ≠ 0 ∧ rq = g.rq then 3 else if key = 0 then 1 else if key = g.k2 then 4 else 0
theorem how_f (g : G) (key : Int) (rq : List Int) (bg : GenB g) (bq : BytesOk rq) : gen_How.f 9 g.k1 g.v1 g.c1 g.k2 g.v2 g.c2 g.rq g.rp g.ls g.su g.wi key rq = some (howP g key rq) := by
  have he : bytes_Equal.f rq g.rq = some (decide (rq = g.rq)) := congrArg some (str_same bq bg.1)
  unfold gen_How.f howP
  have hj1 : ∀ (b : Bool), gen_How.j1 8 key b g.k1 g.v1 g.c1 g.k2 g.v2 g.c2 g.rq g.rp g.ls g.su g.wi = some (if b = true then 3 else if key = 0 then 1 else if key = g.k2 then 4 else 0) := by
    intro b
    rw [gen_How.j1]
    cases b
    · simp only [Bool.false_eq_true, if_false]
      split
      · rfl
      · split <;> rfl
    · rfl
  have hj0 : ∀ (b : Bool), gen_How.j0 9 key rq b g.k1 g.v1 g.c1 g.k2 g.v2 g.c2 g.rq g.rp g.ls g.su g.wi = some (if b = true then 2 else if key = g.k2 ∧ g.k1 ≠ 0 ∧ rq = g.rq then 3 else if key = 0 then 1 else if key = g.k2 then 4 else 0) := by
    intro b
    rw [gen_How.j0]
    cases b
    · simp only [Bool.false_eq_true, if_false]
      by_cases h1 : key = g.k2
      · by_cases h2 : g.k1 = 0
        · simp only [if_pos h1, if_pos h2, hj1, Bool.false_eq_true, if_false, if_neg (show ¬ (key = g.k2 ∧ g.k1 ≠ 0 ∧ rq = g.rq) from fun h => h.2.1 h2)]
        · by_cases h3 : rq = g.rq
          · simp only [if_pos h1, if_neg h2, he, decide_eq_true h3, Option.bind_some, hj1, if_true, if_pos (show key = g.k2 ∧ g.k1 ≠ 0 ∧ rq = g.rq from ⟨h1, h2, h3⟩)]
          · simp only [if_pos h1, if_neg h2, he, decide_eq_false h3, Option.bind_some, hj1, Bool.false_eq_true, if_false, if_neg (show ¬ (key = g.k2 ∧ g.k1 ≠ 0 ∧ rq = g.rq) from fun h => h3 h.2.2)]
      · simp only [if_neg h1, hj1, Bool.false_eq_true, if_false, if_neg (show ¬ (key = g.k2 ∧ g.k1 ≠ 0 ∧ rq = g.rq) from fun h => h1 h.1)]
    · simp only [if_true]
  by_cases h1 : key = g.k1
  · by_cases h0 : key = 0
    · have hb : (key != 0) = false := by simp [h0]
      simp only [if_pos h1, hb, hj0, Bool.false_eq_true, if_false, if_neg (show ¬ (key = g.k1 ∧ key ≠ 0) from fun h => h.2 h0)]
    · have hb : (key != 0) = true := by simpa using h0
      simp only [if_pos h1, hb, hj0, if_true, if_pos (show key = g.k1 ∧ key ≠ 0 from ⟨h1, h0⟩)]
  · simp only [if_neg h1, hj0, Bool.false_eq_true, if_false, if_neg (show ¬ (key = g.k1 ∧ key ≠ 0) from fun h => h1 h.1)]
theorem how_calls {w : World} {g : G} {s1 s2 s3 s4 s5 s6 sq : Value} {key : Int} {rq : List Int} (hg : GenC w g s1 s2 s3 s4 s5 s6) (hq : RowC kB w sq rq) (bg : GenB g) (bq : BytesOk rq) :
    Calls Try.prog 64 #[genV g s1 s2 s3 s4 s5 s6, .int .u32 key, sq] w fun e w' => e = .returned (.int .u8 (howP g key rq)) ∧ Below w.heap.size w w' := by
  obtain ⟨⟨A1, c1, rfl, l1, r1⟩, ⟨A2, c2, rfl, l2, r2⟩, ⟨A3, c3, rfl, l3, r3⟩, ⟨A4, c4, rfl, l4, r4⟩, ⟨A5, c5, rfl, l5, r5⟩, ⟨A6, c6, rfl, l6, r6⟩⟩ := hg
  obtain ⟨B1, d1, rfl, m1, q1⟩ := hq
  exact gen_How.calls 9 g.k1 A1 c1 g.v1 A2 c2 g.c1 g.k2 A3 c3 g.v2 A4 c4 g.c2 A5 c5 g.rq A6 c6 g.rp g.ls g.su g.wi key B1 d1 rq _ w r1 l1 r2 l2 r3 l3 r4 l4 r5 l5 r6 l6 q1 m1 (how_f g key rq bg bq)
end Go.Proofs.Ytpanefmemabckaa.GenCalls
