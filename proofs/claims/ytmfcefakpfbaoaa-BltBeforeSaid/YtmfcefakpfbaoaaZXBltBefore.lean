/- Further lemmas for the statement BltBefore: merged by wip/extra.py. -/
import Derived.Test.YtmfcefakpfbaoaaZBmV
import Derived.Test.YtmfcefakpfbaoaaZBmT
import Derived.Shelf.Small.Utf8
import Derived.Shelf.Small.Bits
import Derived.Shelf.Small.Strs
import Derived.Shelf.Small.Wraps
import Derived.Shelf.Strconv.Itoa0
import Derived.Shelf.Strings.Search1
import Derived.Shelf.Sort.Plain
import Derived.Shelf.Strings.Runes
import Derived.Shelf.Bits.Mul64
import Derived.Shelf.Slices.Turned
import Derived.Shelf.Slices.Reverse
import Derived.Ground.Names2Prog
import Derived.Shelf.Slices.Clone
import Derived.Shelf.Slices.SearchI
import Derived.Shelf.Slices.Cells
import Derived.Shelf.Slices.In.SortNone
import Derived.Ground.SlgnProg
import Derived.Shelf.SlicesE.Clone
section
namespace Go.Proofs
open Go.Shelf
def Try.lays107_ren : Go.Shelf.Ren := ⟨fun | 107 => 45 | 108 => 38 | n => n, fun | 28 => 31 | 3 => 3 | 4 => 4 | 0 => 0 | n => n, fun | n => n⟩
def Try.lays112_ren : Go.Shelf.Ren := ⟨fun | 112 => 39 | n => n, fun | 28 => 31 | 3 => 3 | 4 => 4 | 0 => 0 | n => n, fun | n => n⟩
theorem Try.lays112 : Go.Proofs.Lays.n112 Try.prog Try.lays112_ren := {
  mixed := by kernel_rfl
  f112 := Try.func39.trans (congrArg some (by kernel_rfl))
  t0 := Try.underlying0
  a0 := Try.isAgg0
  z0 := Try.sizeOf0
  v0 := Try.zeroValue0
  t3 := Try.underlying3
  a3 := Try.isAgg3
  z3 := Try.sizeOf3
  v3 := Try.zeroValue3
  t4 := Try.underlying4
  a4 := Try.isAgg4
  z4 := Try.sizeOf4
  v4 := Try.zeroValue4
  t28 := Try.underlying31
  a28 := Try.isAgg31
  z28 := Try.sizeOf31
  v28 := Try.zeroValue31 }
open Go.RowKit Go.Lib Go.Sort in
theorem Try.slices_Reverse_int (blk off cap : Nat) (zs : List Int) (w : World) (hH : Holds (Value.int .i64) w blk off zs.toArray) (hsz : zs.length ≤ 9223372036854775807) :
    Calls Try.prog 39 #[.slice (some ⟨blk, off, none⟩) zs.length cap] w fun e w' => e = .returned (.tuple #[]) ∧ ∃ n, w' = putRow (Value.int .i64) (Sort.ahead w n) blk off zs.reverse.toArray := Any.slices_Reverse_int Try.lays112 blk off cap zs w hH hsz
open Go.RowKit Go.Lib Go.Sort in
theorem Try.slices_Reverse_int_empty (a : Option Addr) (cap : Nat) (w : World) :
    Calls Try.prog 39 #[.slice a 0 cap] w fun e w' => e = .returned (.tuple #[]) ∧ w' = w := Any.slices_Reverse_int_empty Try.lays112 a cap w
end Go.Proofs
end
section
set_option linter.unusedVariables false
set_option linter.unusedSimpArgs false
namespace Go.Proofs.Ytmfcefakpfbaoaa.PMatch
open Go.RowKit Go.Proofs.YtmfcefakpfbaoaaW.PrintWords Go.Proofs.YtmfcefakpfbaoaaW.PrintLast Go.Proofs.YtmfcefakpfbaoaaW.PrintMore
open Blt (ints blocks0 blocksB needsB seqB posL ofB ofBL)
theorem c_Reverse {w : World} {base : Nat} {ok : Nat → Prop} {v : Value} {xs : List Int} (h : Kd.R (Kd.int .i64) 3 w base ok v xs) (hl : xs.length < 4611686018427387904) :
    Calls Try.prog 39 #[v] w fun e w' => e = .returned (.tuple #[]) ∧ Kd.R (Kd.int .i64) 3 w' base ok v xs.reverse ∧ w.grownBy w' v.ownBlock := by
  have hown := Kd.own_of_R (enc := Value.int .i64) (h1 := fun _ => rfl) h
  have hok := h.1
  rcases hown.2 with ⟨rfl, h0⟩ | ⟨g, cap, cur, rfl, hg, hb, h1, h2, h3, h4⟩
  · obtain rfl := List.length_eq_zero_iff.1 h0
    refine (Try.slices_Reverse_int_empty none 0 w).mono ?_
    rintro e w' ⟨rfl, rfl⟩
    exact ⟨rfl, by simpa using h, grown_of_below (Below.refl _ _) _⟩
  · have h4' : cur.toList.take xs.length = xs.map (Value.int .i64) := by simpa [encs] using h4
    refine (Try.slices_Reverse_int g 0 cap xs w (holds_of_blockI hb h4') (by omega)).mono ?_
    rintro e w' ⟨rfl, nn, rfl⟩
    have hlen : xs.reverse.length = xs.length := List.length_reverse
    have hg0 : Sort.grow (Sort.putRow (Value.int .i64) (Sort.ahead w nn) g 0 xs.reverse.toArray) #[] = Sort.putRow (Value.int .i64) (Sort.ahead w nn) g 0 xs.reverse.toArray := Sort.grow_empty _
    have hr := ownsRow_sortedI (n := nn) (os := #[]) (ss := xs) (ts := xs.reverse) hlen hg hb h1 h2 (by simpa using h3)
    rw [hg0] at hr
    refine ⟨rfl, Kd.R_of_own (enc := Value.int .i64) (h1 := fun _ => rfl) ?_ hok, by rw [← hg0]; exact grownBy_sortedI _⟩
    rw [hlen]
    exact hr
theorem of_blk {n : Nat} {nd : Nat → Nat → Bool} {f : Nat} (hf : f < n) : rd (ofL n (seqB n nd) (ofBL n (blocks0 n nd)) n) f = (blkI (blocksB n nd) f : Nat) := by
  rw [ofL_rd hf, if_pos hf]
  have h1 : rd (ofBL n (blocks0 n nd)) f = ofB (blocks0 n nd) f := by
    simp [rd, ofBL, List.getD_eq_getElem?_getD, hf]
  rw [h1]
  rcases Blt.ofB_cases (blocks0 n nd) f with ⟨h2, h3⟩ | ⟨i, b, h2, h3, h4⟩
  · obtain ⟨i, b, h4, h5⟩ := (Blt.blocks0_spec (n := n) (nd := nd)).all f hf
    exact absurd h5 (h3 b (List.mem_of_getElem? h4))
  · rw [h2, Int.toNat_natCast]
    obtain ⟨k, hk⟩ := Blt.seq_all (n := n) (nd := nd) (List.getElem?_eq_some_iff.1 h3).1
    rw [Blt.posL_some (Blt.seq_spec (n := n) (nd := nd)).1.nodup hk, parts_blocks.at_ k b (Blt.blocksB_of hk h3) f h4]
structure RowV (g n : Nat) (F : Nat → Value) (W : World) : Prop where
  cell : ∀ e : Nat, e < n → W.cell? ⟨g, e, none⟩ = some (F e)
  soft : ∀ e : Nat, e < n → W.frozen? ⟨g, e, none⟩ = false
  here : g < W.heap.size
def updV (F : Nat → Value) (e : Nat) (x : Value) (k : Nat) : Value := if k = e then x else F k
theorem RowV.put {g n : Nat} {F : Nat → Value} {W : World} (h : RowV g n F W) {e : Nat} (he : e < n) (x : Value) : RowV g n (updV F e x) (W.setCell ⟨g, e, none⟩ x) := by
  refine ⟨fun k hk => ?_, fun k hk => by rw [World.frozen?_setCell]; exact h.soft k hk, by simpa using h.here⟩
  by_cases e1 : k = e
  · subst e1
    rw [World.cell?_setCell_same _ _ _ (h.cell k he)]
    simp [updV]
  · rw [World.cell?_setCell_other _ _ _ _ (by intro e2; injection e2 with _ e2 _; exact e1 e2.symm), h.cell k hk]
    simp [updV, e1]
theorem RowV.far {g n : Nat} {F : Nat → Value} {W : World} (h : RowV g n F W) {g' : Nat} (hg : g' ≠ g) (o : Nat) (v : Value) : RowV g n F (W.setCell ⟨g', o, none⟩ v) := by
  refine ⟨fun k hk => ?_, fun k hk => by rw [World.frozen?_setCell]; exact h.soft k hk, by simpa using h.here⟩
  rw [World.cell?_setCell_other _ _ _ _ (by intro e2; injection e2 with e2 _ _; exact hg e2), h.cell k hk]
theorem RowV.below {g n : Nat} {F : Nat → Value} {W W' : World} (h : RowV g n F W) (hb : Below W.heap.size W W') : RowV g n F W' :=
  ⟨fun k hk => pw_cell_below hb (h.cell k hk), fun k hk => (hb.frozen (by exact h.here)).trans (h.soft k hk), Nat.lt_of_lt_of_le h.here hb.size⟩
theorem RowV.drew {g n : Nat} {F : Nat → Value} {W : World} (h : RowV g n F W) : RowV g n F W.drew := ⟨fun k hk => by rw [World.cell?_drew]; exact h.cell k hk, fun k hk => by rw [World.frozen?_drew]; exact h.soft k hk, by simpa using h.here⟩
theorem RowV.grown {g n : Nat} {F : Nat → Value} {W W' : World} (h : RowV g n F W) {row : Option Nat} (hg : W.grownBy W' row) (hne : row ≠ some g) : RowV g n F W' :=
  ⟨fun k hk => (cell_grown' (by exact h.here) hg (by exact fun e => hne e.symm)).trans (h.cell k hk), fun k hk => (frozen_grown (by exact h.here) hg (by exact fun e => hne e.symm)).trans (h.soft k hk), Nat.lt_of_lt_of_le h.here hg.size⟩
theorem RowV.congr {g n : Nat} {F G : Nat → Value} {W : World} (h : RowV g n F W) (he : ∀ k, k < n → F k = G k) : RowV g n G W := ⟨fun k hk => by rw [h.cell k hk, he k hk], h.soft, h.here⟩
section
variable {U : List S47} {A1 : Option Addr} {c1 : Nat} {w : World}
set_option maxRecDepth 100000 in
set_option maxHeartbeats 4000000 in
theorem c_IndexU {e : Nat} (h1 : Kd.C k47 w A1 U.length U) (he : e < U.length)
    (hd : ∀ i j : Nat, i < U.length → j < U.length → i ≠ j → (U.getD i z47).f0.toList = (U.getD j z47).f0.toList → (U.getD i z47).f1 = (U.getD j z47).f1 → ¬ (U.getD i z47).f2 = (U.getD j z47).f2) :
    Calls Try.prog 37 #[.slice A1 U.length c1, .agg #[.string (U.getD e z47).f0, .int .i64 (U.getD e z47).f1, .bool (U.getD e z47).f2]] w fun ex w' => ex = .returned (.int .i64 (e : Int)) ∧ Below w.heap.size w w' := by
  have hmx := Kd.C_max h1
  obtain ⟨y, hy⟩ : ∃ y, y = U.getD e z47 := ⟨_, rfl⟩
  rw [← hy]
  obtain ⟨u, hu⟩ : ∃ u, u = U.length := ⟨_, rfl⟩
  rw [← hu] at h1 he hd hmx ⊢
  have hb1 : Below w.heap.size w (w.alloc (.cells #[.string y.f0, .int .i64 y.f1, .bool y.f2] 47)) := (Below.refl _ _).alloc (Nat.le_refl _) _
  have HG := Lib.hid (And.intro h1 (And.intro hd (And.intro hy hb1)))
  have hu47 := Try.underlying47
  clear h1 hd hy hu
  go_enter Try.func37, Try.ntmps37
  go_wp2_with fail
  obtain ⟨w2, hw2⟩ : ∃ w2, w2 = w.alloc (.cells #[.string y.f0, .int .i64 y.f1, .bool y.f2] 47) := ⟨_, rfl⟩
  rw [← hw2]
  have g0 : w2.cell? ⟨w.heap.size, 0, none⟩ = some (.string y.f0) := by rw [hw2, World.cell?_alloc_at _ _ _ _ rfl]; rfl
  have g1 : w2.cell? ⟨w.heap.size, 1, none⟩ = some (.int .i64 y.f1) := by rw [hw2, World.cell?_alloc_at _ _ _ _ rfl]; rfl
  have g2 : w2.cell? ⟨w.heap.size, 2, none⟩ = some (.bool y.f2) := by rw [hw2, World.cell?_alloc_at _ _ _ _ rfl]; rfl
  rw [← hw2] at HG hb1
  have HB := Lib.hid (And.intro hb1 (And.intro g0 (And.intro g1 g2)))
  clear hw2 hb1 g0 g1 g2
  go_loopw [8] (fun v W => ∃ i : Nat, v = .int .i64 i ∧ i ≤ e ∧ Below w2.heap.size w2 W) (fun v _ => u - (intOf v).toNat)
  case atStart => exact ⟨0, rfl, Nat.zero_le _, Below.refl _ _⟩
  case round =>
    obtain ⟨i, rfl, hi, hbw⟩ := hrel
    obtain ⟨wi, rfl⟩ : ∃ x, x = wr := ⟨_, rfl⟩
    have hil' : (i : Int) < (u : Int) := by omega
    have hi0 : (0 : Int) ≤ (i : Int) := by omega
    obtain ⟨aU, hAU, x0, x1, x2⟩ := at_T47 (Kd.C_below (Kd.C_below HG.out.1 HG.out.2.2.2) hbw) (i : Int) hi0 hil'
    subst hAU
    have y0 := pw_cell_below hbw HB.out.2.1
    have y1 := pw_cell_below hbw HB.out.2.2.1
    have y2 := pw_cell_below hbw HB.out.2.2.2
    obtain ⟨x, hxx⟩ : ∃ x, x = rd_T47 U (i : Int) := ⟨_, rfl⟩
    rw [← hxx, Int.toNat_natCast] at x0 x1 x2
    have HW := Lib.hid (And.intro hbw hxx)
    clear hbw hxx
    by_cases hie : i = e
    · have hxy : x = y := by rw [HW.out.2, HG.out.2.2.1, rd_T47, Int.toNat_natCast, hie]
      subst hxy
      have HIE := Lib.hid hie
      clear hie
      go_wp2_with fail
      go_region
      go_wp2_with fail
      go_ret
      exact ⟨by rw [HIE.out]; rfl, HB.out.1.trans ((below_drew HW.out.1).mono HB.out.1.size)⟩
    · have hdiff : y.f0.toList = x.f0.toList → y.f1 = x.f1 → ¬ y.f2 = x.f2 := by
        rw [HW.out.2, HG.out.2.2.1, rd_T47, Int.toNat_natCast]
        exact HG.out.2.1 e i he (by omega) (fun h => hie h.symm)
      have HDF := Lib.hid hdiff
      have hi2 : i < e := by omega
      clear hdiff hie
      by_cases d0 : y.f0.toList = x.f0.toList
      · by_cases d1 : y.f1 = x.f1
        · have d2 := HDF.out d0 d1
          go_wp2_with fail
          go_region
          go_wp2_with fail
          exact ⟨⟨i + 1, by rw [Int.natCast_add]; rfl, by omega, below_drew HW.out.1⟩, by simp [intOf]; omega⟩
        · go_wp2_with fail
          go_region
          go_wp2_with fail
          exact ⟨⟨i + 1, by rw [Int.natCast_add]; rfl, by omega, below_drew HW.out.1⟩, by simp [intOf]; omega⟩
      · go_wp2_with fail
        go_region
        go_wp2_with fail
        exact ⟨⟨i + 1, by rw [Int.natCast_add]; rfl, by omega, below_drew HW.out.1⟩, by simp [intOf]; omega⟩
end
end Go.Proofs.Ytmfcefakpfbaoaa.PMatch
end
section
set_option linter.unusedVariables false
set_option linter.unusedSimpArgs false
namespace Go.Proofs.Ytmfcefakpfbaoaa.PMatch
open Go.RowKit Go.Proofs.YtmfcefakpfbaoaaW.PrintWords Go.Proofs.YtmfcefakpfbaoaaW.PrintLast Go.Proofs.YtmfcefakpfbaoaaW.PrintMore
open Blt (ints blocksB needsB levelsB)
structure Bef (N : Nat) (nl : List (List Nat)) (b0 : Nat) (L : List Nat) : Prop where
  lt : ∀ p ∈ L, p < N
  rises : L.Pairwise (· < ·)
  pos : 0 < L.length
  last : L.getD (L.length - 1) 0 = b0
  needs : ∀ p ∈ L, ∀ q ∈ nl.getD p [], q ∈ L
  wanted : ∀ p ∈ L, p = b0 ∨ ∃ q ∈ L, p ∈ nl.getD q []
structure Down (N : Nat) (nl : List (List Nat)) (b0 c : Nat) (I : Nat → Bool) (O : List Nat) : Prop where
  mem : ∀ p, p ∈ O ↔ c ≤ p ∧ p < N ∧ I p = true
  falls : O.Pairwise (fun x y => y < x)
  start : I b0 = true
  le : ∀ p, p < N → I p = true → p ≤ b0
  why : ∀ p, p < N → I p = true → p = b0 ∨ ∃ q ∈ O, p ∈ nl.getD q []
  needs : ∀ p ∈ O, ∀ q ∈ nl.getD p [], I q = true
section
variable {N : Nat} {nl : List (List Nat)} {b0 c : Nat} {I I' : Nat → Bool} {O : List Nat}
theorem Down.init (hb : b0 < N) (hI : ∀ p, I p = true ↔ p = b0) : Down N nl b0 N I [] :=
  ⟨fun p => ⟨fun h => (by cases h), fun h => by omega⟩, List.Pairwise.nil, (hI b0).2 rfl, fun p _ h => by rw [(hI p).1 h]; exact Nat.le_refl _, fun p _ h => .inl ((hI p).1 h), fun p h => by cases h⟩
theorem Down.skip (h : Down N nl b0 (c + 1) I O) (hc : I c = false) : Down N nl b0 c I O := by
  refine ⟨fun p => ?_, h.falls, h.start, h.le, h.why, h.needs⟩
  rw [h.mem p]
  constructor
  · rintro ⟨h1, h2, h3⟩; exact ⟨by omega, h2, h3⟩
  · rintro ⟨h1, h2, h3⟩
    refine ⟨?_, h2, h3⟩
    rcases Nat.lt_or_eq_of_le h1 with h4 | h4
    · exact h4
    · rw [← h4, hc] at h3; cases h3
theorem Down.take (h : Down N nl b0 (c + 1) I O) (hcN : c < N) (hc : I c = true) (hlt : ∀ q ∈ nl.getD c [], q < c) (hI : ∀ p, I' p = true ↔ I p = true ∨ p ∈ nl.getD c []) : Down N nl b0 c I' (O ++ [c]) :=
  { mem := fun p => by
      rw [List.mem_append, h.mem p, List.mem_singleton, hI p]
      constructor
      · rintro (⟨h1, h2, h3⟩ | rfl)
        · exact ⟨by omega, h2, .inl h3⟩
        · exact ⟨Nat.le_refl _, hcN, .inl hc⟩
      · rintro ⟨h1, h2, h3⟩
        rcases Nat.lt_or_eq_of_le h1 with h4 | h4
        · refine .inl ⟨h4, h2, ?_⟩
          rcases h3 with h3 | h3
          · exact h3
          · have := hlt p h3; omega
        · exact .inr h4.symm
    falls := by
      rw [List.pairwise_append]
      refine ⟨h.falls, List.pairwise_singleton _ _, fun x hx y hy => ?_⟩
      rw [List.mem_singleton] at hy
      have := ((h.mem x).1 hx).1
      omega
    start := (hI b0).2 (.inl h.start)
    le := fun p hp h1 => by
      rcases (hI p).1 h1 with h2 | h2
      · exact h.le p hp h2
      · have := hlt p h2; have := h.le c hcN hc; omega
    why := fun p hp h1 => by
      rcases (hI p).1 h1 with h2 | h2
      · rcases h.why p hp h2 with h3 | ⟨q, h3, h4⟩
        · exact .inl h3
        · exact .inr ⟨q, List.mem_append_left _ h3, h4⟩
      · exact .inr ⟨c, by simp, h2⟩
    needs := fun p hp q hq => by
      rw [List.mem_append, List.mem_singleton] at hp
      rcases hp with hp | rfl
      · exact (hI q).2 (.inl (h.needs p hp q hq))
      · exact (hI q).2 (.inr hq) }
theorem Down.done (h : Down N nl b0 0 I O) (hb : b0 < N) (hlt : ∀ p, p < N → ∀ q ∈ nl.getD p [], q < N) : Bef N nl b0 O.reverse := by
  have hm : ∀ p, p ∈ O.reverse ↔ p < N ∧ I p = true := fun p => by rw [List.mem_reverse, h.mem p]; constructor <;> (intro h1; simp_all)
  have h0 : b0 ∈ O := (h.mem b0).2 ⟨Nat.zero_le _, hb, h.start⟩
  have hpos : 0 < O.length := List.length_pos_of_mem h0
  have hr : O.reverse.Pairwise (· < ·) := by rw [List.pairwise_reverse]; exact h.falls
  refine ⟨fun p hp => ((hm p).1 hp).1, hr, by rw [List.length_reverse]; exact hpos, ?_, fun p hp q hq => ?_, fun p hp => ?_⟩
  · cases O with
    | nil => cases h0
    | cons x O =>
      have h2 : (x :: O).reverse.getD ((x :: O).reverse.length - 1) 0 = x := by
        simp [List.getD_eq_getElem?_getD]
      rw [h2]
      have h3 := h.falls
      rw [List.pairwise_cons] at h3
      have h4 := h.le x ((h.mem x).1 (by simp)).2.1 ((h.mem x).1 (by simp)).2.2
      rcases List.mem_cons.1 h0 with h5 | h5
      · exact h5.symm
      · have := h3.1 b0 h5; omega
  · have hp' := (hm p).1 hp
    exact (hm q).2 ⟨hlt p hp'.1 q hq, h.needs p (by rw [← List.mem_reverse]; exact hp) q hq⟩
  · have hp' := (hm p).1 hp
    rcases h.why p hp'.1 hp'.2 with h1 | ⟨q, h1, h2⟩
    · exact .inl h1
    · exact .inr ⟨q, by rw [List.mem_reverse]; exact h1, h2⟩
end
end Go.Proofs.Ytmfcefakpfbaoaa.PMatch
end
section
set_option linter.unusedVariables false
set_option linter.unusedSimpArgs false
namespace Go.Proofs.Ytmfcefakpfbaoaa.PMatch
open Go.RowKit Go.Proofs.YtmfcefakpfbaoaaW.PrintWords Go.Proofs.YtmfcefakpfbaoaaW.PrintLast Go.Proofs.YtmfcefakpfbaoaaW.PrintMore
open Blt (ints blocksB needsB levelsB)
theorem RowV.made (W : World) (n : Nat) {g : Nat} (hg : g = W.heap.size) : RowV g n (fun _ => .bool false) (W.alloc (.cells (madeCells #[.bool false] n) 4)) := by
  subst hg
  refine ⟨fun e he => ?_, fun e he => ?_, by simp⟩
  · rw [World.cell?_alloc_at _ _ _ _ rfl]
    simp [madeCells, he, Nat.mod_one]
  · rw [World.frozen?_alloc_at _ _ _ _ rfl]
def updB2 (I : Nat → Bool) (e k : Nat) : Bool := if k = e then true else I k
theorem RowV.putB {g n : Nat} {I : Nat → Bool} {W : World} (h : RowV g n (fun u => .bool (I u)) W) {e : Nat} (he : e < n) : RowV g n (fun u => .bool (updB2 I e u)) (W.setCell ⟨g, e, none⟩ (.bool true)) := by
  refine (h.put he (.bool true)).congr fun k hk => ?_
  unfold updV updB2
  by_cases e1 : k = e
  · rw [if_pos e1, if_pos e1]
  · rw [if_neg e1, if_neg e1]
theorem c_IndexI {A0 : Option Addr} {c0 : Nat} {l : List Int} {a : Int} {f : Nat} {w : World} (hr : Kd.C (Kd.int .i64) w A0 l.length l) (hc : l.length ≤ c0) (hl : l.length ≤ 1000000) (hf : f < l.length) (hx : rd l f = a) (hu : ∀ j : Nat, j < l.length → rd l j = a → j = f) :
    Calls Try.prog 38 #[.slice A0 l.length c0, .int .i64 a] w fun e w' => e = .returned (.int .i64 (f : Int)) ∧ Drawn0 w w' := by
  obtain ⟨k0, r, h1, h2⟩ := index_ok hl a l.length 0 (by omega) (fun j hj => by omega)
  have hr' : r = (f : Int) := by
    rcases h2 with ⟨_, h⟩ | ⟨j, h3, h4, rfl⟩
    · exact absurd hx (h f hf)
    · rw [hu j h3 h4]
  subst hr'
  exact slices_Index_int_int.calls k0 A0 c0 l a _ w hr hc (by unfold slices_Index_int_int.f; exact h1 k0 (Nat.le_refl _))
section
variable {E : List ByteArray} {U : List S47} {J : List (List Int)} {m : List Int}
variable {A0 : Option Addr} {c0 : Nat} {A1 : Option Addr} {c1 : Nat} {A2 : Option Addr} {c2 : Nat} {w : World}
set_option maxRecDepth 100000 in
set_option maxHeartbeats 4000000 in
theorem c_Before (hs : Solv E U J m) {u : Nat} (hu : u < U.length) {f : Nat} (hf : f < E.length) (hmf : rd m f = u) {y : S47} (hy : y = U.getD u z47) (h0 : Kd.C Kd.string w A0 E.length E) (hc0 : E.length ≤ c0) (h1 : Kd.C k47 w A1 U.length U) (hc1 : U.length ≤ c1)
    (h2 : Kd.C (Kd.slice 3 (Kd.int .i64)) w A2 J.length J) (hc2 : J.length ≤ c2) :
    Calls Try.prog 21 #[.agg #[.slice A0 E.length c0, .slice A1 U.length c1, .slice A2 J.length c2], .agg #[.string y.f0, .int .i64 y.f1, .bool y.f2]] w fun e w' => ∃ A c L, e = .returned (.tuple #[.slice A L.length c, .int .i64 0]) ∧ Below w.heap.size w w' ∧ L.length ≤ c ∧
      Kd.C (Kd.int .i64) w' A L.length (ints L) ∧ Bef (blocksB E.length (ndB J m)).length (needsB E.length (ndB J m)) (blkI (blocksB E.length (ndB J m)) f) L := by
  obtain ⟨bl, hbl⟩ : ∃ bl, bl = blocksB E.length (ndB J m) := ⟨_, rfl⟩
  obtain ⟨nl, hnl⟩ : ∃ nl, nl = needsB E.length (ndB J m) := ⟨_, rfl⟩
  rw [← hbl, ← hnl]
  have hEl0 : E.length ≤ 14 := hs.small
  have hNE : bl.length ≤ 14 := by
    have h1 := List.length_filter_le (Blt.leadB E.length (ndB J m)) (List.range E.length)
    rw [hbl, Blt.blocksB_len, Blt.blocks0, List.length_map]
    rw [List.length_range] at h1
    omega
  have hb0 : blkI bl f < bl.length := by rw [hbl]; exact blk_lt hf
  obtain ⟨N, hN⟩ : ∃ N, N = bl.length := ⟨_, rfl⟩
  rw [← hN] at hNE hb0 ⊢
  obtain ⟨b0, hbe⟩ : ∃ b0, b0 = blkI bl f := ⟨_, rfl⟩
  rw [← hbe] at hb0 ⊢
  have hnlen : nl.length = N := by rw [hnl, hN, hbl]; exact (Blt.sorted_spec).len
  have hnlt : ∀ p, p < N → ∀ q ∈ nl.getD p [], q < p := fun p hp q hq => (Blt.sorted_spec (n := E.length) (nd := ndB J m)).before p (nl.getD p []) (by rw [← hnl, List.getD_eq_getElem?_getD, List.getElem?_eq_getElem (by omega)]; rfl) q hq
  have hofb : rd (ofL E.length (Blt.seqB E.length (ndB J m)) (Blt.ofBL E.length (Blt.blocks0 E.length (ndB J m))) E.length) f = (b0 : Int) := by rw [of_blk hf, hbe, hbl]
  have HQ := Lib.hid (And.intro hbl (And.intro hnl (And.intro hN hbe)))
  have HQ2 := Lib.hid (And.intro hnlen (And.intro hnlt hofb))
  clear hbl hnl hN hbe hnlen hnlt hofb
  have hb1 : Below w.heap.size w ((w.alloc (.cells #[.slice A0 E.length c0, .slice A1 U.length c1, .slice A2 J.length c2] 26)).alloc (.cells #[.string y.f0, .int .i64 y.f1, .bool y.f2] 47)) := below_alloc (below_alloc (Below.refl _ _) _) _
  have hso := c_sort_yes hs.valid hs.matched hs.has h0 hc0 h1 hc1 h2 hc2 hb1
  have HS := Lib.hid hso
  have HB := Lib.hid hb1
  have hml : m.length = E.length := (hs.valid.out hs.matched).len
  have hEl : E.length ≤ 14 := hs.small
  have hUl : U.length ≤ 14 := by rw [← hs.has.1]; exact hEl
  have HG := Lib.hid (And.intro h0 (And.intro h1 (And.intro h2 (And.intro hs (And.intro hmf (And.intro hy hml))))))
  have hu26 := Try.underlying26
  have hu47 := Try.underlying47
  have hs1 : ((w.alloc (.cells #[.slice A0 E.length c0, .slice A1 U.length c1, .slice A2 J.length c2] 26)).alloc (.cells #[.string y.f0, .int .i64 y.f1, .bool y.f2] 47)).heap.size = w.heap.size + 1 + 1 := by simp
  have HS1 := Lib.hid hs1
  clear h0 hc0 h1 hc1 h2 hc2 hb1 hso hs hmf hml hs1 hy
  go_enter Try.func21, Try.ntmps21
  go_wp2_with fail
  refine HS.out.mono ?_
  rintro ex w2 ⟨sb, rfl, hb2, hsb, hsrt⟩
  rw [HS1.out] at hb2 hsb
  have hcell : ∀ (i : Nat) (v : Value), #[Value.slice A0 E.length c0, .slice A1 U.length c1, .slice A2 J.length c2][i]? = some v → w2.cell? ⟨w.heap.size, i, none⟩ = some v := fun i v hv => (hb2.cell (by exact Nat.lt_succ_of_lt (Nat.lt_succ_self _))).trans (by rw [World.cell?_alloc_lt _ _ _ (by simp), World.cell?_alloc_at _ _ _ _ rfl]; exact hv)
  have hcelu : ∀ (i : Nat) (v : Value), #[Value.string y.f0, .int .i64 y.f1, .bool y.f2][i]? = some v → w2.cell? ⟨w.heap.size + 1, i, none⟩ = some v := fun i v hv => (hb2.cell (by exact Nat.lt_succ_self _)).trans (by rw [World.cell?_alloc_at _ _ _ _ (by simp)]; exact hv)
  have g1 := hcell 1 _ rfl
  have y0 := hcelu 0 _ rfl
  have y1 := hcelu 1 _ rfl
  have y2 := hcelu 2 _ rfl
  have HX := Lib.hid (And.intro (HB.out.trans (hb2.mono (by omega))) hsrt)
  clear hb2 hcell hcelu hsrt
  have hIU := c_IndexU (c1 := c1) (w := w2) (Kd.C_below HG.out.2.1 HX.out.1) hu (fun i j => HG.out.2.2.2.1.good.uses_ne)
  rw [← HG.out.2.2.2.2.2.1] at hIU
  have HIU := Lib.hid hIU
  clear hIU
  go_wp2_with fail
  refine HIU.out.mono ?_
  rintro ex w3 ⟨rfl, hb3⟩
  obtain ⟨Au, cu, q3, hcu, hCu⟩ := HX.out.2.use
  obtain ⟨Ab, cb, q4, hcb, hCb⟩ := HX.out.2.blocks
  obtain ⟨Ao, co, q5, hco, hCo⟩ := HX.out.2.of
  obtain ⟨An, cn, q6, hcn, hCn⟩ := HX.out.2.needs
  have q3 := pw_cell_below hb3 q3
  have q4 := pw_cell_below hb3 q4
  have q5 := pw_cell_below hb3 q5
  have q6 := pw_cell_below hb3 q6
  rw [← HQ.out.1] at hCb hCn hcb hcn q4 q6
  rw [← HQ.out.2.1] at hCn
  rw [← HQ.out.2.2.1] at hCb hCn hcb hcn q4 q6
  have HN := Lib.hid (And.intro HQ2.out.1 (And.intro HQ2.out.2.1 (And.intro (Kd.C_below hCu hb3) (And.intro (Kd.C_below hCo hb3) (Kd.C_below hCn hb3)))))
  have HX3 := Lib.hid (And.intro (HX.out.1.trans (hb3.mono HX.out.1.size)) (And.intro q3 (And.intro q5 q6)))
  have hb0i : (b0 : Int) < (N : Int) := by omega
  have hfo : (f : Int) < (E.length : Int) := by omega
  have mk43 := run_make_row' (P := Try.prog) 43 4 (.bool false) 1 Try.underlying43 info4 rfl .i64 .i64 N (by omega) (by omega)
  have hsb3 : sb < w3.heap.size := World.block_lt_of_cell? _ _ q3
  have HOF := Lib.hid HQ2.out.2.2
  clear hCb hCn hCu hCo hb3 g1 y0 y1 y2
  go_wp2_with fail
  obtain ⟨w4, hw4⟩ : ∃ w4, w4 = w3.alloc (.cells (madeCells #[.bool false] N) 4) := ⟨_, rfl⟩
  rw [← hw4]
  have hr4 : RowV w3.heap.size N (fun _ => .bool false) w4 := by rw [hw4]; exact RowV.made w3 N rfl
  have hb4 : Below w3.heap.size w3 w4 := by rw [hw4]; exact below_alloc (Below.refl _ _) _
  have HR4 := Lib.hid (And.intro hr4 hb4)
  have k3 := pw_cell_below hb4 q3
  have k5 := pw_cell_below hb4 q5
  obtain ⟨ao, hAo, ko⟩ := Kd.at_int (Kd.C_below HN.out.2.2.2.1 hb4) (f : Int) (by omega) hfo
  rw [Int.toNat_natCast, HOF.out] at ko
  subst hAo
  have HI := Lib.hid (c_IndexI (w := w4.drew) (c0 := cu) (A0 := Au) (l := m) (a := (u : Int)) (f := f) (by rw [HG.out.2.2.2.2.2.2]; exact Kd.C_drew (Kd.C_below HN.out.2.2.1 hb4)) (by rw [HG.out.2.2.2.2.2.2]; exact hcu) (by rw [HG.out.2.2.2.2.2.2]; omega) (by rw [HG.out.2.2.2.2.2.2]; exact hf) HG.out.2.2.2.2.1 (fun j hj hjx => HG.out.2.2.2.1.inj j f (by rw [← HG.out.2.2.2.2.2.2]; exact hj) hf (hjx.trans HG.out.2.2.2.2.1.symm)))
  rw [HG.out.2.2.2.2.2.2] at HI
  clear hw4 hr4 hb4 q3 q4 q5 q6
  refine OrdL.begin_ (S := fun W => W.cell? ⟨sb, 3, none⟩ = some (.slice Au E.length cu) ∧ W.cell? ⟨sb, 5, none⟩ = some (.slice (some ao) E.length co) ∧ W.cell? (ao.add f) = some (.int .i64 (b0 : Int))) [] [14] (by kernel_rfl) ?_ (fun hHeld => ?_)
  focus ((try dsimp only); exact ⟨k3, k5, ko⟩)
  refine OrdL.take (i := 0) (d := (some 34)) (v := ?_) rfl rfl (by kernel_rfl) (by kernel_rfl) (by kernel_rfl) (by kernel_rfl) (fun _ _ _ h => h) (by assumption) ⟨by rfl, ?_⟩ ?_
  rotate_left
  focus (intro w hSw; (try dsimp only at hSw); go_simp; try with_reducible rfl)
  (try simp only [Act.put, List.getElem_toArray, List.getElem_cons_zero, List.getElem_cons_succ, List.setIfInBounds_toArray, List.set_cons_zero, List.set_cons_succ])
  refine OrdL.take (i := 1) (d := (some 35)) (v := ?_) rfl rfl (by kernel_rfl) (by kernel_rfl) (by kernel_rfl) (by kernel_rfl) (fun _ _ _ h => h) (by assumption) ⟨by rfl, ?_⟩ ?_
  rotate_left
  focus (intro w hSw; (try dsimp only at hSw); go_simp; try with_reducible rfl)
  (try simp only [Act.put, List.getElem_toArray, List.getElem_cons_zero, List.getElem_cons_succ, List.setIfInBounds_toArray, List.set_cons_zero, List.set_cons_succ])
  refine OrdL.take (i := 2) (d := (some 36)) (v := ?_) rfl rfl (by kernel_rfl) (by kernel_rfl) (by kernel_rfl) (by kernel_rfl) (fun _ _ _ h => h) (by assumption) ⟨by rfl, ?_⟩ ?_
  rotate_left
  focus (intro w hSw; (try dsimp only at hSw); go_simp; try with_reducible rfl)
  (try simp only [Act.put, List.getElem_toArray, List.getElem_cons_zero, List.getElem_cons_succ, List.setIfInBounds_toArray, List.set_cons_zero, List.set_cons_succ])
  refine OrdL.take (i := 3) (d := (some 37)) (v := ?_) rfl rfl (by kernel_rfl) (by kernel_rfl) (by kernel_rfl) (by kernel_rfl) (fun _ _ _ h => h) (by assumption) ⟨by rfl, ?_⟩ ?_
  rotate_left
  focus (intro w hSw; (try dsimp only at hSw); go_simp; try with_reducible rfl)
  (try simp only [Act.put, List.getElem_toArray, List.getElem_cons_zero, List.getElem_cons_succ, List.setIfInBounds_toArray, List.set_cons_zero, List.set_cons_succ])
  refine OrdL.take (i := 4) (d := (some 38)) (v := ?_) rfl rfl (by kernel_rfl) (by kernel_rfl) (by kernel_rfl) (by kernel_rfl) (fun _ _ _ h => h) (by assumption) ⟨by rfl, ?_⟩ ?_
  rotate_left
  focus (intro w hSw; (try dsimp only at hSw); go_simp; try with_reducible rfl)
  (try simp only [Act.put, List.getElem_toArray, List.getElem_cons_zero, List.getElem_cons_succ, List.setIfInBounds_toArray, List.set_cons_zero, List.set_cons_succ])
  refine OrdL.take (i := 5) (d := (some 39)) (v := ?_) rfl rfl (by kernel_rfl) (by kernel_rfl) (by kernel_rfl) (by kernel_rfl) (fun _ _ _ h => h) (by assumption) ⟨by rfl, ?_⟩ ?_
  rotate_left
  focus (intro w hSw; (try dsimp only at hSw); go_simp; try with_reducible rfl)
  (try simp only [Act.put, List.getElem_toArray, List.getElem_cons_zero, List.getElem_cons_succ, List.setIfInBounds_toArray, List.set_cons_zero, List.set_cons_succ])
  refine OrdL.take (i := 6) (d := (some 40)) (v := ?_) rfl rfl (by kernel_rfl) (by kernel_rfl) (by kernel_rfl) (by kernel_rfl) (fun _ _ _ h => h) (by assumption) ⟨by rfl, ?_⟩ ?_
  rotate_left
  focus (intro w hSw; (try dsimp only at hSw); go_simp; try with_reducible rfl)
  (try simp only [Act.put, List.getElem_toArray, List.getElem_cons_zero, List.getElem_cons_succ, List.setIfInBounds_toArray, List.set_cons_zero, List.set_cons_succ])
  refine OrdL.take (i := 7) (d := (some 41)) (v := ?_) rfl rfl (by kernel_rfl) (by kernel_rfl) (by kernel_rfl) (by kernel_rfl) (fun _ _ _ h => h) (by assumption) ⟨by rfl, ?_⟩ ?_
  rotate_left
  focus (intro w hSw; (try dsimp only at hSw); go_simp; try with_reducible rfl)
  (try simp only [Act.put, List.getElem_toArray, List.getElem_cons_zero, List.getElem_cons_succ, List.setIfInBounds_toArray, List.set_cons_zero, List.set_cons_succ])
  refine OrdL.take (i := 8) (d := (some 42)) (v := ?_) rfl rfl (by kernel_rfl) (by kernel_rfl) (by kernel_rfl) (by kernel_rfl) (fun _ _ _ h => h) (by assumption) ⟨by rfl, ?_⟩ ?_
  rotate_left
  focus (intro w hSw; (try dsimp only at hSw); go_simp; try with_reducible rfl)
  (try simp only [Act.put, List.getElem_toArray, List.getElem_cons_zero, List.getElem_cons_succ, List.setIfInBounds_toArray, List.set_cons_zero, List.set_cons_succ])
  refine OrdL.take (i := 9) (d := (some 43)) (v := ?_) rfl rfl (by kernel_rfl) (by kernel_rfl) (by kernel_rfl) (by kernel_rfl) (fun _ _ _ h => h) (by assumption) ⟨by rfl, ?_⟩ ?_
  rotate_left
  focus (intro w hSw; (try dsimp only at hSw); go_simp; try with_reducible rfl)
  (try simp only [Act.put, List.getElem_toArray, List.getElem_cons_zero, List.getElem_cons_succ, List.setIfInBounds_toArray, List.set_cons_zero, List.set_cons_succ])
  refine OrdL.step (i := 10) rfl (by decide) (by kernel_rfl) (fun Kc hKc => ?_)
  simp only [List.getElem_toArray, List.getElem_cons_zero, List.getElem_cons_succ]
  go_simp
  go_at_call 38
  refine HI.out.mono ?_
  rintro ex w5 ⟨rfl, hd5⟩
  have HB5 := Lib.hid hd5.below
  clear hd5
  go_wp2_with fail
  refine hKc.out _ _ ?_ (fun hHeld => ?_)
  focus ((try dsimp only); exact ⟨pw_cell_below HB5.out (show w4.drew.cell? _ = _ from k3), pw_cell_below HB5.out (show w4.drew.cell? _ = _ from k5), pw_cell_below HB5.out (show w4.drew.cell? _ = _ from ko)⟩)
  clear hKc Kc
  (try simp only [Act.put, List.getElem_toArray, List.getElem_cons_zero, List.getElem_cons_succ, List.setIfInBounds_toArray, List.set_cons_zero, List.set_cons_succ])
  refine OrdL.take (i := 11) (d := (some 45)) (v := ?_) rfl rfl (by kernel_rfl) (by kernel_rfl) (by kernel_rfl) (by kernel_rfl) (fun _ _ _ h => h) (by assumption) ⟨by rfl, ?_⟩ ?_
  rotate_left
  focus (intro w hSw; (try dsimp only at hSw); go_simp; try with_reducible rfl)
  (try simp only [Act.put, List.getElem_toArray, List.getElem_cons_zero, List.getElem_cons_succ, List.setIfInBounds_toArray, List.set_cons_zero, List.set_cons_succ])
  refine OrdL.take (i := 12) (d := (some 46)) (v := ?_) rfl rfl (by kernel_rfl) (by kernel_rfl) (by kernel_rfl) (by kernel_rfl) (fun _ _ _ h => h) (by assumption) ⟨by rfl, ?_⟩ ?_
  rotate_left
  focus (intro w hSw; (try dsimp only at hSw); go_simp; try with_reducible rfl)
  (try simp only [Act.put, List.getElem_toArray, List.getElem_cons_zero, List.getElem_cons_succ, List.setIfInBounds_toArray, List.set_cons_zero, List.set_cons_succ])
  refine OrdL.take (i := 13) (d := (some 47)) (v := ?_) rfl rfl (by kernel_rfl) (by kernel_rfl) (by kernel_rfl) (by kernel_rfl) (fun _ _ _ h => h) (by assumption) ⟨by rfl, ?_⟩ ?_
  rotate_left
  focus (intro w hSw; (try dsimp only at hSw); go_simp; try with_reducible rfl)
  (try simp only [Act.put, List.getElem_toArray, List.getElem_cons_zero, List.getElem_cons_succ, List.setIfInBounds_toArray, List.set_cons_zero, List.set_cons_succ])
  have hr5 := HR4.out.1.drew.below HB5.out
  have is0 := hr5.cell b0 hb0
  have is1 := hr5.soft b0 hb0
  refine OrdL.last (i := 14) rfl (by decide) (by decide) (by kernel_rfl) (fun Kc hKc => ?_)
  simp only [List.getElem_toArray, List.getElem_cons_zero, List.getElem_cons_succ]
  go_simp
  go_wp2_with fail
  refine hKc.out _ _ ?_
  clear hKc Kc
  (try simp only [Act.put, List.getElem_toArray, List.getElem_cons_zero, List.getElem_cons_succ, List.setIfInBounds_toArray, List.set_cons_zero, List.set_cons_succ])
  refine OrdL.done (by kernel_rfl) ?_ _
  obtain ⟨w6, hw6⟩ : ∃ w6, w6 = w5.setCell ⟨w3.heap.size, b0, none⟩ (.bool true) := ⟨_, rfl⟩
  rw [← hw6]
  have hr6 : RowV w3.heap.size N (fun p => .bool (updB2 (fun _ => false) b0 p)) w6 := by rw [hw6]; exact hr5.putB (I := fun _ => false) hb0
  have hb6 : Below w3.heap.size w3 w6 := by
    rw [hw6]
    exact (((below_drew HR4.out.2).trans (HB5.out.mono (below_drew HR4.out.2).size))).setCell (Nat.le_refl _) _
  have hlt6 : w3.heap.size < w6.heap.size := hr6.here
  have HR6 := Lib.hid (And.intro hr6 hb6)
  clear hw6 hr6 hb6 hr5 is0 is1 k3 k5 ko HI HB5 HR4
  go_wp2_with fail
  go_loopw [11, 10] (fun v o W => ∃ (c : Nat) (x : Int) (I : Nat → Bool) (O : List Nat), v = .int .i64 x ∧ x = (c : Int) - 1 ∧ c ≤ N ∧ Below w3.heap.size w3 W ∧ Kd.R (Kd.int .i64) 3 W (w3.heap.size + 1) (fun k => w3.heap.size < k) o (ints O) ∧ O.length + c ≤ N ∧
      RowV w3.heap.size N (fun p => .bool (I p)) W ∧ Down N nl b0 c I O) (fun v _ _ => ((intOf v) + 1).toNat)
  case atStart =>
    refine ⟨N, (N : Int) - 1, _, [], rfl, rfl, Nat.le_refl _, HR6.out.2, Kd.R_nil _ _ _ _ _, by simp, HR6.out.1, Down.init hb0 fun p => ?_⟩
    unfold updB2
    by_cases h : p = b0
    · rw [if_pos h]; simp [h]
    · rw [if_neg h]; simp [h]
  case round =>
    obtain ⟨c, x, I, O, rfl, hx, hc, hbw, hR, hOl, hrv, hdn⟩ := hrel
    obtain ⟨wi, rfl⟩ : ∃ x, x = wr := ⟨_, rfl⟩
    obtain ⟨Ax, cx, rfl⟩ := Kd.R_slice hR
    rw [ints_len] at hR ⊢
    have HW := Lib.hid (And.intro hbw (And.intro hR (And.intro hrv hdn)))
    clear hbw hR hrv hdn
    cases c with
    | zero =>
      obtain rfl : x = -1 := by omega
      clear hx hc
      go_wp2_with fail
      refine (c_Reverse HW.out.2.1 (by rw [ints_len]; omega)).mono ?_
      rintro ex w8 ⟨rfl, hR8, hg8⟩
      have hb8 : Below w3.heap.size w3 w8 := HW.out.1.grown hg8 HW.out.1.size (fun k hk => by have h : w3.heap.size < k := HW.out.2.1.1 k hk; omega)
      have HZ := Lib.hid (And.intro hb8 hR8)
      clear hb8 hR8 hg8
      go_wp2_with fail
      go_ret2
      have hr := Kd.R_reads' HZ.out.2
      have hrev : (ints O).reverse = ints O.reverse := by simp [ints]
      have hlr : O.reverse.length = O.length := List.length_reverse
      rw [hrev, ints_len, hlr] at hr
      exact ⟨Ax, cx, O.reverse, by rw [hlr]; rfl, HX3.out.1.trans (HZ.out.1.mono HX3.out.1.size), by rw [hlr]; exact hr.2.1, by rw [hlr]; exact hr.2.2, HW.out.2.2.2.done hb0 fun p hp q hq => by have := HN.out.2.1 p hp q hq; omega⟩
    | succ p =>
      obtain rfl : x = (p : Int) := by omega
      clear hx
      have hp0 : (0 : Int) ≤ (p : Int) := by omega
      have hpN : p < N := by omega
      have hpN' : (p : Int) < (N : Int) := by omega
      have hci := HW.out.2.2.1.cell p hpN
      cases hIp : I p
      · rw [hIp] at hci
        have HIP := Lib.hid hIp
        clear hIp
        go_wp2_with fail
        exact ⟨⟨p, (p : Int) - 1, I, O, rfl, rfl, by omega, HW.out.1, HW.out.2.1, by omega, HW.out.2.2.1, HW.out.2.2.2.skip HIP.out⟩, by simp [intOf]⟩
      · rw [hIp] at hci
        have HIP := Lib.hid hIp
        clear hIp
        have hbx : ∀ k, (Value.slice Ax O.length cx).ownBlock = some k → w3.heap.size < k := fun k hk => HW.out.2.1.1 k hk
        have HBX := Lib.hid hbx
        clear hbx
        go_wp2_with (at_builtin; go_must (refine Kd.R_append (Kd.int .i64) (w0 := wi) (w3.heap.size + 1) rfl (.tmp 60) (.tmp 62) 31 3 (.int .i64 0) 8 rfl Try.underlying31 info3 rfl (by decide) (by decide) (.slice Ax O.length cx) (ints O) (p : Int) [.int .i64 (p : Int)] (fun k => w3.heap.size < k) (fun _ => False) rfl rfl rfl (fun _ hk => hk.elim) (fun k hk => by have h : wi.heap.size ≤ k := hk; have := HW.out.2.2.1.here; omega) HW.out.2.1 (Below.refl _ _) (by have := HW.out.2.2.1.here; omega) (by rw [ints_len]; omega) ?_); intro v7 w7 hr7 hb7 hg7 hat7; have hb37 : Below w3.heap.size w3 w7 := HW.out.1.grown hg7 HW.out.1.size (fun k hk => by have := HBX.out k hk; omega); have hrv7 := HW.out.2.2.1.grown hg7 (fun e => by have := HBX.out _ e; omega); have q6 := pw_cell_below hb37 HX3.out.2.2.2; obtain ⟨ad6, B6, d6, hA6, c6, hd6, hC6⟩ := at_L4 HN.out.2.2.2.2 (p : Int) hp0 hpN'; have c6 := pw_cell_below hb37 c6; subst hA6; rw [Int.toNat_natCast, rd_ints, ints_len] at c6; rw [rd_ints, ints_len] at hC6; obtain ⟨nb, hnb⟩ : ∃ nb, nb = nl.getD p [] := ⟨_, rfl⟩; rw [← hnb] at c6 hC6; have hmxn := Kd.C_max hC6; have HY := Lib.hid (And.intro hr7 (And.intro hb37 (And.intro hrv7 (And.intro hC6 hnb)))); clear hr7 hb7 hg7 hat7 hb37 hrv7 hd6 hC6 hnb)
        go_loopw [72] (fun v W => ∃ (q : Nat) (I' : Nat → Bool), v = .int .i64 q ∧ q ≤ nb.length ∧ Below w3.heap.size w3 W ∧ Kd.R (Kd.int .i64) 3 W (w3.heap.size + 1) (fun k => w3.heap.size < k) v7 (ints O ++ [(p : Int)]) ∧ RowV w3.heap.size N (fun p => .bool (I' p)) W ∧ ∀ k, I' k = true ↔ I k = true ∨ k ∈ nb.take q) (fun v _ => nb.length - (intOf v).toNat)
        case atStart => exact ⟨0, I, rfl, Nat.zero_le _, HY.out.2.1, HY.out.1, HY.out.2.2.1, fun k => by simp⟩
        case round =>
          obtain ⟨q, I', rfl, hq, hbq, hRq, hrq, hIq⟩ := hrel
          obtain ⟨wq, rfl⟩ : ∃ x, x = wr := ⟨_, rfl⟩
          have HQ3 := Lib.hid (And.intro hbq (And.intro hRq (And.intro hrq hIq)))
          clear hbq hRq hrq hIq
          by_cases hql : q < nb.length
          · have hql' : (q : Int) < (nb.length : Int) := by omega
            have hq0 : (0 : Int) ≤ (q : Int) := by omega
            obtain ⟨aB, hAB, hcB⟩ := Kd.at_int (Kd.C_below HY.out.2.2.2.1 HQ3.out.1) (q : Int) hq0 hql'
            subst hAB
            obtain ⟨k, hk⟩ : ∃ k, k = nb.getD q 0 := ⟨_, rfl⟩
            rw [Int.toNat_natCast, rd_int, ← hk] at hcB
            have hkm : k ∈ nb := by rw [hk, List.getD_eq_getElem?_getD, List.getElem?_eq_getElem hql]; exact List.getElem_mem _
            have hkp : k < p := HN.out.2.1 p hpN k (by rw [← HY.out.2.2.2.2]; exact hkm)
            have hkN : k < N := by omega
            have hk0 : (0 : Int) ≤ (k : Int) := by omega
            have hkN' : (k : Int) < (N : Int) := by omega
            have hcI := HQ3.out.2.2.1.cell k hkN
            have hfI := HQ3.out.2.2.1.soft k hkN
            have HK := Lib.hid (show nb.take (q + 1) = nb.take q ++ [k] by rw [List.take_add_one, hk, List.getD_eq_getElem?_getD, List.getElem?_eq_getElem hql]; rfl)
            clear hk hkm
            go_wp2_with fail
            refine ⟨⟨q + 1, updB2 I' k, by rw [Int.natCast_add]; rfl, by omega, HQ3.out.1.setCell (Nat.le_refl _) _, Kd.R_far HQ3.out.2.1 (fun j hj => by have h : w3.heap.size < j := hj; exact Nat.ne_of_gt h) _, HQ3.out.2.2.1.putB hkN, fun x => ?_⟩, by simp [intOf]; omega⟩
            rw [HK.out, List.mem_append, List.mem_singleton]
            unfold updB2
            by_cases e1 : x = k
            · rw [if_pos e1]; simp [e1]
            · rw [if_neg e1, HQ3.out.2.2.2 x]; simp [e1]
          · have hql' : ¬ (q : Int) < (nb.length : Int) := by omega
            have hqe : q = nb.length := by omega
            go_wp2_with fail
            refine ⟨⟨p, (p : Int) - 1, I', O ++ [p], rfl, rfl, by omega, HQ3.out.1, by rw [show ints (O ++ [p]) = ints O ++ [(p : Int)] by simp [ints]]; exact HQ3.out.2.1, by rw [List.length_append, List.length_singleton]; omega, HQ3.out.2.2.1, HW.out.2.2.2.take hpN HIP.out (HN.out.2.1 p hpN) fun k => ?_⟩, by simp [intOf]⟩
            rw [HQ3.out.2.2.2 k, hqe, List.take_length, HY.out.2.2.2.2]
end
end Go.Proofs.Ytmfcefakpfbaoaa.PMatch
end
