/- Lemmas for RowBltAny. -/
import Derived.Test.YtmfcefakpfbaoaaZBmO
import Derived.Test.YtmfcefakpfbaoaaQG
section
set_option linter.unusedVariables false
set_option linter.unusedSimpArgs false
namespace Go.Proofs.Ytmfcefakpfbaoaa.PMatch
open Go.RowKit Go.Proofs.YtmfcefakpfbaoaaW.PrintWords Go.Proofs.YtmfcefakpfbaoaaW.PrintLast Go.Proofs.YtmfcefakpfbaoaaW.PrintMore
open Blt (ints blocksB needsB levelsB)
theorem C_zero {α : Type} (d : Kd α) (w : World) (g : Nat) : d.C w (some ⟨g, 0, none⟩) 0 [] := ⟨rfl, by simp, fun h => absurd h (Nat.lt_irrefl 0)⟩
theorem C_snoc {α : Type} {d : Kd α} {w : World} {g n : Nat} {xs : List α} {x : α} {c : List Value} (h : d.C w (some ⟨g, 0, none⟩) n xs) (hn : n < 1000) (hk : d.K w x c) (hc : ∀ (i : Nat) u, c[i]? = some u → w.cell? ⟨g, n * d.sz + i, none⟩ = some u) : d.C w (some ⟨g, 0, none⟩) (n + 1) (xs ++ [x]) := by
  refine ⟨by rw [List.length_append, h.1]; rfl, by omega, fun _ => ⟨_, rfl, fun j p hj => ?_⟩⟩
  by_cases hjn : j < n
  · obtain ⟨ad, hA, hr⟩ := h.2.2 (by omega)
    obtain rfl := Option.some.inj hA
    rw [List.getElem?_append_left (by rw [h.1]; exact hjn)] at hj
    exact hr j p hj
  · have hjl := (List.getElem?_eq_some_iff.1 hj).1
    rw [List.length_append, h.1] at hjl
    have hje : j = n := by simp at hjl; omega
    subst hje
    rw [List.getElem?_append_right (by rw [h.1]; exact Nat.le_refl _), h.1, Nat.sub_self] at hj
    obtain rfl : x = p := by simpa using hj
    refine ⟨c, d.K_len hk, hk, fun i u hu => ?_⟩
    have h9 := hc i u hu
    have h10 : (⟨g, 0, none⟩ : Addr).add (j * d.sz + i) = ⟨g, j * d.sz + i, none⟩ := by
      unfold Addr.add; split
      · simp_all
      · simp
    rw [h10]; exact h9
section
variable {w : World} {g n : Nat}
theorem C_snocS {xs : List ByteArray} {x : ByteArray} {o : Nat} (h : Kd.string.C w (some ⟨g, 0, none⟩) n xs) (hn : n < 1000) (ho : n = o) (hc : w.cell? ⟨g, o, none⟩ = some (.string x)) : Kd.string.C w (some ⟨g, 0, none⟩) (n + 1) (xs ++ [x]) :=
  C_snoc h hn (c := [.string x]) rfl (fun i u hu => by
    rcases i with _ | i
    · subst ho; injection hu with hu; subst hu; exact (by simpa [Kd.string, Kd.scalar] using hc)
    · simp at hu)
theorem C_snocI {xs : List Int} {x : Int} {o : Nat} (h : (Kd.int .i64).C w (some ⟨g, 0, none⟩) n xs) (hn : n < 1000) (ho : n = o) (hc : w.cell? ⟨g, o, none⟩ = some (.int .i64 x)) : (Kd.int .i64).C w (some ⟨g, 0, none⟩) (n + 1) (xs ++ [x]) :=
  C_snoc h hn (c := [.int .i64 x]) rfl (fun i u hu => by
    rcases i with _ | i
    · subst ho; injection hu with hu; subst hu; exact (by simpa [Kd.int, Kd.scalar] using hc)
    · simp at hu)
theorem C_snocL {xs : List (List Int)} {x : List Int} {A : Option Addr} {m c o : Nat} (h : (Kd.slice 3 (Kd.int .i64)).C w (some ⟨g, 0, none⟩) n xs) (hn : n < 1000) (ho : n = o) (hm : x.length = m) (hmc : m ≤ c) (hc : w.cell? ⟨g, o, none⟩ = some (.slice A m c)) (hr : (Kd.int .i64).C w A m x) : (Kd.slice 3 (Kd.int .i64)).C w (some ⟨g, 0, none⟩) (n + 1) (xs ++ [x]) := by
  subst hm
  exact C_snoc h hn (c := [.slice A x.length c]) ⟨_, _, rfl, hmc, hr⟩ (fun i u hu => by
    rcases i with _ | i
    · subst ho; injection hu with hu; subst hu; exact (by simpa [Kd.slice] using hc)
    · simp at hu)
theorem C_snocU {xs : List S47} {x : S47} {o : Nat} (h : k47.C w (some ⟨g, 0, none⟩) n xs) (hn : n < 1000) (ho : n * 3 = o) (h0 : w.cell? ⟨g, o, none⟩ = some (.string x.f0)) (h1 : w.cell? ⟨g, o + 1, none⟩ = some (.int .i64 x.f1)) (h2 : w.cell? ⟨g, o + 2, none⟩ = some (.bool x.f2)) : k47.C w (some ⟨g, 0, none⟩) (n + 1) (xs ++ [x]) :=
  C_snoc h hn (k47_mk w x) (fun i u hu => by
    subst ho
    rcases i with _ | _ | _ | i
    · injection hu with hu; subst hu; exact h0
    · injection hu with hu; subst hu; exact h1
    · injection hu with hu; subst hu; exact h2
    · simp at hu)
theorem C_snocP {xs : List (List ByteArray × List S47)} {x : List ByteArray × List S47} {A0 A1 : Option Addr} {m0 m1 c0 c1 o : Nat} (h : partK.C w (some ⟨g, 0, none⟩) n xs) (hn : n < 1000) (ho : n * 2 = o) (hm0 : x.1.length = m0) (hm1 : x.2.length = m1) (hc0 : m0 ≤ c0) (hc1 : m1 ≤ c1) (h0 : w.cell? ⟨g, o, none⟩ = some (.slice A0 m0 c0)) (h1 : w.cell? ⟨g, o + 1, none⟩ = some (.slice A1 m1 c1)) (hr0 : Kd.string.C w A0 m0 x.1) (hr1 : k47.C w A1 m1 x.2) : partK.C w (some ⟨g, 0, none⟩) (n + 1) (xs ++ [x]) := by
  subst hm0; subst hm1
  exact C_snoc h hn (c := [.slice A0 x.1.length c0, .slice A1 x.2.length c1]) ⟨[.slice A0 x.1.length c0], [.slice A1 x.2.length c1], rfl, ⟨_, _, rfl, hc0, hr0⟩, ⟨_, _, rfl, hc1, hr1⟩⟩ (fun i u hu => by
    subst ho
    rcases i with _ | _ | i
    · injection hu with hu; subst hu; exact h0
    · injection hu with hu; subst hu; exact h1
    · simp at hu)
end
def P1 : List (List ByteArray × List S47) := [([chr 98], [useC 120]), ([chr 97], [useC 121]), ([chr 99], [useC 122])]
theorem parts1 : [[1], [0], [2]].map (partOf E1 U1 [1, 0, 2]) = P1 := by kernel_rfl
structure Aw (w : World) (x y z g A0 A1 A2 : Nat) (W : World) : Prop where
  bel : Below w.heap.size w W
  x0 : W.cell? ⟨x, 0, none⟩ = some (.string (chr 120))
  x1 : W.cell? ⟨x, 1, none⟩ = some (.int .i64 0)
  x2 : W.cell? ⟨x, 2, none⟩ = some (.bool false)
  y0 : W.cell? ⟨y, 0, none⟩ = some (.string (chr 121))
  y1 : W.cell? ⟨y, 1, none⟩ = some (.int .i64 0)
  y2 : W.cell? ⟨y, 2, none⟩ = some (.bool false)
  z0 : W.cell? ⟨z, 0, none⟩ = some (.string (chr 122))
  z1 : W.cell? ⟨z, 1, none⟩ = some (.int .i64 0)
  z2 : W.cell? ⟨z, 2, none⟩ = some (.bool false)
  g0 : W.cell? ⟨g, 0, none⟩ = some (.slice (some ⟨A0, 0, none⟩) 3 3)
  g1 : W.cell? ⟨g, 1, none⟩ = some (.slice (some ⟨A1, 0, none⟩) 3 3)
  g2 : W.cell? ⟨g, 2, none⟩ = some (.slice (some ⟨A2, 0, none⟩) 3 3)
  c0 : Kd.string.C W (some ⟨A0, 0, none⟩) 3 E1
  c1 : k47.C W (some ⟨A1, 0, none⟩) 3 U1
  c2 : (Kd.slice 3 (Kd.int .i64)).C W (some ⟨A2, 0, none⟩) 3 J1
theorem Aw.below {w W W' : World} {x y z g A0 A1 A2 : Nat} (h : Aw w x y z g A0 A1 A2 W) (hb : Below W.heap.size W W') : Aw w x y z g A0 A1 A2 W' :=
  { bel := h.bel.trans (hb.mono h.bel.size)
    x0 := pw_cell_below hb h.x0
    x1 := pw_cell_below hb h.x1
    x2 := pw_cell_below hb h.x2
    y0 := pw_cell_below hb h.y0
    y1 := pw_cell_below hb h.y1
    y2 := pw_cell_below hb h.y2
    z0 := pw_cell_below hb h.z0
    z1 := pw_cell_below hb h.z1
    z2 := pw_cell_below hb h.z2
    g0 := pw_cell_below hb h.g0
    g1 := pw_cell_below hb h.g1
    g2 := pw_cell_below hb h.g2
    c0 := Kd.C_below h.c0 hb
    c1 := Kd.C_below h.c1 hb
    c2 := Kd.C_below h.c2 hb }
theorem C_str3 {W : World} {g : Nat} {a b c : ByteArray} (h0 : W.cell? ⟨g, 0, none⟩ = some (.string a)) (h1 : W.cell? ⟨g, 1, none⟩ = some (.string b)) (h2 : W.cell? ⟨g, 2, none⟩ = some (.string c)) : Kd.string.C W (some ⟨g, 0, none⟩) 3 [a, b, c] :=
  C_snocS (C_snocS (C_snocS (C_zero _ _ _) (by decide) rfl h0) (by decide) rfl h1) (by decide) rfl h2
theorem C_str2 {W : World} {g : Nat} {a b : ByteArray} (h0 : W.cell? ⟨g, 0, none⟩ = some (.string a)) (h1 : W.cell? ⟨g, 1, none⟩ = some (.string b)) : Kd.string.C W (some ⟨g, 0, none⟩) 2 [a, b] :=
  C_snocS (C_snocS (C_zero _ _ _) (by decide) rfl h0) (by decide) rfl h1
theorem C_str1 {W : World} {g : Nat} {a : ByteArray} (h0 : W.cell? ⟨g, 0, none⟩ = some (.string a)) : Kd.string.C W (some ⟨g, 0, none⟩) 1 [a] :=
  C_snocS (C_zero _ _ _) (by decide) rfl h0
theorem C_int3 {W : World} {g : Nat} {a b c : Int} (h0 : W.cell? ⟨g, 0, none⟩ = some (.int .i64 a)) (h1 : W.cell? ⟨g, 1, none⟩ = some (.int .i64 b)) (h2 : W.cell? ⟨g, 2, none⟩ = some (.int .i64 c)) : (Kd.int .i64).C W (some ⟨g, 0, none⟩) 3 [a, b, c] :=
  C_snocI (C_snocI (C_snocI (C_zero _ _ _) (by decide) rfl h0) (by decide) rfl h1) (by decide) rfl h2
theorem C_int2 {W : World} {g : Nat} {a b : Int} (h0 : W.cell? ⟨g, 0, none⟩ = some (.int .i64 a)) (h1 : W.cell? ⟨g, 1, none⟩ = some (.int .i64 b)) : (Kd.int .i64).C W (some ⟨g, 0, none⟩) 2 [a, b] :=
  C_snocI (C_snocI (C_zero _ _ _) (by decide) rfl h0) (by decide) rfl h1
theorem C_int1 {W : World} {g : Nat} {a : Int} (h0 : W.cell? ⟨g, 0, none⟩ = some (.int .i64 a)) : (Kd.int .i64).C W (some ⟨g, 0, none⟩) 1 [a] :=
  C_snocI (C_zero _ _ _) (by decide) rfl h0
theorem C_use1 {W : World} {g : Nat} {a : UInt8} (h0 : W.cell? ⟨g, 0, none⟩ = some (.string (chr a))) (h1 : W.cell? ⟨g, 1, none⟩ = some (.int .i64 0)) (h2 : W.cell? ⟨g, 2, none⟩ = some (.bool false)) : k47.C W (some ⟨g, 0, none⟩) 1 [useC a] :=
  C_snocU (C_zero _ _ _) (by decide) rfl h0 h1 h2
theorem C_use2 {W : World} {g : Nat} {a b : UInt8} (h0 : W.cell? ⟨g, 0, none⟩ = some (.string (chr a))) (h1 : W.cell? ⟨g, 1, none⟩ = some (.int .i64 0)) (h2 : W.cell? ⟨g, 2, none⟩ = some (.bool false)) (h3 : W.cell? ⟨g, 3, none⟩ = some (.string (chr b))) (h4 : W.cell? ⟨g, 4, none⟩ = some (.int .i64 0)) (h5 : W.cell? ⟨g, 5, none⟩ = some (.bool false)) : k47.C W (some ⟨g, 0, none⟩) 2 [useC a, useC b] :=
  C_snocU (C_use1 h0 h1 h2) (by decide) rfl h3 h4 h5
theorem C_use3 {W : World} {g : Nat} {a b c : UInt8} (h0 : W.cell? ⟨g, 0, none⟩ = some (.string (chr a))) (h1 : W.cell? ⟨g, 1, none⟩ = some (.int .i64 0)) (h2 : W.cell? ⟨g, 2, none⟩ = some (.bool false)) (h3 : W.cell? ⟨g, 3, none⟩ = some (.string (chr b))) (h4 : W.cell? ⟨g, 4, none⟩ = some (.int .i64 0)) (h5 : W.cell? ⟨g, 5, none⟩ = some (.bool false))
    (h6 : W.cell? ⟨g, 6, none⟩ = some (.string (chr c))) (h7 : W.cell? ⟨g, 7, none⟩ = some (.int .i64 0)) (h8 : W.cell? ⟨g, 8, none⟩ = some (.bool false)) : k47.C W (some ⟨g, 0, none⟩) 3 [useC a, useC b, useC c] :=
  C_snocU (C_use2 h0 h1 h2 h3 h4 h5) (by decide) rfl h6 h7 h8
set_option maxRecDepth 100000 in
set_option maxHeartbeats 4000000 in
theorem c_awake {w : World} : Calls Try.prog 10 #[] w fun e w' => e = .returned (.bool true) ∧ Below w.heap.size w w' := by
  have hu22 := Try.underlying22
  have hu23 := Try.underlying23
  have hu24 := Try.underlying24
  have hu26 := Try.underlying26
  have hu31 := Try.underlying31
  have hu47 := Try.underlying47
  have hu42 := Try.underlying42
  have hu27 := Try.underlying27
  go_enter Try.func10, Try.ntmps10
  go_upto_region 2 with fail
  go_cut [1, 2, 3, 4] (fun v1 v2 v3 v4 W => ∃ x y z g A0 A1 A2, v1 = .pointer (some ⟨x, 0, none⟩) ∧ v2 = .pointer (some ⟨y, 0, none⟩) ∧ v3 = .pointer (some ⟨z, 0, none⟩) ∧ v4 = .pointer (some ⟨g, 0, none⟩) ∧ Aw w x y z g A0 A1 A2 W)
  case first =>
    go_wp2_with fail
    go_meet
    refine ⟨_, _, _, _, w.heap.size + 1 + 1 + 1, w.heap.size + 1 + 1 + 1 + 1, w.heap.size + 1 + 1 + 1 + 1 + 1 + 1 + 1 + 1, rfl, rfl, rfl, rfl, ?_⟩
    refine { bel := ?_, x0 := ?_, x1 := ?_, x2 := ?_, y0 := ?_, y1 := ?_, y2 := ?_, z0 := ?_, z1 := ?_, z2 := ?_, g0 := ?_, g1 := ?_, g2 := ?_, c0 := C_str3 ?_ ?_ ?_, c1 := C_use3 ?_ ?_ ?_ ?_ ?_ ?_ ?_ ?_ ?_, c2 := C_snocL (C_snocL (C_snocL (C_zero _ _ _) (by decide) rfl rfl (Nat.le_refl _) ?_ (C_int2 (g := w.heap.size + 1 + 1 + 1 + 1 + 1) ?_ ?_)) (by decide) rfl rfl (Nat.le_refl _) ?_ (C_int1 (g := w.heap.size + 1 + 1 + 1 + 1 + 1 + 1) ?_)) (by decide) rfl rfl (Nat.le_refl _) ?_ (C_int2 (g := w.heap.size + 1 + 1 + 1 + 1 + 1 + 1 + 1) ?_ ?_) }
    · repeat (with_reducible refine below_alloc ?_ _)
      exact Below.refl _ _
    all_goals (first | (go_simp; first | done | rfl | fail) | fail)
  case rest =>
    obtain ⟨x, y, z, g, A0, A1, A2, rfl, rfl, rfl, rfl, hA⟩ := hcut
    have q0 := hA.g0
    have q1 := hA.g1
    have q2 := hA.g2
    have HA := Lib.hid hA
    clear hA
    go_wp2_with fail
    refine (c_Blocks valid1 matched1 has1 (c0 := 3) (c1 := 3) (c2 := 3) HA.out.c0 (by decide) HA.out.c1 (by decide) HA.out.c2 (by decide)).mono ?_
    rintro ex w4 ⟨A, c, he, hb4, hc4, hC4⟩
    replace he : ex = .returned (.tuple #[.slice A 3 c, .int .i64 0]) := by rw [he, show blocksB E1.length (ndB J1 [1, 0, 2]) = [[1], [0], [2]] from blocks1]; rfl
    rw [show blocksB E1.length (ndB J1 [1, 0, 2]) = [[1], [0], [2]] from blocks1, parts1] at hC4
    subst he
    have HA4 := Lib.hid (And.intro (HA.out.below hb4) (show Kd.C partK w4 A 3 P1 from hC4))
    clear hb4 hc4 hC4 q0 q1 q2
    have q0 := HA4.out.1.g0
    have q1 := HA4.out.1.g1
    have q2 := HA4.out.1.g2
    go_wp2_with fail
    refine (c_Needs valid1 matched1 has1 (c0 := 3) (c1 := 3) (c2 := 3) HA4.out.1.c0 (by decide) HA4.out.1.c1 (by decide) HA4.out.1.c2 (by decide)).mono ?_
    rintro ex w5 ⟨A5, c5, he, hb5, hc5, hC5⟩
    replace he : ex = .returned (.tuple #[.slice A5 3 c5, .int .i64 0]) := by rw [he, show blocksB E1.length (ndB J1 [1, 0, 2]) = [[1], [0], [2]] from blocks1]; rfl
    rw [show blocksB E1.length (ndB J1 [1, 0, 2]) = [[1], [0], [2]] from blocks1, show needsB E1.length (ndB J1 [1, 0, 2]) = [[], [0], [1]] from needs1] at hC5
    subst he
    have HA5 := Lib.hid (And.intro (HA4.out.1.below hb5) (And.intro (Kd.C_below HA4.out.2 hb5) (show Kd.C (Kd.slice 3 (Kd.int .i64)) w5 A5 3 [[], [0], [1]] from hC5)))
    clear hb5 hc5 hC5 q0 q1 q2
    have q0 := HA5.out.1.g0
    have q1 := HA5.out.1.g1
    have q2 := HA5.out.1.g2
    go_wp2_with fail
    refine (c_Levels valid1 matched1 has1 (c0 := 3) (c1 := 3) (c2 := 3) HA5.out.1.c0 (by decide) HA5.out.1.c1 (by decide) HA5.out.1.c2 (by decide)).mono ?_
    rintro ex w6 ⟨A6, c6, he, hb6, hc6, hC6⟩
    replace he : ex = .returned (.tuple #[.slice A6 3 c6, .int .i64 0]) := by rw [he, show blocksB E1.length (ndB J1 [1, 0, 2]) = [[1], [0], [2]] from blocks1]; rfl
    rw [show blocksB E1.length (ndB J1 [1, 0, 2]) = [[1], [0], [2]] from blocks1, show needsB E1.length (ndB J1 [1, 0, 2]) = [[], [0], [1]] from needs1, levels1] at hC6
    subst he
    have HA6 := Lib.hid (And.intro (HA5.out.1.below hb6) (And.intro (Kd.C_below HA5.out.2.1 hb6) (And.intro (Kd.C_below HA5.out.2.2 hb6) (show Kd.C (Kd.int .i64) w6 A6 3 [0, 1, 2] from hC6))))
    clear hb6 hc6 hC6 q0 q1 q2
    have q0 := HA6.out.1.g0
    have q1 := HA6.out.1.g1
    have q2 := HA6.out.1.g2
    have x0 := HA6.out.1.x0
    have x1 := HA6.out.1.x1
    have x2 := HA6.out.1.x2
    have y0 := HA6.out.1.y0
    have y1 := HA6.out.1.y1
    have y2 := HA6.out.1.y2
    have z0 := HA6.out.1.z0
    have z1 := HA6.out.1.z1
    have z2 := HA6.out.1.z2
    have hx : x < w6.heap.size := World.block_lt_of_cell? _ _ x0
    have hy : y < w6.heap.size := World.block_lt_of_cell? _ _ y0
    have hz : z < w6.heap.size := World.block_lt_of_cell? _ _ z0
    have hy1 : y < w6.heap.size + 1 := by omega
    have hy2 : y < w6.heap.size + 1 + 1 := by omega
    have hy3 : y < w6.heap.size + 1 + 1 + 1 := by omega
    have hy4 : y < w6.heap.size + 1 + 1 + 1 + 1 := by omega
    have hy5 : y < w6.heap.size + 1 + 1 + 1 + 1 + 1 := by omega
    have hy6 : y < w6.heap.size + 1 + 1 + 1 + 1 + 1 + 1 := by omega
    have hy7 : y < w6.heap.size + 1 + 1 + 1 + 1 + 1 + 1 + 1 := by omega
    have hz1 : z < w6.heap.size + 1 := by omega
    have hz2 : z < w6.heap.size + 1 + 1 := by omega
    have hz3 : z < w6.heap.size + 1 + 1 + 1 := by omega
    have hz4 : z < w6.heap.size + 1 + 1 + 1 + 1 := by omega
    have hz5 : z < w6.heap.size + 1 + 1 + 1 + 1 + 1 := by omega
    have hz6 : z < w6.heap.size + 1 + 1 + 1 + 1 + 1 + 1 := by omega
    have hz7 : z < w6.heap.size + 1 + 1 + 1 + 1 + 1 + 1 + 1 := by omega
    go_wp2_with fail
    refine (c_SameParts (l := P1) ?_ ?_).mono ?_
    · refine Kd.C_below HA6.out.2.1 ?_
      repeat (with_reducible refine below_alloc ?_ _)
      exact Below.refl _ _
    · refine C_snocP (C_snocP (C_snocP (C_zero _ _ _) (by decide) rfl rfl rfl (Nat.le_refl _) (Nat.le_refl _) ?_ ?_ (C_str1 (g := w6.heap.size) ?_) (C_use1 (g := w6.heap.size + 1) ?_ ?_ ?_)) (by decide) rfl rfl rfl (Nat.le_refl _) (Nat.le_refl _) ?_ ?_ (C_str1 (g := w6.heap.size + 1 + 1) ?_) (C_use1 (g := w6.heap.size + 1 + 1 + 1) ?_ ?_ ?_)) (by decide) rfl rfl rfl (Nat.le_refl _) (Nat.le_refl _) ?_ ?_ (C_str1 (g := w6.heap.size + 1 + 1 + 1 + 1) ?_) (C_use1 (g := w6.heap.size + 1 + 1 + 1 + 1 + 1) ?_ ?_ ?_)
      all_goals (first | (go_simp; first | done | rfl | fail) | fail)
    · rintro ex w7 ⟨rfl, hb7⟩
      have hb67 : Below w6.heap.size w6 w7 := by
        refine Below.trans ?_ (hb7.mono ?_)
        · repeat (with_reducible refine below_alloc ?_ _)
          exact Below.refl _ _
        · simp; omega
      have HA7 := Lib.hid (And.intro (HA6.out.1.below hb67) (And.intro (Kd.C_below HA6.out.2.2.1 hb67) (Kd.C_below HA6.out.2.2.2 hb67)))
      clear hb7 hb67 q0 q1 q2 x0 x1 x2 y0 y1 y2 z0 z1 z2
      go_wp2_with fail
      refine (c_SameLists (l := [[], [0], [1]]) ?_ ?_).mono ?_
      · refine Kd.C_below HA7.out.2.1 ?_
        repeat (with_reducible refine below_alloc ?_ _)
        exact Below.refl _ _
      · refine C_snocL (C_snocL (C_snocL (C_zero _ _ _) (by decide) rfl rfl (Nat.le_refl _) ?_ (Kd.C_nil _ _)) (by decide) rfl rfl (Nat.le_refl _) ?_ (C_int1 (g := w7.heap.size) ?_)) (by decide) rfl rfl (Nat.le_refl _) ?_ (C_int1 (g := w7.heap.size + 1) ?_)
        all_goals (first | (go_simp; first | done | rfl | fail) | fail)
      · rintro ex w8 ⟨rfl, hd8⟩
        have hb78 : Below w7.heap.size w7 w8 := by
          refine Below.trans ?_ (hd8.below.mono ?_)
          · repeat (with_reducible refine below_alloc ?_ _)
            exact Below.refl _ _
          · simp; omega
        have HA8 := Lib.hid (And.intro (HA7.out.1.below hb78) (Kd.C_below HA7.out.2.2 hb78))
        clear hd8 hb78
        go_wp2_with fail
        refine (c_SameInts (l := [0, 1, 2]) ?_ (C_int3 ?_ ?_ ?_)).mono ?_
        · exact Kd.C_below HA8.out.2 (below_alloc (Below.refl _ _) _)
        · go_simp
        · go_simp
        · go_simp
        · rintro ex w9 ⟨rfl, hd9⟩
          have hb89 : Below w8.heap.size w8 w9 := (below_alloc (Below.refl _ _) _).trans (hd9.below.mono (by simp))
          have HA9 := Lib.hid (HA8.out.1.below hb89)
          clear hd9 hb89
          have x0 := HA9.out.x0
          have x1 := HA9.out.x1
          have x2 := HA9.out.x2
          have y0 := HA9.out.y0
          have y1 := HA9.out.y1
          have y2 := HA9.out.y2
          have hx : x < w9.heap.size := World.block_lt_of_cell? _ _ x0
          have hy : y < w9.heap.size := World.block_lt_of_cell? _ _ y0
          have hx1 : x < w9.heap.size + 1 := by omega
          have hy1 : y < w9.heap.size + 1 := by omega
          go_wp2_with fail
          refine (c_Widest valid2 matched2 has2 (c0 := 2) (c1 := 2) (c2 := 2) (C_str2 ?_ ?_) (by decide) (C_use2 ?_ ?_ ?_ ?_ ?_ ?_) (by decide) (C_snocL (C_snocL (C_zero _ _ _) (by decide) rfl rfl (Nat.le_refl _) ?_ (C_int2 (g := w9.heap.size + 1 + 1) ?_ ?_)) (by decide) rfl rfl (Nat.le_refl _) ?_ (C_int2 (g := w9.heap.size + 1 + 1 + 1) ?_ ?_)) (by decide)).mono ?_
          rotate_right
          · rintro ex w10 ⟨he, hb10⟩
            replace he : ex = .returned (.tuple #[.int .i64 2, .int .i64 0]) := by rw [he, show blocksB E2.length (ndB J2 [0, 1]) = [[0, 1]] from blocks2]; rfl
            subst he
            have hb9 : Below w9.heap.size w9 w10 := by
              refine Below.trans ?_ (hb10.mono ?_)
              · repeat (with_reducible refine below_alloc ?_ _)
                exact Below.refl _ _
              · simp; omega
            have HB := Lib.hid (HA9.out.bel.trans (hb9.mono HA9.out.bel.size))
            clear hb10 hb9
            go_wp2_with fail
            go_ret
            exact ⟨rfl, HB.out⟩
          all_goals (first | (go_simp; first | done | rfl | fail) | fail)
end Go.Proofs.Ytmfcefakpfbaoaa.PMatch
end
