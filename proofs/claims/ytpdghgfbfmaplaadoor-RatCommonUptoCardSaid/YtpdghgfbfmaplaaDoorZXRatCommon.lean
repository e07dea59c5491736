/- Further lemmas for the statement RatCommon: merged by wip/extra.py. -/
import Derived.Test.YtpdghgfbfmaplaaDoorZRatL
section
namespace Go.Proofs.YtpdghgfbfmaplaaDoorW.PrintMore
open Go.RowKit Go.Proofs.YtpdghgfbfmaplaaDoorW.PrintWords
namespace Kd
open Go.Proofs.YtpdghgfbfmaplaaDoorW.PrintWords.Kd
end Kd
namespace Kd
open Go.Proofs.YtpdghgfbfmaplaaDoorW.PrintWords.Kd
section
variable {α : Type} {d : Kd α} {e base g N : Nat} {ok : Nat → Prop} {W w1 : World} {u v : Value} {xs : List α}
end
end Kd
end Go.Proofs.YtpdghgfbfmaplaaDoorW.PrintMore
namespace Go.Proofs.YtpdghgfbfmaplaaDoorW.PrintWords
open Go.RowKit
section
variable {P : Program} {ops : Array Oper} {rest : List Oper} {o : Oper} {a : Act} {Q : Exit → Act → World → Prop} {W : World}
end
namespace Kd
section
variable {α : Type} {d : Kd α} {e base : Nat} {ok : Nat → Prop} {W w1 : World} {v : Value} {xs : List α}
end
section
variable {α : Type} {d : Kd α} {e base g n cap : Nat} {ok oki okp : Nat → Prop} {W : World} {xs : List α} {i : Int} {c : List Value}
end
section
variable {α : Type} {d : Kd α} {e base b b' g N : Nat} {ok ok1 : Nat → Prop} {W W2 w1 : World} {u v : Value} {xs ys : List α} {S : Nat → Prop}
end
end Kd
end Go.Proofs.YtpdghgfbfmaplaaDoorW.PrintWords
namespace Go.Proofs.YtpdghgfbfmaplaaDoorW.PrintWords
open Go.RowKit
namespace Kd
section
variable {α β : Type} {d : Kd α} {e base base' n m c g N' lo hi : Nat} {ok ok' S : Nat → Prop} {w W w1 : World} {A : Option Addr} {ad : Addr} {u v v1 : Value} {xs : List α}
theorem foot_string {l : List ByteArray} (h : Kd.string.C w (some ad) n l) (i : Int) (h0 : 0 ≤ i) (h1 : i < n) : w.cell? (ad.add i.toNat) = some (.string (rdOf ByteArray.empty l i)) := by
  obtain ⟨ad', he, hc⟩ := at_string h i h0 h1
  injection he with he
  subst he
  exact hc
end
end Kd
end Go.Proofs.YtpdghgfbfmaplaaDoorW.PrintWords
end
section
set_option linter.unusedVariables false
namespace Go.Proofs.YtpdghgfbfmaplaaDoor.Wh
open Go.RowKit Go.Proofs.YtpdghgfbfmaplaaDoor.Num Go.Proofs.YtpdghgfbfmaplaaDoor.Dec
noncomputable def rDiv (a b : ByteArray) : ByteArray × Int := if b = ⟨#[48]⟩ ∧ (numB a).isSome = true then (nob, 12) else rBin (· / ·) a b
end Go.Proofs.YtpdghgfbfmaplaaDoor.Wh
end
section
set_option linter.unusedVariables false
set_option linter.unusedSimpArgs false
namespace Go.Proofs.YtpdghgfbfmaplaaDoor.Wh
open Go.RowKit Go.Proofs.YtpdghgfbfmaplaaDoorW.PrintWords Go.Proofs.YtpdghgfbfmaplaaDoor.Num Go.Proofs.YtpdghgfbfmaplaaDoor.Dec
section
variable {w : World}
set_option maxRecDepth 100000 in
set_option maxHeartbeats 4000000 in
theorem c_rDiv_z (a b : ByteArray) (ha : a.size ≤ 140737488351232) (hb : b.size ≤ 140737488351232) (hb0 : b = ⟨#[48]⟩) (hi : (numB a).isSome = true) :
    Calls Tryd.prog 14 #[.string a, .string b] w fun e w' => e = .returned (.tuple #[.string (rDiv a b).1, .int .i64 (rDiv a b).2]) ∧ Below w.heap.size w w' := by
  have HA := Lib.hid ha
  have HB := Lib.hid hb
  clear ha hb
  have HI := Lib.hid (show rIs a = true from hi)
  have HE := Lib.hid (show rDiv a b = (nob, 12) from if_pos ⟨hb0, hi⟩)
  subst hb0
  clear hi
  have HF0 := Lib.hid (show Fr [] (w.heap.size) w from (Fr.nil (by simp)))
  go_enter Tryd.func14, Tryd.ntmps14
  go_wp2_with fail
  refine (c_rIs' a HA.out HI.out).mono ?_
  rintro e w1 ⟨rfl, hb1⟩
  have HF1 := Lib.hid (show Fr [] (w.heap.size) w1 from HF0.out.go blq)
  have hz1 : w.heap.size ≤ w1.heap.size := HF1.out.1
  go_wp2_with fail
  go_ret2
  exact ⟨by rw [HE.out]; rfl, blq⟩
set_option maxRecDepth 100000 in
set_option maxHeartbeats 4000000 in
theorem c_rDiv_i (a b : ByteArray) (ha : a.size ≤ 140737488351232) (hb : b.size ≤ 140737488351232) (hb0 : b = ⟨#[48]⟩) (hi : (numB a).isSome = false) :
    Calls Tryd.prog 14 #[.string a, .string b] w fun e w' => e = .returned (.tuple #[.string (rDiv a b).1, .int .i64 (rDiv a b).2]) ∧ Below w.heap.size w w' := by
  have HA := Lib.hid ha
  have HB := Lib.hid hb
  clear ha hb
  have HI := Lib.hid (show rIs a = false from hi)
  have HE := Lib.hid (show rDiv a b = rBin (· / ·) a b from if_neg (fun h => by rw [hi] at h; cases h.2))
  have HNZ := Lib.hid (show ∀ q p : Rat, numB a = some q → numB b = some p → p ≠ 0 from fun q p h _ => by rw [h] at hi; cases hi)
  subst hb0
  clear hi
  have HF0 := Lib.hid (show Fr [] (w.heap.size) w from (Fr.nil (by simp)))
  go_enter Tryd.func14, Tryd.ntmps14
  go_wp2_with fail
  refine (c_rIs' a HA.out HI.out).mono ?_
  rintro e w1 ⟨rfl, hb1⟩
  have HF1 := Lib.hid (show Fr [] (w.heap.size) w1 from HF0.out.go blq)
  have hz1 : w.heap.size ≤ w1.heap.size := HF1.out.1
  go_wp2_with fail
  refine (c_two (F := 39) (f := (· / ·)) (K := 34 + 34 + 1) a ⟨#[48]⟩ HA.out HB.out (by omega) (fun args W => by simp [go_sem]) (fun x y q p W h1 h2 hx hy => c_FDiv (K := 34) (P := fun _ => True) hx hy (HNZ.out q p h1 h2) (by omega) (fun _ _ => trivial))).mono ?_
  rintro e w2 ⟨rfl, hb2⟩
  have HF2 := Lib.hid (show Fr [] (w.heap.size) w2 from HF1.out.go blq)
  have hz2 : w.heap.size ≤ w2.heap.size := HF2.out.1
  go_wp2_with fail
  go_ret2
  exact ⟨by rw [HE.out]; rfl, blq⟩
set_option maxRecDepth 100000 in
set_option maxHeartbeats 4000000 in
theorem c_rDiv_n (a b : ByteArray) (ha : a.size ≤ 140737488351232) (hb : b.size ≤ 140737488351232) (hb0 : ¬ b = ⟨#[48]⟩) :
    Calls Tryd.prog 14 #[.string a, .string b] w fun e w' => e = .returned (.tuple #[.string (rDiv a b).1, .int .i64 (rDiv a b).2]) ∧ Below w.heap.size w w' := by
  have HA := Lib.hid ha
  have HB := Lib.hid hb
  clear ha hb
  have HE := Lib.hid (show rDiv a b = rBin (· / ·) a b from if_neg (fun h => hb0 h.1))
  have HNZ := Lib.hid (show ∀ q p : Rat, numB a = some q → numB b = some p → p ≠ 0 from fun q p _ h h0 => hb0 (by subst h0; rw [(numB_some.1 h).1, strF_zero]))
  have hbq : (b.toList == [48]) = false := by rw [ByteArray.toList_eq]; simpa using fun h => hb0 (bs_of h)
  clear hb0
  have HF0 := Lib.hid (show Fr [] (w.heap.size) w from (Fr.nil (by simp)))
  go_enter Tryd.func14, Tryd.ntmps14
  go_wp2_with fail
  refine (c_two (F := 39) (f := (· / ·)) (K := 34 + 34 + 1) a b HA.out HB.out (by omega) (fun args W => by simp [go_sem]) (fun x y q p W h1 h2 hx hy => c_FDiv (K := 34) (P := fun _ => True) hx hy (HNZ.out q p h1 h2) (by omega) (fun _ _ => trivial))).mono ?_
  rintro e w1 ⟨rfl, hb1⟩
  have HF1 := Lib.hid (show Fr [] (w.heap.size) w1 from HF0.out.go blq)
  have hz1 : w.heap.size ≤ w1.heap.size := HF1.out.1
  go_wp2_with fail
  go_ret2
  exact ⟨by rw [HE.out]; rfl, blq⟩
set_option maxRecDepth 100000 in
set_option maxHeartbeats 4000000 in
theorem c_rDiv (a b : ByteArray) (ha : a.size ≤ 140737488351232) (hb : b.size ≤ 140737488351232) :
    Calls Tryd.prog 14 #[.string a, .string b] w fun e w' => e = .returned (.tuple #[.string (rDiv a b).1, .int .i64 (rDiv a b).2]) ∧ Below w.heap.size w w' := by
  by_cases hb0 : b = ⟨#[48]⟩
  · cases hi : (numB a).isSome with
    | true => exact c_rDiv_z a b ha hb hb0 hi
    | false => exact c_rDiv_i a b ha hb hb0 hi
  · exact c_rDiv_n a b ha hb hb0
end
end Go.Proofs.YtpdghgfbfmaplaaDoor.Wh
end
section
set_option linter.unusedVariables false
set_option linter.unusedSimpArgs false
namespace Go.Proofs.YtpdghgfbfmaplaaDoor.Wh
open Go.RowKit Go.Proofs.YtpdghgfbfmaplaaDoor.Num Go.Proofs.YtpdghgfbfmaplaaDoor.Dec
theorem bin_size (f : Rat → Rat → Rat) (a b : ByteArray) : (rBin f a b).1.size ≤ 602 := by
  unfold rBin
  split
  · exact tell_size _
  · decide
theorem div_size (a b : ByteArray) : (rDiv a b).1.size ≤ 602 := by
  unfold rDiv
  split
  · decide
  · exact bin_size _ _ _
section
variable {w : World}
end
end Go.Proofs.YtpdghgfbfmaplaaDoor.Wh
end
