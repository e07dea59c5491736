/- Further lemmas for the statement RatFloor: merged by wip/extra.py. -/
import Derived.Test.YtpdghgfbfmaplaaDoorZRatL
section
set_option linter.unusedVariables false
namespace Go.Proofs.YtpdghgfbfmaplaaDoor.Wh
open Go.RowKit Go.Proofs.YtpdghgfbfmaplaaDoor.Num Go.Proofs.YtpdghgfbfmaplaaDoor.Dec
noncomputable def rSub : ByteArray → ByteArray → ByteArray × Int := rBin (· - ·)
noncomputable def rCmp (a b : ByteArray) : Int × Int := match numB a, numB b with
  | some x, some y => ((x - y).num.sign, 0)
  | _, _ => (0, 1)
noncomputable def rParts (a : ByteArray) : ByteArray × ByteArray × Int := match numB a with
  | some x => (bsOf (strW x.num), bsOf (dec x.den), 0)
  | none => (nob, nob, 1)
end Go.Proofs.YtpdghgfbfmaplaaDoor.Wh
end
section
set_option linter.unusedVariables false
set_option linter.unusedSimpArgs false
namespace Go.Proofs.YtpdghgfbfmaplaaDoor.Wh
open Go.RowKit Go.Proofs.YtpdghgfbfmaplaaDoorW.PrintWords Go.Proofs.YtpdghgfbfmaplaaDoor.Num Go.Proofs.YtpdghgfbfmaplaaDoor.Dec
section
variable {w : World}
set_option maxRecDepth 100000 in
set_option maxHeartbeats 1000000 in
theorem c_rSub (a b : ByteArray) (ha : a.size ≤ 140737488351232) (hb : b.size ≤ 140737488351232) :
    Calls Tryd.prog 20 #[.string a, .string b] w fun e w' => e = .returned (.tuple #[.string (rSub a b).1, .int .i64 (rSub a b).2]) ∧ Below w.heap.size w w' := by
  have H2 := fun (W : World) => c_two (w := W) (F := 42) (f := (· - ·)) (K := 34 + 34 + 2) a b ha hb (by omega) (fun args W => by simp [go_sem]) (fun x y q p W _ _ hx hy => c_FSub (K := 34) (P := fun _ => True) hx hy (by omega) (fun _ _ => trivial))
  have H2 := Lib.hid H2
  clear ha hb
  go_enter Tryd.func20, Tryd.ntmps20
  go_wp2_with fail
  refine (H2.out _).mono ?_
  rintro e w1 ⟨rfl, hb1⟩
  go_wp2_with fail
  go_ret2
  exact ⟨rfl, blq⟩
end
end Go.Proofs.YtpdghgfbfmaplaaDoor.Wh
end
section
set_option linter.unusedVariables false
set_option linter.unusedSimpArgs false
namespace Go.Proofs.YtpdghgfbfmaplaaDoor.Wh
open Go.RowKit Go.Proofs.YtpdghgfbfmaplaaDoorW.PrintWords Go.Proofs.YtpdghgfbfmaplaaDoor.Num Go.Proofs.YtpdghgfbfmaplaaDoor.Dec
section
variable {w : World}
set_option maxRecDepth 100000 in
set_option maxHeartbeats 1000000 in
theorem c_rCmp (a b : ByteArray) (ha : a.size ≤ 140737488351232) (hb : b.size ≤ 140737488351232) :
    Calls Tryd.prog 16 #[.string a, .string b] w fun e w' => e = .returned (.tuple #[.int .i64 (rCmp a b).1, .int .i64 (rCmp a b).2]) ∧ Below w.heap.size w w' := by
  have HA := Lib.hid ha
  have HB := Lib.hid hb
  clear ha hb
  go_enter Tryd.func16, Tryd.ntmps16
  go_wp2_with fail
  refine (c_parsed (P := fun _ => True) [a, b] (strs_two w a b) (by simp) (by intro s hs; simp at hs; rcases hs with rfl | rfl; exact HA.out; exact HB.out) (fun _ _ => trivial)).mono ?_
  rintro e w1 ⟨⟨qs, xs, v, hq, rfl, hR, hFs⟩ | ⟨hn, rfl⟩, hb1⟩
  · obtain ⟨q, p, h1, h2, rfl⟩ := numsB_two hq
    obtain ⟨x, y, rfl⟩ : ∃ x y, xs = [x, y] := by
      match xs, hFs.1 with
      | [x, y], _ => exact ⟨x, y, rfl⟩
    obtain ⟨g, c, rfl, hfr⟩ := two_row hR
    have HE := Lib.hid (show rCmp a b = ((q - p).num.sign, 0) by rw [rCmp, h1, h2])
    have HX := Lib.hid (hFs.2 0 x q rfl rfl)
    have HY := Lib.hid (hFs.2 1 y p rfl rfl)
    have HFR := Lib.hid hfr
    have HB1 := Lib.hid hb1
    have hg : g < w1.heap.size := hfr.1
    have c0 := hfr.get 0 rfl
    have c1 := hfr.get 1 rfl
    have c2 := hfr.get 2 rfl
    have c3 := hfr.get 3 rfl
    have c4 := hfr.get 4 rfl
    have c5 := hfr.get 5 rfl
    have c6 := hfr.get 6 rfl
    have c7 := hfr.get 7 rfl
    clear hq hR hFs h1 h2 hfr hb1
    go_wp2_with fail
    go_region_held3 (fun W => W.cell? ⟨g, 0, none⟩ = some (.bool x.num.b) ∧ W.cell? ⟨g, 1, none⟩ = some (.slice x.num.A x.num.n x.num.c) ∧ W.cell? ⟨g, 2, none⟩ = some (.bool x.den.b) ∧ W.cell? ⟨g, 3, none⟩ = some (.slice x.den.A x.den.n x.den.c) ∧ W.cell? ⟨g, 4, none⟩ = some (.bool y.num.b) ∧ W.cell? ⟨g, 5, none⟩ = some (.slice y.num.A y.num.n y.num.c) ∧ W.cell? ⟨g, 6, none⟩ = some (.bool y.den.b) ∧ W.cell? ⟨g, 7, none⟩ = some (.slice y.den.A y.den.n y.den.c))
      (exact ⟨(HFR.out.go blq).get 0 rfl, (HFR.out.go blq).get 1 rfl, (HFR.out.go blq).get 2 rfl, (HFR.out.go blq).get 3 rfl, (HFR.out.go blq).get 4 rfl, (HFR.out.go blq).get 5 rfl, (HFR.out.go blq).get 6 rfl, (HFR.out.go blq).get 7 rfl⟩)
      (first
        | (go_at_call 41; go_must (with_reducible refine (c_FCmp (P := fun _ => True) (K := 34) (HX.out.below blq) (HY.out.below blq) (by omega) (fun _ _ => trivial)).mono ?_); rintro e w2 ⟨rfl, hb2⟩))
    go_wp2_with fail
    go_ret2
    exact ⟨by rw [HE.out]; rfl, have hb9 := HB1.out; blq⟩
  · have HE := Lib.hid (show rCmp a b = (0, 1) by
      rcases numsB_two_none hn with h | h
      · rw [rCmp, h]
      · rw [rCmp, h]; cases numB a <;> rfl)
    have HB1 := Lib.hid hb1
    clear hn hb1
    go_wp2_with fail
    go_ret2
    exact ⟨by rw [HE.out]; rfl, have hb9 := HB1.out; blq⟩
set_option maxRecDepth 100000 in
set_option maxHeartbeats 1000000 in
theorem c_rParts (a : ByteArray) (ha : a.size ≤ 140737488351232) :
    Calls Tryd.prog 25 #[.string a] w fun e w' => e = .returned (.tuple #[.string (rParts a).1, .string (rParts a).2.1, .int .i64 (rParts a).2.2]) ∧ Below w.heap.size w w' := by
  have HA := Lib.hid ha
  clear ha
  go_enter Tryd.func25, Tryd.ntmps25
  go_wp2_with fail
  refine (c_FP (P := fun _ => True) a HA.out (fun _ _ => trivial)).mono ?_
  rintro e w1 ⟨x, rfl, hx, hb1⟩
  cases hq : numB a with
  | none =>
    have HE := Lib.hid (show rParts a = (nob, nob, 1) by rw [rParts, hq])
    clear hx hq
    simp only [Option.isSome_none]
    go_wp2_with fail
    go_ret3
    exact ⟨by rw [HE.out]; rfl, blq⟩
  | some q =>
    have HE := Lib.hid (show rParts a = (bsOf (strW q.num), bsOf (dec q.den), 0) by rw [rParts, hq])
    have HX := Lib.hid (hx q hq)
    have HFR := Lib.hid ((Fr.nil (Nat.le_refl w1.heap.size)).new4 (.bool x.num.b) (.slice x.num.A x.num.n x.num.c) (.bool x.den.b) (.slice x.den.A x.den.n x.den.c) 52)
    clear hx hq
    simp only [Option.isSome_some]
    go_wp2_with fail
    go_region_held3 (fun W => W.cell? ⟨w1.heap.size, 0, none⟩ = some (.bool x.num.b) ∧ W.cell? ⟨w1.heap.size, 1, none⟩ = some (.slice x.num.A x.num.n x.num.c) ∧ W.cell? ⟨w1.heap.size, 2, none⟩ = some (.bool x.den.b) ∧ W.cell? ⟨w1.heap.size, 3, none⟩ = some (.slice x.den.A x.den.n x.den.c))
      (exact ⟨(HFR.out.go blq).get 0 rfl, (HFR.out.go blq).get 1 rfl, (HFR.out.go blq).get 2 rfl, (HFR.out.go blq).get 3 rfl⟩)
      (first
        | (go_at_call 35; go_must (with_reducible refine (c_FNum x).mono ?_); rintro e w2 ⟨rfl, hb2⟩)
        | (go_at_call 31; go_must (with_reducible refine (c_FDen x).mono ?_); rintro e w4 ⟨rfl, hb4⟩)
        | (go_at_call_of 48 (Value.agg #[.bool x.num.b, .slice x.num.A x.num.n x.num.c]); go_must (with_reducible refine (c_String (HX.out.hn.below blq) (by have := HX.out.hn.len; omega)).mono ?_); rintro e w3 ⟨rfl, hb3⟩)
        | (go_at_call_of 48 (Value.agg #[.bool x.den.b, .slice x.den.A x.den.n x.den.c]); go_must (with_reducible refine (c_String (HX.out.hd.below blq) (by have := HX.out.hd.len; omega)).mono ?_); rintro e w5 ⟨rfl, hb5⟩))
    go_wp2_with fail
    go_ret3
    exact ⟨by rw [HE.out, strW_nat]; rfl, blq⟩
end
end Go.Proofs.YtpdghgfbfmaplaaDoor.Wh
end
section
set_option linter.unusedVariables false
set_option linter.unusedSimpArgs false
namespace Go.Proofs.YtpdghgfbfmaplaaDoor.Wh
open Go.RowKit Go.Proofs.YtpdghgfbfmaplaaDoor.Num Go.Proofs.YtpdghgfbfmaplaaDoor.Dec
theorem bin_size (f : Rat → Rat → Rat) (a b : ByteArray) : (rBin f a b).1.size ≤ 602 := by
  unfold rBin
  split
  · exact tell_size _
  · decide
theorem un_yes {f : Rat → Rat} {a : ByteArray} {q : Rat} (ha : numB a = some q) : rUn f a = tellB (f q) := by rw [rUn, ha]
noncomputable def rSum (a b : ByteArray) : ByteArray × Bool := rOk (rAdd a b)
theorem res_sum {a b s : ByteArray} {k m l : Bool} {q p : Rat} (ha : Res k a q) (hb : Res m b p) (h : rSum a b = (s, l)) (hk : k = true) (hm : m = true) : Res l s (q + p) :=
  tell_res (by rw [← h, rSum, rAdd, bin_yes (ha hk) (hb hm)])
theorem res_num {a : ByteArray} {q : Rat} (h : numB a = some q) : Res true a q := fun _ => h
theorem ok_size {r : ByteArray × Int} {s : ByteArray} {k : Bool} (h : rOk r = (s, k)) (hr : r.1.size ≤ 602) : s.size ≤ 140737488351232 := by
  unfold rOk at h
  injection h with h1 h2
  rw [← h1]; omega
section
variable {w : World}
set_option maxRecDepth 100000 in
set_option maxHeartbeats 1000000 in
theorem c_sum {a b s : ByteArray} {k : Bool} (ha : a.size ≤ 140737488351232) (hb : b.size ≤ 140737488351232) (h : rSum a b = (s, k)) :
    Calls Tryd.prog 17 #[.string a, .string b] w fun e w' => e = .returned (.tuple #[.string s, .bool k]) ∧ Below w.heap.size w w' := by
  obtain ⟨r, n, hr⟩ : ∃ r n, rAdd a b = (r, n) := ⟨_, _, rfl⟩
  have HE := Lib.hid (show r = s ∧ (n == 0) = k from by rw [rSum, rOk, hr] at h; injection h with h1 h2; exact ⟨h1, h2⟩)
  have HC := Lib.hid (fun (W : World) => c_rAdd (w := W) a b ha hb)
  rw [hr] at HC
  clear ha hb h hr
  go_enter Tryd.func17, Tryd.ntmps17
  go_wp2_with fail
  refine (HC.out _).mono ?_
  rintro e w1 ⟨rfl, hb1⟩
  go_wp2_with fail
  go_ret2
  exact ⟨by rw [HE.out.1, HE.out.2]; rfl, blq⟩
theorem c_namedI {F : Nat} {args : Array Value} {r : Int × Int} {s n : Int} (h : r = (s, n)) (hc : Calls Tryd.prog F args w fun e w' => e = .returned (.tuple #[.int .i64 r.1, .int .i64 r.2]) ∧ Below w.heap.size w w') :
    Calls Tryd.prog F args w fun e w' => e = .returned (.tuple #[.int .i64 s, .int .i64 n]) ∧ Below w.heap.size w w' := by
  subst h; exact hc
theorem cmp_yes {a b : ByteArray} {q p : Rat} (ha : numB a = some q) (hb : numB b = some p) : rCmp a b = ((q - p).num.sign, 0) := by rw [rCmp, ha, hb]
end
end Go.Proofs.YtpdghgfbfmaplaaDoor.Wh
end
