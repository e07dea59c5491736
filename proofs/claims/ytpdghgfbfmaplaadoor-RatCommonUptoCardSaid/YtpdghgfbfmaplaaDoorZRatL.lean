/- Lemmas and contracts for the statement RowRatPowers: merged by wip/assemble.py. -/
import Derived.Test.YtpdghgfbfmaplaaDoorZRatV
section
set_option linter.unusedVariables false
set_option linter.unusedSimpArgs false
namespace Go.Proofs.YtpdghgfbfmaplaaDoor.Wh
open Go.RowKit Go.Proofs.YtpdghgfbfmaplaaDoor.Num Go.Proofs.YtpdghgfbfmaplaaDoor.Dec
theorem tell_yes {q : Rat} (h : (tellB q).2 = 0) : Short q ∧ tellB q = (bsOf (strF q), 0) := by
  unfold tellB at h ⊢
  split at h
  · rename_i hs; rw [if_pos hs]; exact ⟨hs, rfl⟩
  · cases h
theorem strW_short {z : Int} (h : (dec z.natAbs).length ≤ 300) : (strW z).length ≤ 301 := by
  unfold strW
  split
  · rw [List.length_cons]; omega
  · omega
theorem strF_short {q : Rat} (h : Short q) : (strF q).length ≤ 602 := by
  have h1 := strW_short h.1
  have h2 := h.2
  unfold strF
  split
  · omega
  · rw [List.length_append, List.length_cons]; omega
theorem bs_size (l : List UInt8) : (bsOf l).size = l.length := by simp [bsOf, ByteArray.size]
theorem tell_size (q : Rat) : (tellB q).1.size ≤ 602 := by
  unfold tellB
  split
  · rename_i h; rw [bs_size]; exact strF_short h
  · decide
theorem num_size {s : ByteArray} {q : Rat} (h : numB s = some q) : s.size ≤ 602 := by
  obtain ⟨rfl, h2⟩ := numB_some.1 h
  rw [bs_size]; exact strF_short h2
theorem bin_yes {f : Rat → Rat → Rat} {a b : ByteArray} {q p : Rat} (ha : numB a = some q) (hb : numB b = some p) : rBin f a b = tellB (f q p) := by rw [rBin, ha, hb]
def Res (k : Bool) (s : ByteArray) (q : Rat) : Prop := k = true → numB s = some q
noncomputable def rOk (r : ByteArray × Int) : ByteArray × Bool := (r.1, r.2 == 0)
noncomputable def rPrd (a b : ByteArray) : ByteArray × Bool := rOk (rMul a b)
theorem tell_res {q : Rat} {s : ByteArray} {k : Bool} (h : rOk (tellB q) = (s, k)) : Res k s q := by
  intro hk
  subst hk
  unfold rOk at h
  injection h with h1 h2
  obtain ⟨h3, h4⟩ := tell_yes (q := q) (by simpa using h2)
  rw [← h1, h4]; exact numB_str h3
theorem res_prd {a b s : ByteArray} {k m l : Bool} {q p : Rat} (ha : Res k a q) (hb : Res m b p) (h : rPrd a b = (s, l)) (hk : k = true) (hm : m = true) : Res l s (q * p) :=
  tell_res (by rw [← h, rPrd, rMul, bin_yes (ha hk) (hb hm)])
theorem num_inj {s t : ByteArray} {q p : Rat} (hs : numB s = some q) (ht : numB t = some p) (h : q = p) : s = t := by
  rw [(numB_some.1 hs).1, (numB_some.1 ht).1, h]
section
variable {w : World}
set_option maxRecDepth 100000 in
set_option maxHeartbeats 1000000 in
theorem c_prd {a b s : ByteArray} {k : Bool} (ha : a.size ≤ 140737488351232) (hb : b.size ≤ 140737488351232) (h : rPrd a b = (s, k)) :
    Calls Tryd.prog 19 #[.string a, .string b] w fun e w' => e = .returned (.tuple #[.string s, .bool k]) ∧ Below w.heap.size w w' := by
  obtain ⟨r, n, hr⟩ : ∃ r n, rMul a b = (r, n) := ⟨_, _, rfl⟩
  have HE := Lib.hid (show r = s ∧ (n == 0) = k from by rw [rPrd, rOk, hr] at h; injection h with h1 h2; exact ⟨h1, h2⟩)
  have HC := Lib.hid (fun (W : World) => c_rMul (w := W) a b ha hb)
  rw [hr] at HC
  clear ha hb h hr
  go_enter Tryd.func19, Tryd.ntmps19
  go_wp2_with fail
  refine (HC.out _).mono ?_
  rintro e w1 ⟨rfl, hb1⟩
  go_wp2_with fail
  go_ret2
  exact ⟨by rw [HE.out.1, HE.out.2]; rfl, blq⟩
theorem c_named {F : Nat} {args : Array Value} {r : ByteArray × Int} {s : ByteArray} {n : Int} (h : r = (s, n)) (hc : Calls Tryd.prog F args w fun e w' => e = .returned (.tuple #[.string r.1, .int .i64 r.2]) ∧ Below w.heap.size w w') :
    Calls Tryd.prog F args w fun e w' => e = .returned (.tuple #[.string s, .int .i64 n]) ∧ Below w.heap.size w w' := by
  subst h; exact hc
end
end Go.Proofs.YtpdghgfbfmaplaaDoor.Wh
end
