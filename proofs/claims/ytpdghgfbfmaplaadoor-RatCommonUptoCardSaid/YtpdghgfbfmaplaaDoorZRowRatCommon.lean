/- The statement RatCommon: its tied card, by the contract of the law's walk; it holds for every input that the row speaks of, and no condition is added. -/
import Derived.Test.YtpdghgfbfmaplaaDoorRows
import Derived.Test.YtpdghgfbfmaplaaDoorCards
import Derived.Test.YtpdghgfbfmaplaaDoorTie
import Derived.Test.YtpdghgfbfmaplaaDoorZLComm
import Derived.WalkKit
import Derived.ProofKit
import Derived.OpenShut
import Derived.SliceStrings
import Derived.ChangeSame
import Derived.Deep.DeepHandedRow
import Derived.Below
import Derived.SizedLaws
import Derived.LaidMore
import Derived.Lay
namespace Go.Proofs.YtpdghgfbfmaplaaDoor.ratCommon
open Go.ChangeShapes Go.WideShapes Go.ChangeAt Go.RowKit Go.Proofs.YtpdghgfbfmaplaaDoorW.PrintWords
set_option linter.unusedVariables false
set_option maxRecDepth 100000
theorem own : ownKnob Tryd.prog.godebug = none := by kernel_rfl
theorem cells9 : Tryd.prog.cellsOf 9 = 1 := by kernel_rfl
theorem bulk_mem {H : Type} : ∀ (l : List ByteArray), Wh.tot l ≤ 4 * Rows.uptoBulkAll (l.map fun s => DataW.lit (H := H) (.string s.data.toList))
  | [] => Nat.zero_le _
  | s :: l => by
    have := bulk_mem (H := H) l
    simp only [List.map_cons, Wh.tot, Rows.uptoBulkAll, Rows.uptoBulk]
    have : s.data.toList.length = s.size := by rw [Array.length_toList]; rfl
    omega
theorem contract (H : Type) (enc : TypeId × Value → H) (W : World) (base : Nat) (args : Array Value) (ds gs : List (DataW H)) (before : List MemPlace)
    (hval : ∀ (j : Nat) t v, Tryd.f3.params[j]? = some t → args[j]? = some v → Value.okWide Tryd.prog W .any base t v)
    (hW : DataW.Whole enc Tryd.prog Tryd.f3.params.toList Rows.ratCommonSpec.vars false W args.toList ds gs before) (hk : Rows.uptoSmall H (ds ++ gs) = true) :
    Calls Tryd.prog 3 args W fun e W' => ∃ v, e = .returned v ∧ Rows.ratCommonSpec.post enc Tryd.prog Tryd.f3 false true false false W args v W' := by
  have hW' := hW
  obtain ⟨p, q, hA0, hV, rfl, _, _⟩ := hW
  have hA : DataW.TrodAll enc Tryd.prog W 0 (fun _ => true) true Tryd.f3.params.toList args.toList ds p := hA0
  rw [Tryd.params3] at hA hval
  obtain ⟨v0, d0, rfl, rfl, h0⟩ := trodAll_one hA
  obtain ⟨rfl, rfl⟩ := trodVars_none hV
  obtain ⟨a0, len, cap, rfl⟩ := okWide_slice Tryd.underlying22 (hval 0 22 v0 rfl rfl)
  have h0k := h0
  obtain ⟨fuel, hf⟩ := h0
  clear hA0
  simp only [List.append_nil] at hW' hk
  have hlt : ∀ x ∈ p, x.block < W.heap.size := fun x hx => by simpa using hW'.lt x hx
  have hargs : ∀ (W' : World), Below W.heap.size W W' → DataW.Trod enc Tryd.prog W' 0 (fun b => decide (b < W.heap.size)) true 22 (.slice a0 len cap) d0 p :=
    fun W' hn => Below.trod (by kernel_rfl) (by kernel_rfl) (of_decide_eq_true (by kernel_rfl)) h0k hn hlt
  have hbk : Rows.uptoBulkAll [d0] ≤ 1048576 := of_decide_eq_true hk
  have main : ∀ (l : List ByteArray), l.length = len → Kd.string.C W a0 l.length l → Wh.tot l ≤ 1000000000000 →
      (Rows.ratCommonSpec.fn H ([d0] ++ [])).results = [.lit (.bool true)] → (Rows.ratCommonSpec.fn H ([d0] ++ [])).args = [d0] → (Rows.ratCommonSpec.fn H ([d0] ++ [])).vars = [] →
      Calls Tryd.prog 3 #[.slice a0 len cap] W fun e W' => ∃ v, e = .returned v ∧ Rows.ratCommonSpec.post enc Tryd.prog Tryd.f3 false true false false W #[.slice a0 len cap] v W' := by
    intro l hl hC hT er ea ev
    subst hl
    refine (Wh.c_RatCommon (c := cap) l hC hT).mono ?_
    rintro e W' ⟨rfl, hb⟩
    refine ⟨_, rfl, _, _, _, [], p, [], hW', ?_, ?_, by rw [ev]; rfl, hb.frame _, fun h => by cases h⟩
    · rw [er]; exact trodAll_mk1 (shut_bool Tryd.underlying4 _)
    · rw [ea]; exact trodAll_mk1 (hargs _ hb)
  rcases open_strings Tryd.underlying22 Tryd.underlying9 cells9 hf with ⟨hcs, hx⟩ | ⟨a, len', cap', ss, hcs, _, hl, hm, hz, hx, hcell, hws⟩
  · simp [Value.cells] at hcs
    obtain ⟨rfl, rfl, rfl⟩ := hcs
    simp only [Prod.mk.injEq] at hx
    obtain ⟨rfl, rfl⟩ := hx
    exact main [] rfl ⟨rfl, by decide, fun h => absurd h (by decide)⟩ (Nat.zero_le _) rfl rfl rfl
  · simp [Value.cells] at hcs
    obtain ⟨rfl, rfl, rfl⟩ := hcs
    simp only [Prod.mk.injEq] at hx
    obtain ⟨rfl, rfl⟩ := hx
    simp only [if_true] at hz
    have hlen : (ss.take len).length = len := by rw [List.length_take]; omega
    refine main (ss.take len) hlen ?_ ?_ rfl rfl rfl
    · rw [hlen]
      refine Kd.C_of_reads (enc := Value.string) (d := ByteArray.empty) (h1 := fun _ => rfl) ⟨hlen, by unfold maxLen at hm; omega, fun _ => ⟨a, rfl, fun j hj => ?_⟩⟩
      rw [hcell j (by omega)]
      simp [List.getD_eq_getElem?_getD, hj]
    · have h2 := bulk_mem (H := H) (ss.take len)
      have h3 : Rows.uptoBulkAll (H := H) (strs (ss.take len)) ≤ 1048576 := by
        simp only [Rows.uptoBulkAll, Rows.uptoBulk] at hbk
        omega
      have h4 : (strs (ss.take len) : List (DataW H)) = (ss.take len).map fun s => DataW.lit (H := H) (.string s.data.toList) := rfl
      rw [h4] at h3
      omega
theorem reads (os : Os) {H : Type} (enc : TypeId × Value → H) : ∃ places, DataW.whole enc Tryd.prog ((World.laidAll Tryd.prog os Rows.ratCommonUptoRow.laid).forCall (fun _ _ => 0) ⟨#[], #[.slice none 0 0], []⟩).memory Tryd.f3.params.toList Rows.ratCommonSpec.vars false #[Value.slice none 0 0].toList 8 = some ([.nil], [], places) :=
  ⟨[], by kernel_rfl⟩
theorem lifted (os : Os) (started : os.Started) (H : Type) (enc : TypeId × Value → H) (F : Stop.Interp) :
    ReturnsInHanded {} Tryd.checked os 3 .any ((Rows.OpenSpec.upto Rows.ratCommonSpec).preRow enc Tryd.prog Tryd.f3 Rows.ratCommonUptoRow.domain false Rows.ratCommonUptoRow.laid) (((Rows.OpenSpec.upto Rows.ratCommonSpec).at F).post enc Tryd.prog Tryd.f3 false true false false) := by
  obtain ⟨places, hx⟩ := reads os enc
  refine returnsInHanded_of_row (C := Tryd.checked) (s := Rows.OpenSpec.upto Rows.ratCommonSpec) own started (by kernel_rfl) Tryd.func3
    (witness_row_at (enc := enc) (C := Tryd.checked) false (World.laidAll Tryd.prog os Rows.ratCommonUptoRow.laid) #[.slice none 0 0] rfl (by kernel_rfl) (by kernel_rfl) (by kernel_rfl)
      (OpenSpec.preRow_of_cond 8 hx (by kernel_rfl) (fun k hk => by cases hk; kernel_rfl) (by kernel_rfl) (laidMet_laidAll _ (by kernel_rfl) (by kernel_rfl)))) ?_
  intro W base args ds gs before hval hW a1 a2 a3 a4 a5 a6
  exact contract H enc W base args ds gs before hval hW (by first | exact a5 _ rfl | exact a6 _ rfl | exact a1 _ rfl | exact a2 _ rfl)
theorem said : Rows.RatCommonUptoSaid :=
  OpenClaim.holds_of_cond 3 Tryd.f3 rfl rfl rfl rfl rfl rfl rfl ⟨rfl, rfl, rfl, rfl, rfl⟩ rfl rfl rfl rfl rfl (by kernel_rfl) Tryd.func3 (by kernel_rfl)
    (of_decide_eq_true (by kernel_rfl)) (by unfold Func.isWrapper; first | (rw [if_pos (by decide +kernel)]; kernel_rfl) | (rw [if_neg (by decide +kernel)]; exact ⟨rfl, rfl⟩))
    (fun os started H enc _ F => by rw [OpenClaim.pre_eq_preRow]; exact lifted os started H enc F)
theorem plain (f : FuncId) (fn : Func) (hf : Tryd.pinned.checked.prog.funcNamed "linkwork/linkworklaw01.RatCommon" = some f) (hfn : Tryd.pinned.checked.prog.funcs[f]? = some fn) :
    false = Tryd.pinned.checked.prog.looks [] ∧ ∀ (j : Nat) t, fn.params[j]? = some t → Tryd.pinned.checked.prog.wantsStandIn t = false := by
  obtain rfl : f = 3 := Option.some.inj ((show Tryd.prog.funcNamed "linkwork/linkworklaw01.RatCommon" = some 3 by kernel_rfl).symm.trans hf) |>.symm
  obtain rfl : fn = Tryd.f3 := (Option.some.inj (Tryd.func3.symm.trans hfn)).symm
  refine ⟨by kernel_rfl, fun j t ht => ?_⟩
  rw [Tryd.params3] at ht
  obtain rfl : t = 22 := by simpa using Array.mem_of_getElem? ht
  exact (show Tryd.prog.wantsStandIn 22 = false by kernel_rfl)
theorem card : Rows.RatCommonUptoCardSaid :=
  Claim7.holds_tied_plain_at .later [] _ _ _ _ said (fun _ h => by cases h) (by kernel_rfl) (fun _ h => by cases h) ratCommonUpto_row_tie rfl ⟨rfl, rfl⟩ (by kernel_rfl) rfl plain (by kernel_rfl)
end Go.Proofs.YtpdghgfbfmaplaaDoor.ratCommon
namespace Go.Proofs.YtpdghgfbfmaplaaDoor
theorem ratCommon_card : Rows.RatCommonUptoCardSaid := ratCommon.card
end Go.Proofs.YtpdghgfbfmaplaaDoor
