/- Further lemmas for the statement BltPermuted: merged by wip/extra.py. -/
import Derived.Test.YtmfcefakpfbaoaaZBmV
import Derived.Test.YtmfcefakpfbaoaaZBmT
import Derived.Below
import Derived.Deep.Draws
import Derived.Deep.AppendLies
import Derived.Maps.AppendAt
import Derived.OwnWalk
import Derived.Laws.BytesArg
import Derived.Laws.MakeOwn
import Derived.Laws.OwnMore
import Derived.Deep.OwnRows
import Derived.Tactics
import Derived.Lib.ConvBytes
import Derived.Laws.Slices
import Derived.WalkKit
import Derived.KernelRfl
import Derived.RowKit3
import Derived.Deep.LoopGhost
import Derived.Deep.QuietTactic
import Derived.BigQuiet
import Derived.WideLaws
import Derived.Deep.DeepCutAuto
import Derived.Deep.CutBlock
import Derived.Deep.RegionHeld3
import Derived.Laws.Rows
import Derived.Lib.AppendStr
import Derived.ArgAppend
import Derived.Laws.IdiomCopy
import Derived.RowKit
section
set_option linter.unusedVariables false
set_option linter.unusedSimpArgs false
namespace Go.Proofs.YtmfcefakpfbaoaaW.PrintWords
open Go.RowKit
section
variable {P : Program} {ops : Array Oper} {rest : List Oper} {o : Oper} {a : Act} {Q : Exit → Act → World → Prop}
end
section
variable {P : Program}
end
section
variable {P : Program} {ops : Array Oper} {rest : List Oper} {o : Oper} {a : Act} {Q : Exit → Act → World → Prop}
theorem print_append_row {w0 W : World} (base : Nat) (hgd : o.guard = none) (s x : Operand) (t e : TypeId) (k : IntKind) (bytes : Nat)
    (ho : o.op = .call { callee := .builtin .append, args := #[s, x], argTypes := #[t, t] })
    (ht : P.underlying t = some (.slice e)) (hinfo : (P.info? e).map (fun i => (i.zero, i.size, i.bytes)) = some (some (.int k 0), 1, bytes)) (hb0 : 0 < bytes)
    (v : Value) (xs ys : List Int) (A : Option Addr) (m c : Nat) (hs : a.eval s = v) (hx : a.eval x = .slice A m c)
    (HO : W.ownsRow base e 1 v xs.length (nums k xs)) (HR : ReadsInt W k A m ys) (HB : Below base w0 W) (hbase : base ≤ W.heap.size) (hl : (xs.length + m) * bytes ≤ 140737488355328)
    (h : ∀ v1 w1, w1.ownsRow base e 1 v1 (xs ++ ys).length (nums k (xs ++ ys)) → Below base w0 w1 → W.grownBy w1 v.ownBlock → (v1.ownBlock = v.ownBlock ∨ ∃ b, v1.ownBlock = some b ∧ W.heap.size ≤ b) → wpList P ops Q rest (a.put o.dst v1) w1) :
    wpList P ops Q (o :: rest) a W := by
  obtain ⟨i0, hi, hzz⟩ := Option.map_eq_some_iff.1 hinfo
  simp only [Prod.mk.injEq] at hzz
  obtain ⟨hz0, hz1, hz2⟩ := hzz
  have hm : ys.length = m := HR.1
  have hlen : xs.length + m ≤ 140737488355328 := Nat.le_trans (Nat.le_mul_of_pos_right _ hb0) hl
  have hrun : ∃ v1 w1, (Builtin.append_ #[t, t] o.type #[v, .slice A m c]).run P W = .ok v1 w1 ∧ w1.ownsRow base e 1 v1 (xs ++ ys).length (nums k (xs ++ ys)) ∧ W.grownBy w1 v.ownBlock ∧ (v1.ownBlock = v.ownBlock ∨ v1.ownBlock = some W.heap.size) := by
    rcases A with _ | ad
    · have h0 : m = 0 := by
        rcases Nat.eq_zero_or_pos m with h0 | h0
        · exact h0
        · obtain ⟨ad, h, _⟩ := HR.2.2 h0
          cases h
      subst h0
      obtain rfl : ys = [] := List.eq_nil_of_length_eq_zero hm
      refine ⟨v, W, ?_, by simpa using HO, World.grownBy.refl W _, .inl rfl⟩
      rcases HO.2 with ⟨rfl, hn⟩ | ⟨g, cap, cur, rfl, _, _, hnc, _⟩
      · simp [Builtin.append_, run_underlying ht, sizeOf, typeInfo, hi, Builtin.lenOf, Builtin.firstCells]
      · simp [Builtin.append_, run_underlying ht, sizeOf, typeInfo, hi, Builtin.lenOf, Builtin.firstCells, hnc, storeCells]
    · have hcells : ∀ j u, (nums k ys)[j]? = some u → W.cell? (ad.add j) = some u := by
        intro j u hu
        have hj : j < ys.length := by
          rcases Nat.lt_or_ge j ys.length with h | h
          · exact h
          · simp [nums, List.getElem?_eq_none h] at hu
        obtain ⟨ad', h', hc⟩ := HR.2.2 (by omega)
        injection h' with h'
        subst h'
        have := hc j (by omega)
        simp [nums, List.getElem?_eq_getElem hj] at hu
        subst hu
        rw [this]
        simp [List.getD_eq_getElem?_getD, List.getElem?_eq_getElem hj]
      obtain ⟨v1, w1, hr, h2, h3, _, h5⟩ := run_append_own_at (P := P) W base t o.type e i0 (.int k 0) 1 bytes ht hi hz0 hz1 hz2 rfl (by omega) v xs.length (nums k xs) HO ad m c (nums k ys) (by simp [nums, hm]) hcells
        (by intro u hu; simp only [nums, List.mem_map] at hu; obtain ⟨q, _, rfl⟩ := hu; rfl) (by simp only [maxLen]; omega) hl hbase
      exact ⟨v1, w1, hr, by simpa [nums, hm] using h2, h3, h5⟩
  obtain ⟨v1, w1, hr, hown, hg, hat⟩ := hrun
  refine wpList_plain hgd fun K hK => ?_
  unfold Oper.wp execOp
  simp only [ho, resolve, invoke, builtin, Sem.run_bind, Sem.run_pure, Result.andThen_ok, List.map_toArray, List.map_cons, List.map_nil, hs, hx, hr]
  refine hK _ _ (h v1 w1 hown (HB.grown hg hbase (own_base HO)) hg ?_)
  rcases hat with hat | hat
  · exact .inl hat
  · exact .inr ⟨_, hat, Nat.le_refl _⟩
end
section
variable {P : Program} {ops : Array Oper} {rest : List Oper} {o : Oper} {a : Act} {Q : Exit → Act → World → Prop}
end
section
variable {P : Program} {ops : Array Oper} {o : Oper} {a : Act} {Q : Exit → Act → World → Prop} {K : Act → World → Prop}
end
section
variable {α : Type} {enc : α → Value} {d : α}
end
section
variable {α : Type} {P : Program} {ops : Array Oper} {rest : List Oper} {o : Oper} {a : Act} {Q : Exit → Act → World → Prop}
theorem print_append_row_of {w0 W : World} (enc : α → Value) (d : α) (base : Nat) (hgd : o.guard = none) (s x : Operand) (t e : TypeId) (z : Value) (bytes : Nat)
    (ho : o.op = .call { callee := .builtin .append, args := #[s, x], argTypes := #[t, t] })
    (ht : P.underlying t = some (.slice e)) (hinfo : (P.info? e).map (fun i => (i.zero, i.size, i.bytes)) = some (some z, 1, bytes)) (hz : z.cells.size = 1) (hb0 : 0 < bytes) (h1 : ∀ x : α, (enc x).oneCell' = true)
    (v : Value) (xs ys : List α) (A : Option Addr) (m c : Nat) (hs : a.eval s = v) (hx : a.eval x = .slice A m c)
    (HO : W.ownsRow base e 1 v xs.length (encs enc xs)) (HR : ReadsOf enc d W A m ys) (HB : Below base w0 W) (hbase : base ≤ W.heap.size) (hl : (xs.length + m) * bytes ≤ 140737488355328)
    (h : ∀ v1 w1, w1.ownsRow base e 1 v1 (xs ++ ys).length (encs enc (xs ++ ys)) → Below base w0 w1 → W.grownBy w1 v.ownBlock → (v1.ownBlock = v.ownBlock ∨ ∃ b, v1.ownBlock = some b ∧ W.heap.size ≤ b) → wpList P ops Q rest (a.put o.dst v1) w1) :
    wpList P ops Q (o :: rest) a W := by
  obtain ⟨i0, hi, hzz⟩ := Option.map_eq_some_iff.1 hinfo
  simp only [Prod.mk.injEq] at hzz
  obtain ⟨hz0, hz1, hz2⟩ := hzz
  have hm : ys.length = m := HR.1
  have hlen : xs.length + m ≤ 140737488355328 := Nat.le_trans (Nat.le_mul_of_pos_right _ hb0) hl
  have hrun : ∃ v1 w1, (Builtin.append_ #[t, t] o.type #[v, .slice A m c]).run P W = .ok v1 w1 ∧ w1.ownsRow base e 1 v1 (xs ++ ys).length (encs enc (xs ++ ys)) ∧ W.grownBy w1 v.ownBlock ∧ (v1.ownBlock = v.ownBlock ∨ v1.ownBlock = some W.heap.size) := by
    rcases A with _ | ad
    · have h0 : m = 0 := by
        rcases Nat.eq_zero_or_pos m with h0 | h0
        · exact h0
        · obtain ⟨ad, h, _⟩ := HR.2.2 h0
          cases h
      subst h0
      obtain rfl : ys = [] := List.eq_nil_of_length_eq_zero hm
      refine ⟨v, W, ?_, by simpa using HO, World.grownBy.refl W _, .inl rfl⟩
      rcases HO.2 with ⟨rfl, hn⟩ | ⟨g, cap, cur, rfl, _, _, hnc, _⟩
      · simp [Builtin.append_, run_underlying ht, sizeOf, typeInfo, hi, Builtin.lenOf, Builtin.firstCells]
      · simp [Builtin.append_, run_underlying ht, sizeOf, typeInfo, hi, Builtin.lenOf, Builtin.firstCells, hnc, storeCells]
    · have hcells : ∀ j u, (encs enc ys)[j]? = some u → W.cell? (ad.add j) = some u := by
        intro j u hu
        have hj : j < ys.length := by
          rcases Nat.lt_or_ge j ys.length with h | h
          · exact h
          · simp [encs, List.getElem?_eq_none h] at hu
        obtain ⟨ad', h', hc⟩ := HR.2.2 (by omega)
        injection h' with h'
        subst h'
        rw [encs_get (d := d) ys j hj] at hu
        rw [← hu]
        exact hc j (by omega)
      obtain ⟨v1, w1, hr, h2, h3, _, h5⟩ := run_append_own_at (P := P) W base t o.type e i0 z 1 bytes ht hi hz0 hz1 hz2 hz (by omega) v xs.length (encs enc xs) HO ad m c (encs enc ys) (by simp [encs, hm]) hcells
        (by intro u hu; simp only [encs, List.mem_map] at hu; obtain ⟨q, _, rfl⟩ := hu; exact h1 q) (by simp only [maxLen]; omega) hl hbase
      exact ⟨v1, w1, hr, by simpa [encs, hm] using h2, h3, h5⟩
  obtain ⟨v1, w1, hr, hown, hg, hat⟩ := hrun
  refine wpList_plain hgd fun K hK => ?_
  unfold Oper.wp execOp
  simp only [ho, resolve, invoke, builtin, Sem.run_bind, Sem.run_pure, Result.andThen_ok, List.map_toArray, List.map_cons, List.map_nil, hs, hx, hr]
  refine hK _ _ (h v1 w1 hown (HB.grown hg hbase (own_base HO)) hg ?_)
  rcases hat with hat | hat
  · exact .inl hat
  · exact .inr ⟨_, hat, Nat.le_refl _⟩
end
section
variable {P : Program}
end
section
variable {α : Type} {R R' : α → List Value → Prop} {e : TypeId} {size : Nat} {w w1 : World} {base : Nat} {v : Value} {ps : List α}
end
section
variable {P : Program} {ops : Array Oper} {rest : List Oper} {o : Oper} {a : Act} {Q : Exit → Act → World → Prop} {α : Type} {R : α → List Value → Prop}
end
section
variable {P : Program} {ops : Array Oper} {o : Oper} {a : Act} {Q : Exit → Act → World → Prop} {K : Act → World → Prop} {α : Type} {R : α → List Value → Prop}
end
section
variable {α : Type} {P : Program}
end
section
variable {P : Program} {ops : Array Oper} {rest : List Oper} {o : Oper} {a : Act} {Q : Exit → Act → World → Prop}
end
namespace Kd
section
variable {α : Type} {d : Kd α} {e : Nat} {w w1 : World} {base : Nat} {ok ok' : Nat → Prop} {v : Value} {xs : List α}
end
section
variable {P : Program} {ops : Array Oper} {rest : List Oper} {o : Oper} {a : Act} {Q : Exit → Act → World → Prop} {α : Type}
end
section
variable {P : Program} {ops : Array Oper} {o : Oper} {a : Act} {Q : Exit → Act → World → Prop} {Kc : Act → World → Prop} {α : Type}
end
end Kd
namespace Kd
section
variable {α : Type} {F : Kd α → Kd α} {sz : Nat} {E : List Nat} {hs : ∀ n, (upto F sz E n).sz = sz} {hE : ∀ n q, q ∈ (upto F sz E n).E → q ∈ E}
end
end Kd
namespace Kd
end Kd
namespace Kd
section
variable {α β : Type} {d : Kd α} {d' : Kd β} {e e' : Nat} {w w1 W : World} {base b b' : Nat} {ok ok' okv oku : Nat → Prop} {v u : Value} {xs : List α} {ys : List β}
end
section
variable {w W : World} {A : Option Addr} {n : Nat}
variable {α : Type} {enc : α → Value} {h1 : ∀ x, (enc x).oneCell' = true} {e base g cap : Nat} {ok : Nat → Prop} {xs : List α}
end
section
variable {P : Program} {ops : Array Oper} {rest : List Oper} {o : Oper} {a : Act} {Q : Exit → Act → World → Prop}
variable {α : Type}
end
end Kd
section
variable {P : Program}
end
section
variable {w w1 : World} {base n size : Nat} {e : TypeId} {v : Value} {xs : List Value}
end
section
variable {P : Program}
end
namespace Kd
section
variable {α : Type} {d : Kd α} {e : Nat} {w w1 W : World} {base : Nat} {ok ok' : Nat → Prop} {v : Value} {xs : List α}
end
section
variable {P : Program} {ops : Array Oper} {rest : List Oper} {o : Oper} {a : Act} {Q' : Exit → Act → World → Prop} {Kc : Act → World → Prop} {α : Type}
end
end Kd
namespace Kd
section
variable {α : Type} {d : Kd α} {e e' : Nat} {w w1 W : World} {base : Nat} {ok : Nat → Prop} {u v : Value} {xs : List α}
end
end Kd
namespace Kd
section
variable {α : Type} {d : Kd α} {e base g n cap : Nat} {ok okp : Nat → Prop} {W : World} {xs : List α}
end
end Kd
namespace Kd
section
variable {α : Type} {F : Kd α → Kd α} {sz : Nat} {E : List Nat} {hs : ∀ n, (upto F sz E n).sz = sz} {hE : ∀ n q, q ∈ (upto F sz E n).E → q ∈ E}
end
end Kd
namespace Kd
section
variable {P : Program} {ops : Array Oper} {rest : List Oper} {o : Oper} {a : Act} {Q : Exit → Act → World → Prop} {α : Type}
end
end Kd
namespace Kd
section
variable {P : Program} {ops : Array Oper} {rest : List Oper} {o : Oper} {a : Act} {Q : Exit → Act → World → Prop} {α : Type}
end
end Kd
namespace Kd
section
variable {α : Type} {k : Kd α} {w : World} {A : Option Addr} {xs : List α} {m c : Nat}
end
end Kd
section
variable {P : Program}
end
namespace Kd
section
variable {α β : Type} {d : Kd α} {d' : Kd β} {e e' base base' n : Nat} {ok ok' : Nat → Prop} {w W w1 W1 : World} {v u : Value} {xs : List α} {ys : List β} {A : Option Addr} {c : Nat}
end
section
variable {α : Type} {enc : α → Value} {h1 : ∀ x, (enc x).oneCell' = true} {w W : World} {A : Option Addr} {n g : Nat} {xs : List α}
end
end Kd
namespace Kd
section
variable {α : Type} {d : Kd α} {e base g : Nat} {ok : Nat → Prop} {w w1 : World} {v : Value} {xs : List α} {o : Obj}
end
end Kd
section
variable {P : Program} {ops : Array Oper} {rest : List Oper} {o : Oper} {a : Act} {Q : Exit → Act → World → Prop}
theorem Kd.R_append_row {α : Type} (enc : α → Value) (d : α) {h1 : ∀ x : α, (enc x).oneCell' = true} {w0 W : World} (base : Nat) (hgd : o.guard = none) (s x : Operand) (t e : TypeId) (z : Value) (bytes : Nat)
    (ho : o.op = .call { callee := .builtin .append, args := #[s, x], argTypes := #[t, t] })
    (ht : P.underlying t = some (.slice e)) (hinfo : (P.info? e).map (fun i => (i.zero, i.size, i.bytes)) = some (some z, 1, bytes)) (hz : z.cells.size = 1) (hb0 : 0 < bytes)
    (v : Value) (xs ys : List α) (A : Option Addr) (m c : Nat) (ok : Nat → Prop) (hs : a.eval s = v) (hx : a.eval x = .slice A m c) (hfresh : ∀ k, W.heap.size ≤ k → ok k)
    (HO : (Kd.scalar enc h1).R e W base ok v xs) (HR : (Kd.scalar enc h1).C W A m ys) (HB : Below base w0 W) (hbase : base ≤ W.heap.size) (hl : (xs.length + m) * bytes ≤ 140737488355328)
    (h : ∀ v1 w1, (Kd.scalar enc h1).R e w1 base ok v1 (xs ++ ys) → Below base w0 w1 → W.grownBy w1 v.ownBlock → (v1.ownBlock = v.ownBlock ∨ ∃ b, v1.ownBlock = some b ∧ W.heap.size ≤ b) → wpList P ops Q rest (a.put o.dst v1) w1) :
    wpList P ops Q (o :: rest) a W := by
  refine print_append_row_of (w0 := w0) enc d base hgd s x t e z bytes ho ht hinfo hz hb0 h1 v xs ys A m c hs hx (Kd.own_of_R HO) (Kd.reads_of_C (d := d) HR) HB hbase hl ?_
  intro v1 w1 hown hb hg hat
  refine h v1 w1 (Kd.R_of_own hown (fun k hk => ?_)) hb hg hat
  rcases hat with e1 | ⟨b, e1, hbb⟩
  · exact HO.1 k (by rw [← e1]; exact hk)
  · rw [e1] at hk
    injection hk with hk
    subst hk
    exact hfresh _ hbb
end
namespace Kd
section
variable {α : Type} {enc : α → Value} {h1 : ∀ x, (enc x).oneCell' = true} {e base g n cap : Nat} {ok : Nat → Prop} {W : World} {xs : List α}
end
end Kd
section
variable {P : Program} {ops : Array Oper} {rest : List Oper} {o : Oper} {a : Act} {Q : Exit → Act → World → Prop}
end
namespace Kd
section
variable {α : Type} {enc : α → Value} {h1 : ∀ x, (enc x).oneCell' = true} {e base g n cap : Nat} {ok : Nat → Prop} {W : World} {xs : List α}
end
end Kd
section
variable {P : Program} {ops : Array Oper} {rest : List Oper} {o : Oper} {a : Act} {Q : Exit → Act → World → Prop} {W : World}
end
section
variable {P : Program} {ops : Array Oper} {o : Oper} {a : Act} {Q : Exit → Act → World → Prop} {Kc : Act → World → Prop}
namespace Kd
variable {α : Type}
end Kd
end
section
variable {P : Program} {tmps : Array Value} {w : World}
end
namespace Kd
section
variable {P : Program} {α : Type}
end
section
variable {P : Program} {ops : Array Oper} {rest : List Oper} {o : Oper} {a : Act} {Q : Exit → Act → World → Prop} {Kc : Act → World → Prop} {α : Type}
end
end Kd
end Go.Proofs.YtmfcefakpfbaoaaW.PrintWords
end
section
namespace Go.Proofs.Ytmfcefakpfbaoaa.PMatch
open Go.RowKit Go.Proofs.YtmfcefakpfbaoaaW.PrintWords Go.Proofs.YtmfcefakpfbaoaaW.PrintLast Go.Proofs.YtmfcefakpfbaoaaW.PrintMore
attribute [local go_sem] max2_int min2_int max_two min_two max_three min_three max_four min_four   -- for this text's walks alone
set_option linter.unusedVariables false
set_option linter.unusedSimpArgs false
set_option maxHeartbeats 8000000 in
set_option maxRecDepth 100000 in
theorem match_Rank.calls (k : Nat) (A0_0 : Option Addr) (c0_0 : Nat) (l0_0 : List ByteArray) (A0_1 : Option Addr) (c0_1 : Nat) (l0_1 : List (S47)) (A0_2 : Option Addr) (c0_2 : Nat) (l0_2 : List (List Int)) (r1 : Int) (r2 : Int) (w : World) (hr0_0 : Kd.C Kd.string w A0_0 l0_0.length l0_0) (hc0_0 : l0_0.length ≤ c0_0) (hr0_1 : Kd.C k47 w A0_1 l0_1.length l0_1) (hc0_1 : l0_1.length ≤ c0_1) (hr0_2 : Kd.C (Kd.slice 3 (Kd.int .i64)) w A0_2 l0_2.length l0_2) (hc0_2 : l0_2.length ≤ c0_2) (h : match_Rank.f k l0_0 l0_1 l0_2 = some (r1, r2)) :
    Calls Try.prog 20 #[.agg #[.slice A0_0 l0_0.length c0_0, .slice A0_1 l0_1.length c0_1, .slice A0_2 l0_2.length c0_2]] w fun e w' => e = .returned (.tuple #[.int .i64 r1, .int .i64 r2]) ∧ Below w.heap.size w w' := by
  have hu26 := Try.underlying26
  have HR0_0 := Aside0.mk hr0_0
  have HC0_0 := Aside0.mk hc0_0
  clear hr0_0 hc0_0
  have HR0_1 := Aside0.mk hr0_1
  have HC0_1 := Aside0.mk hc0_1
  clear hr0_1 hc0_1
  have HR0_2 := Aside0.mk hr0_2
  have HC0_2 := Aside0.mk hc0_2
  clear hr0_2 hc0_2
  have HB := Aside0.mk (Below.refl w.heap.size w)
  have H : ((match_check.f k l0_0 l0_1 l0_2).bind fun t193 => (if t193 = 0 then ((match_greatest.f k l0_0 l0_1 l0_2 ([] : List Int)).bind fun bt194 => (some (bt194.2, 0))) else (some (0, t193)))) = some (r1, r2) := h
  clear h
  replace H := Option.bind_eq_some_iff.mp H
  obtain ⟨t193, A20, H⟩ := H
  replace H : (if t193 = 0 then ((match_greatest.f k l0_0 l0_1 l0_2 ([] : List Int)).bind fun bt194 => (some (bt194.2, 0))) else (some (0, t193))) = some (r1, r2) := H
  have A2 := Aside0.mk A20
  clear A20
  by_cases c3 : t193 = 0
  · rw [if_pos c3] at H
    have c3b0 : (t193 == 0) = true := beq_iff_eq.mpr c3
    have c3b1 : (t193 != 0) = false := bne_eq_false_iff_eq.mpr c3
    clear c3
    replace H := Option.bind_eq_some_iff.mp H
    obtain ⟨⟨t194, t197⟩, A40, H⟩ := H
    replace H : (some (t197, 0)) = some (r1, r2) := H
    have A4 := Aside0.mk A40
    clear A40
    simp only [Option.some.injEq, Prod.mk.injEq] at H
    obtain ⟨rfl, rfl⟩ := H
    go_enter Try.func20, Try.ntmps20
    go_wp2_with (first | ((with_reducible refine gate_dst (N := 1) rfl ?_); refine box_event ?hg (N := 1) ?hd (cs := #[.slice A0_0 l0_0.length c0_0, .slice A0_1 l0_1.length c0_1, .slice A0_2 l0_2.length c0_2]) (t := 26) ?hr ?_; (case hd => rfl); (case hg => rfl); (case hr => first | (go_simp; done) | (go_simp; rfl)); intro gb192 hg w5 hbox hb; have n0_ := Aside0.mk (below_step (by repeat (first | (with_reducible first | exact HB.out | apply below_alloc | apply pw_below_drewN | apply below_drew1) | exact HB.out)) hb); have n1_ := Aside0.mk (hbox); have n2_ := Aside0.mk ((by rw [hg]; exact (below_size (by repeat (first | (with_reducible first | exact HB.out | apply below_alloc | apply pw_below_drewN | apply below_drew1) | exact HB.out))) : w.heap.size ≤ gb192)); have n3_ := Aside0.mk ((by rw [hg]; exact (below_size (by repeat (first | (with_reducible first | exact HB.out | apply below_alloc | apply pw_below_drewN | apply below_drew1) | exact HB.out))) : w.heap.size ≤ gb192)); clear HB; have HB := n0_; have BK192 := n1_; have GW192 := n2_; have GE192 := n3_; clear n0_ n1_ n2_ n3_; clear hb hbox hg; have hcz6_0 : w5.cell? ⟨gb192, 0, none⟩ = some (.slice A0_0 l0_0.length c0_0) := (blk_cell BK192.out 0).trans rfl; have hcz6_1 : w5.cell? ⟨gb192, 1, none⟩ = some (.slice A0_1 l0_1.length c0_1) := (blk_cell BK192.out 1).trans rfl; have hcz6_2 : w5.cell? ⟨gb192, 2, none⟩ = some (.slice A0_2 l0_2.length c0_2) := (blk_cell BK192.out 2).trans rfl; have hfz6_0 := blk_frozen BK192.out 0; have hfz6_1 := blk_frozen BK192.out 1; have hfz6_2 := blk_frozen BK192.out 2) | ((with_reducible refine gate_callee (f := 35) rfl ?_); refine goesL_ (some 8) rfl rfl Try.func35 (by kernel_rfl) rfl #[.agg #[.slice A0_0 l0_0.length c0_0, .slice A0_1 l0_1.length c0_1, .slice A0_2 l0_2.length c0_2]] rfl (by (try simp only [List.map_toArray, List.map_cons, List.map_nil]); first | done | rfl | (simp only [List.length_drop, List.length_take]; rfl)) ?_; (with_reducible refine (match_check.calls k _ _ l0_0 _ _ l0_1 _ _ l0_2 t193 _ ?side1 ?side2 ?side3 ?side4 ?side5 ?side6 A2.out).mono ?_); (case side1 => repeat (first | exact (Kd.C_below HR0_0.out HB.out) | (with_reducible refine Kd.C_alloc ?_ _) | (with_reducible refine Kd.C_drewN ?_ _) | (with_reducible refine Kd.C_drew ?_))); (case side2 => exact HC0_0.out); (case side3 => repeat (first | exact (Kd.C_below HR0_1.out HB.out) | (with_reducible refine Kd.C_alloc ?_ _) | (with_reducible refine Kd.C_drewN ?_ _) | (with_reducible refine Kd.C_drew ?_))); (case side4 => exact HC0_1.out); (case side5 => repeat (first | exact (Kd.C_below HR0_2.out HB.out) | (with_reducible refine Kd.C_alloc ?_ _) | (with_reducible refine Kd.C_drewN ?_ _) | (with_reducible refine Kd.C_drew ?_))); (case side6 => exact HC0_2.out); rintro e w7 ⟨rfl, hb⟩; refine ⟨_, rfl, ?_⟩; have n0_ := Aside0.mk (blk_below (g := gb192) (o := .cells #[.slice A0_0 l0_0.length c0_0, .slice A0_1 l0_1.length c0_1, .slice A0_2 l0_2.length c0_2] 26 (0, 0)) (by (with_reducible repeat (first | refine blk_drewN ?_ _ | refine blk_drew ?_ | refine blk_alloc ?_ _)); exact BK192.out) hb); have n1_ := Aside0.mk (below_step (by repeat (first | (with_reducible first | exact HB.out | apply below_alloc | apply pw_below_drewN | apply below_drew1 | refine below_set ?_ GE192.out) | exact HB.out)) hb); clear BK192; clear HB; have BK192 := n0_; have HB := n1_; clear n0_ n1_; (try clear hb); (try clear hb2); (try clear hk); (try clear hi); have hcz8_0 : w7.cell? ⟨gb192, 0, none⟩ = some (.slice A0_0 l0_0.length c0_0) := (blk_cell BK192.out 0).trans rfl; have hcz8_1 : w7.cell? ⟨gb192, 1, none⟩ = some (.slice A0_1 l0_1.length c0_1) := (blk_cell BK192.out 1).trans rfl; have hcz8_2 : w7.cell? ⟨gb192, 2, none⟩ = some (.slice A0_2 l0_2.length c0_2) := (blk_cell BK192.out 2).trans rfl; have hfz8_0 := blk_frozen BK192.out 0; have hfz8_1 := blk_frozen BK192.out 1; have hfz8_2 := blk_frozen BK192.out 2) | ((with_reducible refine gate_callee (f := 36) rfl ?_); refine goesL_ (some 14) rfl rfl Try.func36 (by kernel_rfl) rfl #[.agg #[.slice A0_0 l0_0.length c0_0, .slice A0_1 l0_1.length c0_1, .slice A0_2 l0_2.length c0_2], .slice none 0 0] rfl (by (try simp only [List.map_toArray, List.map_cons, List.map_nil]); first | done | rfl | (simp only [List.length_drop, List.length_take]; rfl)) ?_; (refine (match_greatest.calls k _ _ l0_0 _ _ l0_1 _ _ l0_2 _ _ ([] : List Int) t194 t197 _ ?side1 ?side2 ?side3 ?side4 ?side5 ?side6 ?side7 ?side8 A4.out).mono ?_); (case side1 => repeat (first | exact (Kd.C_below HR0_0.out HB.out) | (with_reducible refine Kd.C_alloc ?_ _) | (with_reducible refine Kd.C_drewN ?_ _) | (with_reducible refine Kd.C_drew ?_))); (case side2 => exact HC0_0.out); (case side3 => repeat (first | exact (Kd.C_below HR0_1.out HB.out) | (with_reducible refine Kd.C_alloc ?_ _) | (with_reducible refine Kd.C_drewN ?_ _) | (with_reducible refine Kd.C_drew ?_))); (case side4 => exact HC0_1.out); (case side5 => repeat (first | exact (Kd.C_below HR0_2.out HB.out) | (with_reducible refine Kd.C_alloc ?_ _) | (with_reducible refine Kd.C_drewN ?_ _) | (with_reducible refine Kd.C_drew ?_))); (case side6 => exact HC0_2.out); (case side7 => exact Kd.C_nil _ _); (case side8 => exact Nat.le_refl _); rintro e w9 ⟨v195, rfl, ho0, hb⟩; refine ⟨_, rfl, ?_⟩; have n0_ := Aside0.mk (Kd.R_lower ho0 (below_size (by repeat (first | (with_reducible first | exact HB.out | apply below_alloc | apply pw_below_drewN | apply below_drew1 | refine below_set ?_ GE192.out) | exact HB.out)))); have n1_ := Aside0.mk (blk_below (g := gb192) (o := .cells #[.slice A0_0 l0_0.length c0_0, .slice A0_1 l0_1.length c0_1, .slice A0_2 l0_2.length c0_2] 26 (0, 0)) (by (with_reducible repeat (first | refine blk_drewN ?_ _ | refine blk_drew ?_ | refine blk_alloc ?_ _)); exact BK192.out) hb); have n2_ := Aside0.mk (below_step (by repeat (first | (with_reducible first | exact HB.out | apply below_alloc | apply pw_below_drewN | apply below_drew1 | refine below_set ?_ GE192.out) | exact HB.out)) hb); clear BK192; clear HB; have HO196 := n0_; have BK192 := n1_; have HB := n2_; clear n0_ n1_ n2_; (try clear hb); (try clear hb2); (try clear hk); (try clear hi); (try clear ho0)))
    go_ret2
    exact ⟨by first | rfl | (simp [errW_none, errW_some] <;> rfl) | (simp [*, errW_none, errW_some] <;> rfl), by repeat (first | (with_reducible first | exact HB.out | apply below_alloc | apply pw_below_drewN | apply below_drew1 | refine below_set ?_ GE192.out) | exact HB.out)⟩
  · rw [if_neg c3] at H
    have c3b0 : (t193 == 0) = false := beq_eq_false_iff_ne.mpr c3
    have c3b1 : (t193 != 0) = true := bne_iff_ne.mpr c3
    simp only [Option.some.injEq, Prod.mk.injEq] at H
    obtain ⟨rfl, rfl⟩ := H
    go_enter Try.func20, Try.ntmps20
    go_wp2_with (first | ((with_reducible refine gate_dst (N := 1) rfl ?_); refine box_event ?hg (N := 1) ?hd (cs := #[.slice A0_0 l0_0.length c0_0, .slice A0_1 l0_1.length c0_1, .slice A0_2 l0_2.length c0_2]) (t := 26) ?hr ?_; (case hd => rfl); (case hg => rfl); (case hr => first | (go_simp; done) | (go_simp; rfl)); intro gb192 hg w10 hbox hb; have n0_ := Aside0.mk (below_step (by repeat (first | (with_reducible first | exact HB.out | apply below_alloc | apply pw_below_drewN | apply below_drew1) | exact HB.out)) hb); have n1_ := Aside0.mk (hbox); have n2_ := Aside0.mk ((by rw [hg]; exact (below_size (by repeat (first | (with_reducible first | exact HB.out | apply below_alloc | apply pw_below_drewN | apply below_drew1) | exact HB.out))) : w.heap.size ≤ gb192)); have n3_ := Aside0.mk ((by rw [hg]; exact (below_size (by repeat (first | (with_reducible first | exact HB.out | apply below_alloc | apply pw_below_drewN | apply below_drew1) | exact HB.out))) : w.heap.size ≤ gb192)); clear HB; have HB := n0_; have BK192 := n1_; have GW192 := n2_; have GE192 := n3_; clear n0_ n1_ n2_ n3_; clear hb hbox hg; have hcz11_0 : w10.cell? ⟨gb192, 0, none⟩ = some (.slice A0_0 l0_0.length c0_0) := (blk_cell BK192.out 0).trans rfl; have hcz11_1 : w10.cell? ⟨gb192, 1, none⟩ = some (.slice A0_1 l0_1.length c0_1) := (blk_cell BK192.out 1).trans rfl; have hcz11_2 : w10.cell? ⟨gb192, 2, none⟩ = some (.slice A0_2 l0_2.length c0_2) := (blk_cell BK192.out 2).trans rfl; have hfz11_0 := blk_frozen BK192.out 0; have hfz11_1 := blk_frozen BK192.out 1; have hfz11_2 := blk_frozen BK192.out 2) | ((with_reducible refine gate_callee (f := 35) rfl ?_); refine goesL_ (some 8) rfl rfl Try.func35 (by kernel_rfl) rfl #[.agg #[.slice A0_0 l0_0.length c0_0, .slice A0_1 l0_1.length c0_1, .slice A0_2 l0_2.length c0_2]] rfl (by (try simp only [List.map_toArray, List.map_cons, List.map_nil]); first | done | rfl | (simp only [List.length_drop, List.length_take]; rfl)) ?_; (with_reducible refine (match_check.calls k _ _ l0_0 _ _ l0_1 _ _ l0_2 t193 _ ?side1 ?side2 ?side3 ?side4 ?side5 ?side6 A2.out).mono ?_); (case side1 => repeat (first | exact (Kd.C_below HR0_0.out HB.out) | (with_reducible refine Kd.C_alloc ?_ _) | (with_reducible refine Kd.C_drewN ?_ _) | (with_reducible refine Kd.C_drew ?_))); (case side2 => exact HC0_0.out); (case side3 => repeat (first | exact (Kd.C_below HR0_1.out HB.out) | (with_reducible refine Kd.C_alloc ?_ _) | (with_reducible refine Kd.C_drewN ?_ _) | (with_reducible refine Kd.C_drew ?_))); (case side4 => exact HC0_1.out); (case side5 => repeat (first | exact (Kd.C_below HR0_2.out HB.out) | (with_reducible refine Kd.C_alloc ?_ _) | (with_reducible refine Kd.C_drewN ?_ _) | (with_reducible refine Kd.C_drew ?_))); (case side6 => exact HC0_2.out); rintro e w12 ⟨rfl, hb⟩; refine ⟨_, rfl, ?_⟩; have n0_ := Aside0.mk (blk_below (g := gb192) (o := .cells #[.slice A0_0 l0_0.length c0_0, .slice A0_1 l0_1.length c0_1, .slice A0_2 l0_2.length c0_2] 26 (0, 0)) (by (with_reducible repeat (first | refine blk_drewN ?_ _ | refine blk_drew ?_ | refine blk_alloc ?_ _)); exact BK192.out) hb); have n1_ := Aside0.mk (below_step (by repeat (first | (with_reducible first | exact HB.out | apply below_alloc | apply pw_below_drewN | apply below_drew1 | refine below_set ?_ GE192.out) | exact HB.out)) hb); clear BK192; clear HB; have BK192 := n0_; have HB := n1_; clear n0_ n1_; (try clear hb); (try clear hb2); (try clear hk); (try clear hi)))
    go_ret2
    exact ⟨by first | rfl | (simp [errW_none, errW_some] <;> rfl) | (simp [*, errW_none, errW_some] <;> rfl), by repeat (first | (with_reducible first | exact HB.out | apply below_alloc | apply pw_below_drewN | apply below_drew1 | refine below_set ?_ GE192.out) | exact HB.out)⟩
end Go.Proofs.Ytmfcefakpfbaoaa.PMatch
end
section
set_option linter.unusedVariables false
namespace Go.Proofs.Ytmfcefakpfbaoaa.PMatch
open Go.RowKit Go.Proofs.YtmfcefakpfbaoaaW.PrintWords Go.Proofs.YtmfcefakpfbaoaaW.PrintLast Go.Proofs.YtmfcefakpfbaoaaW.PrintMore
variable {E U : Nat} {N : List ByteArray} {V : List S47} {J : List (List Int)}
def cnt (m : List Int) (x : Nat) : Nat := m.countP fun y => y == (x : Int)
theorem cnt_set {m : List Int} {u : Nat} {y : Int} {x : Nat} (hu : u < m.length) : cnt (m.set u y) x + (if rd m u = x then 1 else 0) = cnt m x + (if y = x then 1 else 0) := by
  unfold cnt
  have h1 : rd m u = m[u] := by simp [rd, List.getD_eq_getElem?_getD, hu]
  have h2 : m.countP (fun y => y == (x : Int)) = (m.take u ++ m[u] :: m.drop (u + 1)).countP (fun y => y == (x : Int)) := by
    congr 1
    rw [List.getElem_cons_drop, List.take_append_drop]
  have h3 : m.set u y = m.take u ++ y :: m.drop (u + 1) := List.set_eq_take_append_cons_drop.trans (if_pos hu)
  rw [h2, h3, h1, List.countP_append, List.countP_append, List.countP_cons, List.countP_cons]
  simp only [beq_iff_eq]
  omega
theorem seen_same {s : List Bool} {u : Nat} (h : u < s.length) : rdOf false (s.set u true) (u : Int) = true := by simp [rdOf, List.getD_eq_getElem?_getD, h]
theorem seen_other {s : List Bool} {u v : Nat} (h : u ≠ v) : rdOf false (s.set u true) (v : Int) = rdOf false s v := by
  simp [rdOf, List.getD_eq_getElem?_getD, List.getElem?_set_ne h]
structure TrySpec (U : Nat) (J : List (List Int)) (e i : Nat) (m : List Int) (s : List Bool) (r : Bool) (m' : List Int) (s' : List Bool) : Prop where
  grow : ∀ u : Nat, u < U → rdOf false s u = true → rdOf false s' u = true
  keep : ∀ u : Nat, u < U → rdOf false s u = true → rd m' u = rd m u
  lose : r = false → m' = m ∧ (∀ j u : Nat, i ≤ j → j < (rd_L4 J e).length → rd (rd_L4 J e) j = u → rdOf false s' u = true) ∧
    ∀ u : Nat, u < U → rdOf false s' u = true → rdOf false s u = false → 0 ≤ rd m u ∧ ∀ f j w : Nat, rd m u = f → j < (rd_L4 J f).length → rd (rd_L4 J f) j = w → rdOf false s' w = true
  win : r = true → (∀ u : Nat, u < U → rd m' u = rd m u ∨ ∃ f j : Nat, rd m' u = f ∧ j < (rd_L4 J f).length ∧ rd (rd_L4 J f) j = u) ∧ ∀ x : Nat, cnt m' x = cnt m x + (if x = e then 1 else 0)
theorem loop_ok2 (hg : Gok E U J) (d : Nat) (ih : ∀ (m : List Int) (s : List Bool) (e : Nat), Mok E U m → s.length = U → cf s < d → e < E →
      ∃ k0 r m' s', (∀ k, k0 ≤ k → match_matched_try.f k m N V J e s = some (r, m', s')) ∧ Mok E U m' ∧ s'.length = U ∧ cf s' ≤ cf s ∧ TrySpec U J e 0 m s r m' s') (e : Nat) (he : e < E) :
    ∀ (c i : Nat) (m : List Int) (s : List Bool), i + c = (rd_L4 J e).length → Mok E U m → s.length = U → cf s ≤ d →
    ∃ k0 r m' s', (∀ k, k0 ≤ k → match_matched_try.l0 k m e s (rd_L4 J e) ((rd_L4 J e).length : Int) (i : Int) N V J = some (r, m', s')) ∧ Mok E U m' ∧ s'.length = U ∧ cf s' ≤ cf s ∧ TrySpec U J e i m s r m' s' := by
  intro c
  induction c with
  | zero =>
    intro i m s hi hm hs hd
    refine ⟨1, false, m, s, fun k hk => ?_, hm, hs, Nat.le_refl _, fun u _ h => h, fun _ _ _ => rfl, fun _ => ⟨rfl, fun j u h1 h2 _ => by omega, fun u _ h1 h2 => by rw [h1] at h2; cases h2⟩, fun h => by cases h⟩
    obtain ⟨k, rfl⟩ : ∃ j, k = j + 1 := ⟨k - 1, by omega⟩
    simp only [match_matched_try.l0]
    rw [if_neg (by omega)]
  | succ c ihc =>
    intro i m s hi hm hs hd
    obtain ⟨hu0, hu1⟩ := hg.uses e he i (by omega)
    have hlen := hg.rows e he
    obtain ⟨u, hu⟩ : ∃ u : Nat, rd (rd_L4 J e) i = u := ⟨(rd (rd_L4 J e) i).toNat, by omega⟩
    have huU : u < U := by omega
    have HW := Lib.hid (wr_ (i : Int) (by omega) (by omega))
    have unf : ∀ k, match_matched_try.l0 (k + 1) m e s (rd_L4 J e) ((rd_L4 J e).length : Int) (i : Int) N V J =
        if rdOf false s (u : Int) = true then match_matched_try.l0 k m e s (rd_L4 J e) ((rd_L4 J e).length : Int) ((i + 1 : Nat) : Int) N V J
        else if rd m (u : Int) < 0 then some (true, m.set u (e : Int), s.set u true)
        else (match_matched_try.f k m N V J (rd m (u : Int)) (s.set u true)).bind fun b => if b.1 = true then some (true, b.2.1.set u (e : Int), b.2.2) else match_matched_try.l0 k b.2.1 e b.2.2 (rd_L4 J e) ((rd_L4 J e).length : Int) ((i + 1 : Nat) : Int) N V J := by
      intro k
      simp only [match_matched_try.l0]
      rw [if_pos (by omega), if_pos (by omega), if_pos (by omega), hu, if_pos (by omega), if_pos (by omega), HW.out, Int.toNat_natCast, Int.natCast_add]
      simp only [Option.bind_some]
      rw [if_pos (show (u : Int) < (m.length : Int) by rw [hm.1]; omega)]
      rfl
    cases hsu : rdOf false s (u : Int) with
    | true =>
      obtain ⟨k0, r, m', s', h1, h2, h3, h4, h5⟩ := ihc (i + 1) m s (by omega) hm hs hd
      refine ⟨k0 + 1, r, m', s', fun k hk => ?_, h2, h3, h4, h5.grow, h5.keep, fun hr => ?_, h5.win⟩
      · obtain ⟨k, rfl⟩ : ∃ j, k = j + 1 := ⟨k - 1, by omega⟩
        rw [unf, if_pos hsu]
        exact h1 k (by omega)
      · obtain ⟨g1, g2, g3⟩ := h5.lose hr
        refine ⟨g1, fun j v hj hjl hv => ?_, g3⟩
        by_cases hji : j = i
        · subst hji
          have : u = v := by omega
          subst this
          exact h5.grow u huU hsu
        · exact g2 j v (by omega) hjl hv
    | false =>
      have hc := cf_set (s := s) (u := u) (by omega) hsu
      by_cases hmu : rd m (u : Int) < 0
      · refine ⟨1, true, m.set u e, s.set u true, fun k hk => ?_, hm.set huU (by omega), by rw [List.length_set]; exact hs, by omega, fun v hv h => ?_, fun v hv h => ?_, (fun h => by cases h), fun _ => ⟨fun v hv => ?_, fun x => ?_⟩⟩
        · obtain ⟨k, rfl⟩ : ∃ j, k = j + 1 := ⟨k - 1, by omega⟩
          rw [unf, if_neg (by rw [hsu]; simp), if_pos hmu]
        · by_cases e1 : u = v
          · subst e1; exact seen_same (by omega)
          · rw [seen_other e1]; exact h
        · have e1 : u ≠ v := fun e1 => by subst e1; rw [hsu] at h; cases h
          exact rd_set_other e1
        · by_cases e1 : u = v
          · subst e1; exact .inr ⟨e, i, rd_set_same (by rw [hm.1]; exact huU), by omega, hu⟩
          · exact .inl (rd_set_other e1)
        · have h1 := cnt_set (m := m) (u := u) (y := (e : Int)) (x := x) (by rw [hm.1]; exact huU)
          rw [if_neg (show ¬ rd m (u : Int) = (x : Int) by omega)] at h1
          by_cases hx : x = e
          · rw [if_pos (by omega)] at h1; rw [if_pos hx]; omega
          · rw [if_neg (by omega)] at h1; rw [if_neg hx]; omega
      · obtain ⟨f, hf⟩ : ∃ f : Nat, rd m (u : Int) = f := ⟨(rd m (u : Int)).toNat, by omega⟩
        have hfE : f < E := by have := hm.2 u huU; omega
        obtain ⟨k0, r, m', s', h1, h2, h3, h4, h5⟩ := ih m (s.set u true) f hm (by rw [List.length_set]; exact hs) (by omega) hfE
        have hsm : ∀ v : Nat, v < U → rdOf false s v = true → rdOf false (s.set u true) v = true := fun v hv h => by
          by_cases e1 : u = v
          · subst e1; exact seen_same (by omega)
          · rw [seen_other e1]; exact h
        have hsu' : rdOf false (s.set u true) u = true := seen_same (by omega)
        have hne : ∀ v : Nat, rdOf false s v = true → u ≠ v := fun v h e1 => by subst e1; rw [hsu] at h; cases h
        cases r with
        | true =>
          obtain ⟨g1, g2⟩ := h5.win rfl
          refine ⟨k0 + 1, true, m'.set u e, s', fun k hk => ?_, h2.set huU (by omega), h3, by omega, fun v hv h => h5.grow v hv (hsm v hv h), fun v hv h => ?_, (fun h => by cases h), fun _ => ⟨fun v hv => ?_, fun x => ?_⟩⟩
          · obtain ⟨k, rfl⟩ : ∃ j, k = j + 1 := ⟨k - 1, by omega⟩
            rw [unf, if_neg (by rw [hsu]; simp), if_neg hmu, hf, h1 k (by omega)]
            rfl
          · rw [rd_set_other (hne v h)]
            exact h5.keep v hv (hsm v hv h)
          · by_cases e1 : u = v
            · subst e1; exact .inr ⟨e, i, rd_set_same (by rw [h2.1]; exact huU), by omega, hu⟩
            · rw [rd_set_other e1]; exact g1 v hv
          · have h6 := cnt_set (m := m') (u := u) (y := (e : Int)) (x := x) (by rw [h2.1]; exact huU)
            have h7 := g2 x
            rw [h5.keep u huU hsu', hf] at h6
            by_cases hx : x = e
            · rw [if_pos hx]
              rw [if_pos (show (e : Int) = (x : Int) by omega)] at h6
              by_cases hxf : x = f
              · rw [if_pos hxf] at h7; rw [if_pos (show (f : Int) = (x : Int) by omega)] at h6; omega
              · rw [if_neg hxf] at h7; rw [if_neg (show ¬ (f : Int) = (x : Int) by omega)] at h6; omega
            · rw [if_neg hx]
              rw [if_neg (show ¬ (e : Int) = (x : Int) by omega)] at h6
              by_cases hxf : x = f
              · rw [if_pos hxf] at h7; rw [if_pos (show (f : Int) = (x : Int) by omega)] at h6; omega
              · rw [if_neg hxf] at h7; rw [if_neg (show ¬ (f : Int) = (x : Int) by omega)] at h6; omega
        | false =>
          obtain ⟨g1, g2, g3⟩ := h5.lose rfl
          subst g1
          obtain ⟨k1, r, m2, s2, f1, f2, f3, f4, f5⟩ := ihc (i + 1) m' s' (by omega) h2 h3 (by omega)
          refine ⟨k0 + k1 + 1, r, m2, s2, fun k hk => ?_, f2, f3, by omega, fun v hv h => f5.grow v hv (h5.grow v hv (hsm v hv h)), fun v hv h => f5.keep v hv (h5.grow v hv (hsm v hv h)), fun hr => ?_, f5.win⟩
          · obtain ⟨k, rfl⟩ : ∃ j, k = j + 1 := ⟨k - 1, by omega⟩
            rw [unf, if_neg (by rw [hsu]; simp), if_neg hmu, hf, h1 k (by omega)]
            exact f1 k (by omega)
          · obtain ⟨p1, p2, p3⟩ := f5.lose hr
            have hw : ∀ f j w : Nat, f < E → j < (rd_L4 J f).length → rd (rd_L4 J f) j = w → w < U := fun f j w hf hj hw => by have := hg.uses f hf j hj; omega
            refine ⟨p1, fun j v hj hjl hv => ?_, fun v hv h6 h7 => ?_⟩
            · by_cases hji : j = i
              · subst hji
                have : u = v := by omega
                subst this
                exact f5.grow u huU (h5.grow u huU hsu')
              · exact p2 j v (by omega) hjl hv
            · cases h8 : rdOf false s' v with
              | true =>
                by_cases e1 : u = v
                · subst e1
                  refine ⟨by omega, fun f2 j w hf2 hj hjw => ?_⟩
                  have : f2 = f := by omega
                  subst this
                  exact f5.grow w (hw _ _ _ hfE hj hjw) (g2 j w (Nat.zero_le _) hj hjw)
                · obtain ⟨q1, q2⟩ := g3 v hv h8 (by rw [seen_other e1]; exact h7)
                  exact ⟨q1, fun f2 j w hf2 hj hjw => f5.grow w (hw f2 j w (by have := hm.2 v hv; omega) hj hjw) (q2 f2 j w hf2 hj hjw)⟩
              | false => exact p3 v hv h6 h8
theorem try_ok2 (hg : Gok E U J) : ∀ (d : Nat) (m : List Int) (s : List Bool) (e : Nat), Mok E U m → s.length = U → cf s < d → e < E →
    ∃ k0 r m' s', (∀ k, k0 ≤ k → match_matched_try.f k m N V J e s = some (r, m', s')) ∧ Mok E U m' ∧ s'.length = U ∧ cf s' ≤ cf s ∧ TrySpec U J e 0 m s r m' s' := by
  intro d
  induction d with
  | zero => intro m s e hm hs hd; omega
  | succ d ih =>
    intro m s e hm hs hd he
    obtain ⟨k0, r, m', s', h1, h2⟩ := loop_ok2 hg d ih e he (rd_L4 J e).length 0 m s (by omega) hm hs (by omega)
    refine ⟨k0 + 1, r, m', s', fun k hk => ?_, h2⟩
    obtain ⟨k, rfl⟩ : ∃ j, k = j + 1 := ⟨k - 1, by omega⟩
    simp only [match_matched_try.f]
    rw [if_pos (by omega), if_pos (by rw [hg.len]; omega)]
    exact h1 k (by omega)
end Go.Proofs.Ytmfcefakpfbaoaa.PMatch
end
section
set_option linter.unusedVariables false
namespace Go.Proofs.Ytmfcefakpfbaoaa.PMatch
open Go.RowKit Go.Proofs.YtmfcefakpfbaoaaW.PrintWords Go.Proofs.YtmfcefakpfbaoaaW.PrintLast Go.Proofs.YtmfcefakpfbaoaaW.PrintMore
variable {E U : Nat} {N : List ByteArray} {V : List S47} {J : List (List Int)}
theorem rd_get {m : List Int} {u : Nat} (h : u < m.length) : rd m u = m[u] := by simp [rd, List.getD_eq_getElem?_getD, h]
theorem cnt_pos {m : List Int} {u f : Nat} (hu : u < m.length) (h : rd m u = f) : 0 < cnt m f := by
  unfold cnt
  rw [List.countP_pos_iff]
  exact ⟨m[u], List.getElem_mem _, by rw [← rd_get hu, h]; simp⟩
theorem cnt_ex {m : List Int} {f : Nat} (h : 0 < cnt m f) : ∃ u : Nat, u < m.length ∧ rd m u = f := by
  unfold cnt at h
  rw [List.countP_pos_iff] at h
  obtain ⟨x, hx, h2⟩ := h
  obtain ⟨u, hu, h3⟩ := List.mem_iff_getElem.1 hx
  exact ⟨u, hu, by rw [rd_get hu, h3]; simpa using h2⟩
theorem cnt_uniq {m : List Int} {f u v : Nat} (h : cnt m f ≤ 1) (hu : u < m.length) (hv : v < m.length) (h1 : rd m u = f) (h2 : rd m v = f) : u = v := by
  apply Classical.byContradiction
  intro hne
  have h3 := cnt_set (m := m) (u := u) (y := -1) (x := f) hu
  rw [if_pos h1, if_neg (by omega)] at h3
  have h4 := cnt_pos (m := m.set u (-1)) (u := v) (f := f) (by rw [List.length_set]; exact hv) (by rw [rd_set_other hne]; exact h2)
  omega
structure Perf (E U : Nat) (J : List (List Int)) (M : Nat → Nat) : Prop where
  row : ∀ e, e < E → M e < U ∧ ∃ j : Nat, j < (rd_L4 J e).length ∧ rd (rd_L4 J e) j = (M e : Int)
  inj : ∀ e f, e < E → f < E → M e = M f → e = f
def Ext (M : Nat → Nat) (o : List Int) : Prop := ∀ i : Nat, i < o.length → rd o i = (M i : Int)
structure Run (E U : Nat) (J : List (List Int)) (o : List Int) (y x : Nat) (m : List Int) (s : List Bool) : Prop where
  ok : Mok E U m
  sl : s.length = U
  pair : ∀ u f : Nat, u < U → rd m u = f → ∃ j : Nat, j < (rd_L4 J f).length ∧ rd (rd_L4 J f) j = u
  one : ∀ f : Nat, f < E → cnt m f = if f < x then 1 else 0
  fix : ∀ i u : Nat, i < y → rd o i = u → rd m u = i
  shut : ∀ u : Nat, u < U → (rdOf false s u = true ↔ ∃ i : Nat, i < y ∧ rd o i = u)
structure Fix (E U : Nat) (J : List (List Int)) (o : List Int) : Prop where
  out : Out J o.length o
  nn : ∀ i : Nat, i < o.length → 0 ≤ rd o i
  le : o.length ≤ E
theorem Fix.use (hg : Gok E U J) {o : List Int} (h : Fix E U J o) {i : Nat} (hi : i < o.length) : ∃ u j : Nat, rd o i = u ∧ u < U ∧ j < (rd_L4 J i).length ∧ rd (rd_L4 J i) j = u := by
  have h0 := h.nn i hi
  rcases h.out.row i hi with h1 | ⟨⟨j, h1, h2⟩, _⟩
  · omega
  · have h3 := hg.uses i (by have := h.le; omega) j h1
    exact ⟨(rd o i).toNat, j, by omega, by omega, h1, by omega⟩
theorem Fix.apart {o : List Int} (h : Fix E U J o) {i k : Nat} (hik : i < k) (hk : k < o.length) : rd o i ≠ rd o k := by
  have h0 := h.nn k hk
  rcases h.out.row k hk with h1 | ⟨_, h2⟩
  · omega
  · exact h2 i hik
theorem Run.le1 {o : List Int} {y x : Nat} {m : List Int} {s : List Bool} (h : Run E U J o y x m s) {f : Nat} (hf : f < E) : cnt m f ≤ 1 := by
  rw [h.one f hf]; split <;> omega
theorem fail_no (hg : Gok E U J) {o : List Int} {x : Nat} {m m' : List Int} {s s' : List Bool} (hx : x < E) (hox : o.length ≤ x) (hfx : Fix E U J o) (h : Run E U J o o.length x m s) (ht : TrySpec U J x 0 m s false m' s') : ¬ ∃ M, Perf E U J M ∧ Ext M o := by
  rintro ⟨M, hP, hE⟩
  obtain ⟨_, t1, t2⟩ := ht.lose rfl
  have hml := h.ok.1
  have hS : ∀ u : Nat, u ∈ (List.range U).filter (fun (u : Nat) => rdOf false s' (u : Int) && !rdOf false s (u : Int)) ↔ u < U ∧ rdOf false s' u = true ∧ rdOf false s u = false := fun u => by
    rw [List.mem_filter, List.mem_range]; simp
  obtain ⟨S, hSS⟩ : ∃ S, S = (List.range U).filter (fun (u : Nat) => rdOf false s' (u : Int) && !rdOf false s (u : Int)) := ⟨_, rfl⟩
  have hSn : S.Nodup := by rw [hSS]; exact List.nodup_range.filter _
  rw [← hSS] at hS
  -- what is known of an equation whose use is in S
  have key : ∀ u : Nat, u ∈ S → ∃ f : Nat, rd m u = f ∧ f < E ∧ f ≠ x ∧ o.length ≤ f ∧ ∀ j w : Nat, j < (rd_L4 J f).length → rd (rd_L4 J f) j = w → rdOf false s' w = true := fun u hu => by
    obtain ⟨h1, h2, h3⟩ := (hS u).1 hu
    obtain ⟨h4, h5⟩ := t2 u h1 h2 h3
    have h6 := h.ok.2 u h1
    refine ⟨(rd m u).toNat, by omega, by omega, fun e => ?_, ?_, fun j w hj hw => h5 _ j w (by omega) hj hw⟩
    · have h7 := cnt_pos (m := m) (u := u) (f := x) (by omega) (by omega)
      rw [h.one x hx, if_neg (Nat.lt_irrefl x)] at h7
      omega
    · apply Classical.byContradiction
      intro hlt
      have hlt' : (rd m u).toNat < o.length := by omega
      obtain ⟨v, j, hv, hvU, _, _⟩ := hfx.use hg hlt'
      have h7 := h.fix _ v hlt' hv
      have h8 := cnt_uniq (m := m) (f := (rd m u).toNat) (u := u) (v := v) (h.le1 (by omega)) (by omega) (by omega) (by omega) h7
      subst h8
      have := (h.shut u h1).2 ⟨_, hlt', hv⟩
      rw [this] at h3; cases h3
  have hin : ∀ t : Nat, t < E → o.length ≤ t → (∀ j w : Nat, j < (rd_L4 J t).length → rd (rd_L4 J t) j = w → rdOf false s' w = true) → M t ∈ S := fun t ht1 ht2 ht3 => by
    obtain ⟨h1, j, h2, h3⟩ := hP.row t ht1
    refine (hS _).2 ⟨h1, ht3 j (M t) h2 h3, ?_⟩
    cases h4 : rdOf false s (M t : Int)
    · rfl
    · obtain ⟨i, h5, h6⟩ := (h.shut _ h1).1 h4
      have h7 := hE i h5
      have : i = t := hP.inj i t (by have := hfx.le; omega) ht1 (by omega)
      omega
  have hL := Blt.len_le (M x :: S.map fun (u : Nat) => M (rd m (u : Int)).toNat) S (by
    rw [List.nodup_cons]
    refine ⟨fun hm => ?_, ?_⟩
    · obtain ⟨u, hu, h1⟩ := List.mem_map.1 hm
      obtain ⟨f, h2, h3, h4, _⟩ := key u hu
      rw [h2, Int.toNat_natCast] at h1
      exact h4 (hP.inj f x h3 hx h1)
    · rw [List.Nodup, List.pairwise_map]
      refine hSn.imp_of_mem (fun {u v} hu hv huv e => huv ?_)
      obtain ⟨f, h2, h3, _⟩ := key u hu
      obtain ⟨f', h2', h3', _⟩ := key v hv
      rw [h2, h2', Int.toNat_natCast, Int.toNat_natCast] at e
      have := hP.inj f f' h3 h3' e
      subst this
      exact cnt_uniq (h.le1 h3) (by have := ((hS u).1 hu).1; omega) (by have := ((hS v).1 hv).1; omega) h2 h2') (fun w hw => by
    rcases List.mem_cons.1 hw with rfl | hw
    · exact hin x hx hox fun j w hj hw => t1 j w (Nat.zero_le _) hj hw
    · obtain ⟨u, hu, rfl⟩ := List.mem_map.1 hw
      obtain ⟨f, h2, h3, _, h5, h6⟩ := key u hu
      rw [h2, Int.toNat_natCast]
      exact hin f h3 h5 h6)
  rw [List.length_cons, List.length_map] at hL
  omega
theorem Run.all {o : List Int} {m : List Int} {s : List Bool} (hg : Gok E U J) (hfx : Fix E U J o) (h : Run E U J o o.length E m s) : ∃ M, Perf E U J M ∧ Ext M o := by
  have hml := h.ok.1
  have hex : ∀ e : Nat, ∃ u : Nat, e < E → u < U ∧ rd m u = e := fun e => by
    by_cases he : e < E
    · obtain ⟨u, h1, h2⟩ := cnt_ex (m := m) (f := e) (by rw [h.one e he, if_pos he]; decide)
      exact ⟨u, fun _ => ⟨by omega, h2⟩⟩
    · exact ⟨0, fun h => absurd h he⟩
  obtain ⟨M, hM⟩ : ∃ M : Nat → Nat, ∀ e : Nat, e < E → M e < U ∧ rd m (M e : Int) = e := ⟨fun e => Classical.choose (hex e), fun e he => Classical.choose_spec (hex e) he⟩
  refine ⟨M, ⟨fun e he => ?_, fun e f he hf hef => ?_⟩, fun i hi => ?_⟩
  · obtain ⟨h1, h2⟩ := hM e he
    exact ⟨h1, h.pair _ e h1 h2⟩
  · obtain ⟨h1, h2⟩ := hM e he
    obtain ⟨h3, h4⟩ := hM f hf
    rw [hef, h4] at h2
    omega
  · have hiE : i < E := by have := hfx.le; omega
    obtain ⟨h1, h2⟩ := hM i hiE
    obtain ⟨u, j, h3, h4, _, _⟩ := hfx.use hg hi
    have h5 := cnt_uniq (h.le1 hiE) (by omega) (by omega) h2 (h.fix i u hi h3)
    rw [h5]; exact h3
theorem l1_bound (hg : Gok E U J) (hN : N.length = E) (hE : E ≤ 1000000) : ∀ (c x : Nat) (m : List Int) (s : List Bool) (n : Nat), x + c = E → Mok E U m → s.length = U → n + c ≤ 1000000 →
    ∃ k0 m' n', (∀ k, k0 ≤ k → match_greatest.l1 k m s (n : Int) (x : Int) N V J = some (m', ((n' : Nat) : Int))) ∧ n' ≤ n + c := by
  intro c
  induction c with
  | zero =>
    intro x m s n hx hm hs hn
    refine ⟨1, m, n, fun k hk => ?_, Nat.le_refl _⟩
    obtain ⟨k, rfl⟩ : ∃ j, k = j + 1 := ⟨k - 1, by omega⟩
    simp only [match_greatest.l1]
    rw [if_neg (by omega)]
  | succ c ih =>
    intro x m s n hx hm hs hn
    obtain ⟨k0, r, m', s', h1, h2, _, _⟩ := try_ok (N := N) (V := V) hg (cf s + 1) m s x hm hs (by omega) (by omega)
    have HW := Lib.hid (wr_ (x : Int) (by omega) (by omega))
    have HWn := Lib.hid (wr_ (n : Int) (by omega) (by omega))
    have HC := Lib.hid (clone_b (s := s) (by have := hg.small; omega))
    have unf : ∀ k, k0 ≤ k → match_greatest.l1 (k + 1) m s n (x : Int) N V J = if r = true then match_greatest.l1 k m' s ((n + 1 : Nat) : Int) ((x + 1 : Nat) : Int) N V J else match_greatest.l1 k m' s n ((x + 1 : Nat) : Int) N V J := by
      intro k hk
      simp only [match_greatest.l1]
      rw [if_pos (by omega), HC.out]
      simp only [Option.bind_some]
      rw [h1 k hk, HW.out, HWn.out, Int.natCast_add, Int.natCast_add]
      rfl
    cases r with
    | true =>
      obtain ⟨k1, m2, n2, g, g2⟩ := ih (x + 1) m' s (n + 1) (by omega) h2 hs (by omega)
      refine ⟨k0 + k1 + 1, m2, n2, fun k hk => ?_, by omega⟩
      obtain ⟨k, rfl⟩ : ∃ j, k = j + 1 := ⟨k - 1, by omega⟩
      rw [unf k (by omega), if_pos rfl]
      exact g k (by omega)
    | false =>
      obtain ⟨k1, m2, n2, g, g2⟩ := ih (x + 1) m' s n (by omega) h2 hs (by omega)
      refine ⟨k0 + k1 + 1, m2, n2, fun k hk => ?_, by omega⟩
      obtain ⟨k, rfl⟩ : ∃ j, k = j + 1 := ⟨k - 1, by omega⟩
      rw [unf k (by omega), if_neg (by simp)]
      exact g k (by omega)
theorem l1_spec (hg : Gok E U J) (hN : N.length = E) (hE : E ≤ 400000) {o : List Int} (hfx : Fix E U J o) : ∀ (c x : Nat) (m : List Int) (s : List Bool) (n : Nat), x + c = E → o.length ≤ x → Run E U J o o.length x m s → n + c ≤ 1000000 →
    ∃ k0 m' n', (∀ k, k0 ≤ k → match_greatest.l1 k m s (n : Int) (x : Int) N V J = some (m', ((n' : Nat) : Int))) ∧ n' ≤ n + c ∧ (n' = n + c ↔ ∃ M, Perf E U J M ∧ Ext M o) := by
  intro c
  induction c with
  | zero =>
    intro x m s n hx hox hr hn
    have hxE : x = E := by omega
    refine ⟨1, m, n, fun k hk => ?_, Nat.le_refl _, fun _ => ?_, fun _ => rfl⟩
    · obtain ⟨k, rfl⟩ : ∃ j, k = j + 1 := ⟨k - 1, by omega⟩
      simp only [match_greatest.l1]
      rw [if_neg (by omega)]
    · subst hxE; exact hr.all hg hfx
  | succ c ih =>
    intro x m s n hx hox hr hn
    have hm := hr.ok
    have hs := hr.sl
    obtain ⟨k0, r, m', s', h1, h2, h3, h4, h5⟩ := try_ok2 (N := N) (V := V) hg (cf s + 1) m s x hm hs (by omega) (by omega)
    have HW := Lib.hid (wr_ (x : Int) (by omega) (by omega))
    have HWn := Lib.hid (wr_ (n : Int) (by omega) (by omega))
    have HC := Lib.hid (clone_b (s := s) (by have := hg.small; omega))
    have unf : ∀ k, k0 ≤ k → match_greatest.l1 (k + 1) m s n (x : Int) N V J = if r = true then match_greatest.l1 k m' s ((n + 1 : Nat) : Int) ((x + 1 : Nat) : Int) N V J else match_greatest.l1 k m' s n ((x + 1 : Nat) : Int) N V J := by
      intro k hk
      simp only [match_greatest.l1]
      rw [if_pos (by omega), HC.out]
      simp only [Option.bind_some]
      rw [h1 k hk, HW.out, HWn.out, Int.natCast_add, Int.natCast_add]
      rfl
    cases r with
    | true =>
      obtain ⟨w1, w2⟩ := h5.win rfl
      have hr' : Run E U J o o.length (x + 1) m' s := by
        refine ⟨h2, hs, fun u f hu hf => ?_, fun f hf => ?_, fun i u hi hu => ?_, hr.shut⟩
        · rcases w1 u hu with h6 | ⟨f', j, h6, h7, h8⟩
          · exact hr.pair u f hu (by omega)
          · have : f = f' := by omega
            subst this
            exact ⟨j, h7, h8⟩
        · rw [w2 f, hr.one f hf]
          by_cases e1 : f = x
          · rw [if_neg (by omega), if_pos e1, if_pos (by omega)]
          · by_cases e2 : f < x
            · rw [if_pos e2, if_neg e1, if_pos (by omega)]
            · rw [if_neg e2, if_neg e1, if_neg (by omega)]
        · obtain ⟨v, _, h6, h7, _⟩ := hfx.use hg hi
          have : u = v := by omega
          subst this
          rw [h5.keep u h7 ((hr.shut u h7).2 ⟨i, hi, hu⟩)]
          exact hr.fix i u hi hu
      obtain ⟨k1, m2, n2, g, g2, g3⟩ := ih (x + 1) m' s (n + 1) (by omega) (by omega) hr' (by omega)
      refine ⟨k0 + k1 + 1, m2, n2, fun k hk => ?_, by omega, by rw [← g3]; omega⟩
      obtain ⟨k, rfl⟩ : ∃ j, k = j + 1 := ⟨k - 1, by omega⟩
      rw [unf k (by omega), if_pos rfl]
      exact g k (by omega)
    | false =>
      have hno := fail_no hg (by omega) hox hfx hr h5
      obtain ⟨k1, m2, n2, g, g2⟩ := l1_bound (N := N) (V := V) hg hN (by omega) c (x + 1) m' s n (by omega) h2 hs (by omega)
      refine ⟨k0 + k1 + 1, m2, n2, fun k hk => ?_, by omega, fun h => by omega, fun h => absurd h hno⟩
      obtain ⟨k, rfl⟩ : ∃ j, k = j + 1 := ⟨k - 1, by omega⟩
      rw [unf k (by omega), if_neg (by simp)]
      exact g k (by omega)
theorem l0_spec (hg : Gok E U J) (hN : N.length = E) (hE : E ≤ 400000) {o : List Int} (hfx : Fix E U J o) : ∀ (c x : Nat) (m : List Int) (s : List Bool), x + c = o.length → Run E U J o x x m s →
    ∃ k0 m' n', (∀ k, k0 ≤ k → match_greatest.l0 k o m s (x : Int) o (o.length : Int) (x : Int) N V J = some (m', ((n' : Nat) : Int))) ∧ (n' = E ↔ ∃ M, Perf E U J M ∧ Ext M o) := by
  have hoE := hfx.le
  intro c
  induction c with
  | zero =>
    intro x m s hx hr
    have hxo : x = o.length := by omega
    subst hxo
    obtain ⟨k0, m', n', h, h2, h3⟩ := l1_spec (N := N) (V := V) hg hN hE hfx (E - o.length) o.length m s o.length (by omega) (Nat.le_refl _) hr (by omega)
    refine ⟨k0 + 1, m', n', fun k hk => ?_, by rw [← h3]; omega⟩
    obtain ⟨k, rfl⟩ : ∃ j, k = j + 1 := ⟨k - 1, by omega⟩
    simp only [match_greatest.l0]
    rw [if_neg (by omega)]
    exact h k (by omega)
  | succ c ih =>
    intro x m s hx hr
    obtain ⟨u, j, hu, huU, hj, hju⟩ := hfx.use hg (i := x) (by omega)
    have HW := Lib.hid (wr_ (x : Int) (by omega) (by omega))
    have hmU := hr.ok.1
    have hsU := hr.sl
    have hneg : rd m u < 0 := by
      apply Classical.byContradiction
      intro h0
      obtain ⟨f, hf⟩ : ∃ f : Nat, rd m u = f := ⟨(rd m u).toNat, by omega⟩
      have hfE : f < E := by have := hr.ok.2 u huU; omega
      have h1 := cnt_pos (by omega) hf
      rw [hr.one f hfE] at h1
      have hfx' : f < x := by
        apply Classical.byContradiction
        intro h2; rw [if_neg h2] at h1; omega
      obtain ⟨v, _, h2, h3, _⟩ := hfx.use hg (i := f) (by omega)
      have h4 := hr.fix f v hfx' h2
      have h5 := cnt_uniq (hr.le1 hfE) (by omega) (by omega) hf h4
      subst h5
      exact hfx.apart hfx' (by omega) (h2.trans hu.symm)
    have hr' : Run E U J o (x + 1) (x + 1) (m.set u x) (s.set u true) := by
      refine ⟨hr.ok.set huU (by omega), by rw [List.length_set]; exact hsU, fun v f hv hf => ?_, fun f hf => ?_, fun i v hi hv => ?_, fun v hv => ?_⟩
      · by_cases e1 : u = v
        · subst e1
          rw [rd_set_same (by omega)] at hf
          have : f = x := by omega
          subst this
          exact ⟨j, hj, hju⟩
        · rw [rd_set_other e1] at hf
          exact hr.pair v f hv hf
      · have h1 := cnt_set (m := m) (u := u) (y := (x : Int)) (x := f) (by omega)
        rw [if_neg (by omega), hr.one f hf] at h1
        by_cases e1 : f = x
        · rw [if_pos (by omega)]
          rw [if_neg (by omega), if_pos (by omega)] at h1
          omega
        · rw [if_neg (show ¬ (x : Int) = (f : Int) by omega)] at h1
          by_cases e2 : f < x
          · rw [if_pos e2] at h1; rw [if_pos (by omega)]; omega
          · rw [if_neg e2] at h1; rw [if_neg (by omega)]; omega
      · by_cases e1 : i = x
        · subst e1
          have : v = u := by omega
          subst this
          exact rd_set_same (by omega)
        · have hne : u ≠ v := fun e2 => by
            subst e2
            exact hfx.apart (i := i) (k := x) (by omega) (by omega) (hv.trans hu.symm)
          rw [rd_set_other hne]
          exact hr.fix i v (by omega) hv
      · by_cases e1 : u = v
        · subst e1
          rw [seen_same (by omega)]
          exact ⟨fun _ => ⟨x, by omega, hu⟩, fun _ => rfl⟩
        · rw [seen_other e1, hr.shut v hv]
          constructor
          · rintro ⟨i, h1, h2⟩; exact ⟨i, by omega, h2⟩
          · rintro ⟨i, h1, h2⟩
            refine ⟨i, ?_, h2⟩
            rcases Nat.lt_or_ge i x with h3 | h3
            · exact h3
            · have : i = x := by omega
              subst this
              omega
    obtain ⟨k0, m', n', h, h2⟩ := ih (x + 1) (m.set u x) (s.set u true) (by omega) hr'
    refine ⟨k0 + 1, m', n', fun k hk => ?_, h2⟩
    obtain ⟨k, rfl⟩ : ∃ j, k = j + 1 := ⟨k - 1, by omega⟩
    simp only [match_greatest.l0]
    rw [if_pos (by omega), if_pos (by omega), if_pos (by omega), hu, if_pos (by omega), if_pos (by omega), if_pos (by omega), if_pos (by omega), HW.out, Int.toNat_natCast]
    have := h k (by omega)
    rw [Int.natCast_add] at this
    exact this
theorem greatest_spec (hg : Gok E U J) (hN : N.length = E) (hV : V.length = U) (hE : E ≤ 400000) {o : List Int} (hfx : Fix E U J o) : ∃ k0 m n, (∀ k, k0 ≤ k → match_greatest.f k N V J o = some (m, ((n : Nat) : Int))) ∧ (n = E ↔ ∃ M, Perf E U J M ∧ Ext M o) := by
  have hU := hg.small
  have hrep : ∀ u : Nat, u < U → rd (List.replicate U (-1)) u = -1 := fun u hu => by simp [rd, List.getD_eq_getElem?_getD, hu]
  have hr0 : Run E U J o 0 0 (List.replicate U (-1)) (List.replicate U false) := by
    refine ⟨⟨List.length_replicate .., fun u hu => by rw [hrep u hu]; omega⟩, by simp, fun u f hu hf => by rw [hrep u hu] at hf; omega, fun f hf => ?_, fun i u hi => by omega, fun u hu => ?_⟩
    · rw [if_neg (by omega)]
      unfold cnt
      rw [List.countP_eq_zero]
      intro a ha
      rw [List.mem_replicate] at ha
      rw [ha.2]; simp
    · constructor
      · intro h; simp [rdOf, List.getD_eq_getElem?_getD, hu] at h
      · rintro ⟨i, hi, _⟩; omega
  obtain ⟨k0, m, n, h, h2⟩ := l0_spec (N := N) (V := V) hg hN hE hfx o.length 0 _ (List.replicate U false) (by omega) hr0
  refine ⟨k0, m, n, fun k hk => ?_, h2⟩
  unfold match_greatest.f
  have hr : slices_Repeat_int_int.f [-1] (V.length : Int) = some (List.replicate U (-1)) := by
    unfold slices_Repeat_int_int.f
    rw [if_pos ⟨rfl, by omega, by omega⟩, hV, Int.toNat_natCast]; rfl
  rw [hr]
  simp only [Option.bind_some]
  rw [if_pos (by omega), Int.toNat_natCast, if_pos (Nat.le_trans (show V.length ≤ 1000000 by omega) (by decide)), hV]
  exact h k hk
theorem Fix.snoc {e : Nat} {o : List Int} {x : Int} (he : e < E) (hoe : o.length = e) (h : Fix E U J o) (hx : ∃ j : Nat, j < (rd_L4 J e).length ∧ rd (rd_L4 J e) j = x) (hx0 : 0 ≤ x) (hn : ∀ i' : Nat, i' < e → rd o i' ≠ x) : Fix E U J (o ++ [x]) := by
  subst hoe
  refine ⟨by rw [List.length_append]; exact h.out.snoc (.inr ⟨hx, hn⟩), fun i hi => ?_, by simp; omega⟩
  by_cases e1 : i < o.length
  · rw [rd_app_left e1]; exact h.nn i e1
  · have : i = o.length := by simp at hi; omega
    subst this
    rw [rd_app_right]; exact hx0
theorem m_l1 (hg : Gok E U J) (hN : N.length = E) (hV : V.length = U) (hE : E ≤ 400000) (e : Nat) (he : e < E) (o : List Int) (hol : o.length = e) (ho : Fix E U J o)
    (ih : ∀ o' : List Int, o'.length = e + 1 → Fix E U J o' → (∃ M, Perf E U J M ∧ Ext M o') → ∃ k0 r, (∀ k, k0 ≤ k → match_match.l0 k (E : Int) o' (E : Int) ((e + 1 : Nat) : Int) N V J = some r) ∧ r.length = E ∧ Fix E U J r) :
    ∀ (c i : Nat), i + c = (rd_L4 J e).length → (∃ j : Nat, i ≤ j ∧ j < (rd_L4 J e).length ∧ ∃ M, Perf E U J M ∧ Ext M (o ++ [rd (rd_L4 J e) j])) →
      ∃ k0 r, (∀ k, k0 ≤ k → match_match.l1 k (E : Int) o (-1) (E : Int) (e : Int) (rd_L4 J e) ((rd_L4 J e).length : Int) (i : Int) N V J = some r) ∧ r.length = E ∧ Fix E U J r := by
  have HWe := Lib.hid (wr_ (e : Int) (by omega) (by omega))
  intro c
  induction c with
  | zero => intro i hi ⟨j, h1, h2, _⟩; omega
  | succ c ihc =>
    intro i hi hex
    have hlen := hg.rows e he
    have HW := Lib.hid (wr_ (i : Int) (by omega) (by omega))
    obtain ⟨kc, b, hc, hb⟩ := contains_ok (l := o) (by omega) (rd (rd_L4 J e) i)
    obtain ⟨hu0, hu1⟩ := hg.uses e he i (by omega)
    have hnext : (¬ ∃ M, Perf E U J M ∧ Ext M (o ++ [rd (rd_L4 J e) i])) → ∃ j : Nat, i + 1 ≤ j ∧ j < (rd_L4 J e).length ∧ ∃ M, Perf E U J M ∧ Ext M (o ++ [rd (rd_L4 J e) j]) := fun hno => by
      obtain ⟨j, h1, h2, h3⟩ := hex
      refine ⟨j, ?_, h2, h3⟩
      by_cases e1 : j = i
      · subst e1; exact absurd h3 hno
      · omega
    cases b with
    | true =>
      obtain ⟨i', hi', hi2⟩ := hb.1 rfl
      obtain ⟨kn, rn, hn1, hn2⟩ := ihc (i + 1) (by omega) (hnext fun ⟨M, hM, hX⟩ => by
        have h1 := hX i' (by simp; omega)
        have h2 := hX o.length (by simp)
        rw [rd_app_left hi', hi2] at h1
        rw [rd_app_right] at h2
        have := hM.inj i' o.length (by omega) (by omega) (by omega)
        omega)
      have hn3 : ∀ k, kn ≤ k → match_match.l1 k (E : Int) o (-1) (E : Int) (e : Int) (rd_L4 J e) ((rd_L4 J e).length : Int) ((i : Int) + 1) N V J = some rn := fun k hk => by
        have := hn1 k hk
        rwa [Int.natCast_add] at this
      refine ⟨kc + kn + 1, rn, fun k hk => ?_, hn2⟩
      obtain ⟨k, rfl⟩ : ∃ j, k = j + 1 := ⟨k - 1, by omega⟩
      simp only [match_match.l1]
      rw [if_pos (by omega), if_pos (by omega), if_pos (by omega), hc k (by omega)]
      simp only [Option.bind_some, if_true]
      rw [HW.out]
      exact hn3 k (by omega)
    | false =>
      have hnot : ∀ i' : Nat, i' < e → rd o i' ≠ rd (rd_L4 J e) i := fun i' hi' h => by
        have := hb.2 ⟨i', by omega, h⟩
        cases this
      have hsn := ho.snoc (x := rd (rd_L4 J e) i) he hol ⟨i, by omega, rfl⟩ hu0 hnot
      obtain ⟨kg, m, n, hgr, hn⟩ := greatest_spec (N := N) (V := V) hg hN hV hE hsn
      have HCL := Lib.hid (clone_i (s := o) (by omega))
      have unf : ∀ k, kc + kg ≤ k → match_match.l1 (k + 1) (E : Int) o (-1) (E : Int) (e : Int) (rd_L4 J e) ((rd_L4 J e).length : Int) (i : Int) N V J =
          if (n : Int) = (E : Int) then match_match.l0 k (E : Int) (o ++ [rd (rd_L4 J e) i]) (E : Int) ((e + 1 : Nat) : Int) N V J else match_match.l1 k (E : Int) o (-1) (E : Int) (e : Int) (rd_L4 J e) ((rd_L4 J e).length : Int) ((i : Int) + 1) N V J := by
        intro k hk
        simp only [match_match.l1]
        rw [if_pos (by omega), if_pos (by omega), if_pos (by omega), hc k (by omega)]
        simp only [Option.bind_some]
        rw [if_neg (by simp), HCL.out]
        simp only [Option.bind_some]
        rw [if_pos (by simp; omega), hgr k (by omega)]
        simp only [Option.bind_some]
        by_cases hm : (n : Int) = (E : Int)
        · rw [if_pos hm, if_pos hm, if_pos (by simp; omega), HWe.out, Int.natCast_add]; rfl
        · rw [if_neg hm, if_neg hm, HW.out]
      by_cases hmost : (n : Int) = (E : Int)
      · obtain ⟨k0, r, h1, h2⟩ := ih _ (by simp; omega) hsn (hn.1 (by omega))
        refine ⟨kc + kg + k0 + 1, r, fun k hk => ?_, h2⟩
        obtain ⟨k, rfl⟩ : ∃ j, k = j + 1 := ⟨k - 1, by omega⟩
        rw [unf k (by omega), if_pos hmost]
        exact h1 k (by omega)
      · obtain ⟨kn, rn, hn1, hn2⟩ := ihc (i + 1) (by omega) (hnext fun h => hmost (by rw [hn.2 h]))
        have hn3 : ∀ k, kn ≤ k → match_match.l1 k (E : Int) o (-1) (E : Int) (e : Int) (rd_L4 J e) ((rd_L4 J e).length : Int) ((i : Int) + 1) N V J = some rn := fun k hk => by
          have := hn1 k hk
          rwa [Int.natCast_add] at this
        refine ⟨kc + kg + kn + 1, rn, fun k hk => ?_, hn2⟩
        obtain ⟨k, rfl⟩ : ∃ j, k = j + 1 := ⟨k - 1, by omega⟩
        rw [unf k (by omega), if_neg hmost]
        exact hn3 k (by omega)
theorem m_l0 (hg : Gok E U J) (hN : N.length = E) (hV : V.length = U) (hE : E ≤ 400000) : ∀ (c e : Nat) (o : List Int), e + c = E → o.length = e → Fix E U J o → (∃ M, Perf E U J M ∧ Ext M o) →
    ∃ k0 r, (∀ k, k0 ≤ k → match_match.l0 k (E : Int) o (E : Int) (e : Int) N V J = some r) ∧ r.length = E ∧ Fix E U J r := by
  intro c
  induction c with
  | zero =>
    intro e o he hol ho _
    refine ⟨1, o, fun k hk => ?_, by omega, ho⟩
    obtain ⟨k, rfl⟩ : ∃ j, k = j + 1 := ⟨k - 1, by omega⟩
    simp only [match_match.l0]
    rw [if_neg (by omega)]
  | succ c ih =>
    intro e o he hol ho ⟨M, hM, hX⟩
    obtain ⟨_, j, hj, hjM⟩ := hM.row e (by omega)
    obtain ⟨k0, r, h1, h2⟩ := m_l1 (N := N) (V := V) hg hN hV hE e (by omega) o hol ho (fun o' hl ho' hx => ih (e + 1) o' (by omega) hl ho' hx) (rd_L4 J e).length 0 (by omega) ⟨j, Nat.zero_le _, hj, M, hM, fun i hi => by
      by_cases e1 : i < o.length
      · rw [rd_app_left e1]; exact hX i e1
      · have : i = o.length := by simp at hi; omega
        subst this
        rw [rd_app_right, hol]; exact hjM⟩
    refine ⟨k0 + 1, r, fun k hk => ?_, h2⟩
    obtain ⟨k, rfl⟩ : ∃ j, k = j + 1 := ⟨k - 1, by omega⟩
    simp only [match_match.l0]
    rw [if_pos (by omega), if_pos (by omega), if_pos (by rw [hg.len]; omega)]
    exact h1 k (by omega)
theorem Fix.nil : Fix E U J [] := ⟨⟨rfl, fun i hi => absurd hi (Nat.not_lt_zero _)⟩, fun i hi => absurd hi (Nat.not_lt_zero _), Nat.zero_le _⟩
theorem Ext.nil {M : Nat → Nat} : Ext M [] := fun i hi => absurd hi (Nat.not_lt_zero _)
theorem rank_spec (hg : Gok E U J) (hN : N.length = E) (hV : V.length = U) (hE : E ≤ 400000) : ∃ k0 m n, (∀ k, k0 ≤ k → match_greatest.f k N V J [] = some (m, ((n : Nat) : Int))) ∧ (n = E ↔ ∃ M, Perf E U J M) := by
  obtain ⟨k0, m, n, h, h2⟩ := greatest_spec (N := N) (V := V) hg hN hV hE Fix.nil
  exact ⟨k0, m, n, h, h2.trans ⟨fun ⟨M, h, _⟩ => ⟨M, h⟩, fun ⟨M, h⟩ => ⟨M, h, Ext.nil⟩⟩⟩
theorem match_full (hg : Gok E U J) (hN : N.length = E) (hV : V.length = U) (hE : E ≤ 400000) {m : List Int} (hm : ∃ k0, ∀ k, k0 ≤ k → match_match.f k N V J = some m) (ho : Out J E m) : (∀ e : Nat, e < E → 0 ≤ rd m e) ↔ ∃ M, Perf E U J M := by
  constructor
  · intro h0
    refine ⟨fun e => (rd m e).toNat, fun e he => ?_, fun e f he hf hef => ?_⟩
    · rcases ho.row e he with h1 | ⟨⟨j, h1, h2⟩, _⟩
      · have := h0 e he; omega
      · have h3 := hg.uses e he j h1
        have := h0 e he
        exact ⟨by omega, j, h1, by omega⟩
    · have hef : (rd m (e : Int)).toNat = (rd m (f : Int)).toNat := hef
      have h1 := h0 e he
      have h2 := h0 f hf
      have key : ∀ a b : Nat, a < b → b < E → rd m a ≠ rd m b := fun a b hab hb => by
        rcases ho.row b hb with h3 | ⟨_, h3⟩
        · have := h0 b hb; omega
        · exact h3 a hab
      rcases Nat.lt_trichotomy e f with h3 | h3 | h3
      · exact absurd (by omega) (key e f h3 hf)
      · exact h3
      · exact absurd (by omega) (key f e h3 he)
  · rintro ⟨M, hM⟩
    obtain ⟨kg, mg, n, hgr, hn⟩ := rank_spec (N := N) (V := V) hg hN hV hE
    have hnE := hn.2 ⟨M, hM⟩
    subst hnE
    obtain ⟨k0, r, h1, h2, h3⟩ := m_l0 (N := N) (V := V) hg hN hV hE n 0 [] (by omega) rfl Fix.nil ⟨M, hM, Ext.nil⟩
    obtain ⟨k1, hm⟩ := hm
    have h4 := hm (kg + k0 + k1) (by omega)
    unfold match_match.f at h4
    rw [hgr _ (by omega)] at h4
    simp only [Option.bind_some] at h4
    rw [if_pos (by omega), Int.toNat_natCast, if_pos (Nat.le_trans (show N.length ≤ 1000000 by omega) (by decide)), hN, show List.replicate 0 (0 : Int) = [] from rfl, show (0 : Int) = ((0 : Nat) : Int) from rfl, h1 _ (by omega)] at h4
    obtain rfl := Option.some.inj h4
    intro e he
    exact h3.nn e (by omega)
end Go.Proofs.Ytmfcefakpfbaoaa.PMatch
end
section
set_option linter.unusedVariables false
set_option linter.unusedSimpArgs false
namespace Go.Proofs.Ytmfcefakpfbaoaa.PMatch
open Go.RowKit Go.Proofs.YtmfcefakpfbaoaaW.PrintWords Go.Proofs.YtmfcefakpfbaoaaW.PrintLast Go.Proofs.YtmfcefakpfbaoaaW.PrintMore
open Blt (ints blocksB needsB levelsB)
section
variable {E : List ByteArray} {U : List S47} {J : List (List Int)} {m : List Int}
variable {A0 : Option Addr} {c0 : Nat} {A1 : Option Addr} {c1 : Nat} {A2 : Option Addr} {c2 : Nat} {w : World}
theorem c_Rank (hv : Valid E U J) (h0 : Kd.C Kd.string w A0 E.length E) (hc0 : E.length ≤ c0) (h1 : Kd.C k47 w A1 U.length U) (hc1 : U.length ≤ c1)
    (h2 : Kd.C (Kd.slice 3 (Kd.int .i64)) w A2 J.length J) (hc2 : J.length ≤ c2) :
    Calls Try.prog 20 #[.agg #[.slice A0 E.length c0, .slice A1 U.length c1, .slice A2 J.length c2]] w fun e w' => ∃ n : Nat, e = .returned (.tuple #[.int .i64 (n : Int), .int .i64 0]) ∧ Below w.heap.size w w' ∧ (n = E.length ↔ ∃ M, Perf E.length U.length J M) := by
  obtain ⟨k1, hk1⟩ := check_ok hv.names hv.uses hv.len (fun i hi => ⟨(hv.rows i hi).1, by have := (hv.rows i hi).2; omega⟩) hv.hE hv.hU
  obtain ⟨k0, mm, n, hk0, hn⟩ := rank_spec (N := E) (V := U) hv.gok rfl rfl (by have := hv.hE; omega)
  have hf : match_Rank.f (k0 + k1) E U J = some ((n : Int), 0) := by
    unfold match_Rank.f
    rw [check_up hk1 (k0 + k1) (by omega), hk0 (k0 + k1) (by omega)]; rfl
  refine (match_Rank.calls (k0 + k1) A0 c0 E A1 c1 U A2 c2 J n 0 w h0 hc0 h1 hc1 h2 hc2 hf).mono ?_
  rintro e w' ⟨rfl, h4⟩
  exact ⟨n, rfl, h4, hn⟩
theorem R_alone {W : World} {base : Nat} {ok : Nat → Prop} {v : Value} {xs : List Int} (h : Kd.R (Kd.int .i64) 3 W base ok v xs) : Kd.R (Kd.int .i64) 3 W base (fun k => v.ownBlock = some k) v xs :=
  Kd.R_of_own (enc := Value.int .i64) (h1 := fun _ => rfl) (Kd.own_of_R (enc := Value.int .i64) (h1 := fun _ => rfl) h) (fun k hk => hk)
theorem R_true {W : World} {base : Nat} {ok : Nat → Prop} {v : Value} {xs : List Int} (h : Kd.R (Kd.int .i64) 3 W base ok v xs) : Kd.R (Kd.int .i64) 3 W base (fun _ => True) v xs := Kd.R_mono h fun _ _ => trivial
def Two (v u : Value) : Prop := ∀ k, v.ownBlock = some k → u.ownBlock ≠ some k
theorem R_past {W W' : World} {base : Nat} {ok : Nat → Prop} {v u : Value} {xs : List Int} (h : Kd.R (Kd.int .i64) 3 W base ok v xs) (ht : Two v u) (hg : W.grownBy W' u.ownBlock) : Kd.R (Kd.int .i64) 3 W' base (fun _ => True) v xs :=
  R_true (Kd.R_grown (R_alone h) hg fun k hk e => ht k hk e.symm)
theorem Two.grow {W : World} {base : Nat} {ok : Nat → Prop} {v v' u : Value} {ys : List Int} (ht : Two v u) (hu : Kd.R (Kd.int .i64) 3 W base ok u ys) (hat : v'.ownBlock = v.ownBlock ∨ ∃ b, v'.ownBlock = some b ∧ W.heap.size ≤ b) : Two v' u := fun k hk hku => by
  rcases hat with h | ⟨b, h, hb⟩
  · rw [h] at hk; exact ht k hk hku
  · rw [h] at hk
    injection hk with hk
    subst hk
    have := Kd.R_lt hu b hku
    omega
theorem Two.symm {v u : Value} (h : Two v u) : Two u v := fun k hk hkv => h k hkv hk
theorem usesOf_len {m : List Int} {b : List Nat} : (usesOf m b).length = b.length := by simp [usesOf]
def eqsP (bl : List (List Nat)) : List Int := (bl.map ints).flatten
def usesP (m : List Int) (bl : List (List Nat)) : List Int := (bl.map (usesOf m)).flatten
theorem ints_flat {bl : List (List Nat)} {i : Nat} {b : List Nat} (h : bl[i]? = some b) : eqsP (bl.take (i + 1)) = (eqsP (bl.take i)) ++ ints b := by
  rw [eqsP, eqsP, List.take_add_one, h]; simp
theorem uses_flat {m : List Int} {bl : List (List Nat)} {i : Nat} {b : List Nat} (h : bl[i]? = some b) : usesP m (bl.take (i + 1)) = (usesP m (bl.take i)) ++ usesOf m b := by
  rw [usesP, usesP, List.take_add_one, h]; simp
set_option maxRecDepth 100000 in
set_option maxHeartbeats 4000000 in
theorem c_Permute_no (hv : Valid E U J) (hm : Matched E U J m) (hh : ¬ Has E U m) (h0 : Kd.C Kd.string w A0 E.length E) (hc0 : E.length ≤ c0) (h1 : Kd.C k47 w A1 U.length U) (hc1 : U.length ≤ c1)
    (h2 : Kd.C (Kd.slice 3 (Kd.int .i64)) w A2 J.length J) (hc2 : J.length ≤ c2) :
    Calls Try.prog 19 #[.agg #[.slice A0 E.length c0, .slice A1 U.length c1, .slice A2 J.length c2]] w fun e w' => e = .returned (.tuple #[.slice none 0 0, .slice none 0 0, .int .i64 13]) ∧ Below w.heap.size w w' := by
  have hb1 : Below w.heap.size w (w.alloc (.cells #[.slice A0 E.length c0, .slice A1 U.length c1, .slice A2 J.length c2] 26)) := (Below.refl _ _).alloc (Nat.le_refl _) _
  have HS := Lib.hid (c_sort_no hv hm hh h0 hc0 h1 hc1 h2 hc2 hb1)
  have HB := Lib.hid hb1
  have hu26 := Try.underlying26
  clear hv hm hh h0 hc0 h1 hc1 h2 hc2 hb1
  go_enter Try.func19, Try.ntmps19
  go_wp2_with fail
  refine HS.out.mono ?_
  rintro ex w2 ⟨rfl, hb2⟩
  have HX := Lib.hid (HB.out.trans (hb2.mono HB.out.size))
  clear hb2
  go_wp2_with fail
  go_ret3
  exact ⟨rfl, HX.out⟩
set_option maxRecDepth 100000 in
set_option maxHeartbeats 4000000 in
theorem c_Permute (hv : Valid E U J) (hm : Matched E U J m) (hh : Has E U m) (h0 : Kd.C Kd.string w A0 E.length E) (hc0 : E.length ≤ c0) (h1 : Kd.C k47 w A1 U.length U) (hc1 : U.length ≤ c1)
    (h2 : Kd.C (Kd.slice 3 (Kd.int .i64)) w A2 J.length J) (hc2 : J.length ≤ c2) :
    Calls Try.prog 19 #[.agg #[.slice A0 E.length c0, .slice A1 U.length c1, .slice A2 J.length c2]] w fun e w' => ∃ A c B d, e = .returned (.tuple #[.slice A (eqsP (blocksB E.length (ndB J m))).length c, .slice B (usesP m (blocksB E.length (ndB J m))).length d, .int .i64 0]) ∧ Below w.heap.size w w' ∧
      Kd.C (Kd.int .i64) w' A (eqsP (blocksB E.length (ndB J m))).length (eqsP (blocksB E.length (ndB J m))) ∧ Kd.C (Kd.int .i64) w' B (usesP m (blocksB E.length (ndB J m))).length (usesP m (blocksB E.length (ndB J m))) := by
  have hb1 : Below w.heap.size w (w.alloc (.cells #[.slice A0 E.length c0, .slice A1 U.length c1, .slice A2 J.length c2] 26)) := (Below.refl _ _).alloc (Nat.le_refl _) _
  have HS := Lib.hid (c_sort_yes hv hm hh h0 hc0 h1 hc1 h2 hc2 hb1)
  have HB := Lib.hid hb1
  have hu26 := Try.underlying26
  have hE := hv.hE
  have hml : m.length = E.length := (hv.out hm).len
  clear hv hm hh h0 hc0 h1 hc1 h2 hc2 hb1
  have HML := Lib.hid hml
  clear hml
  obtain ⟨bl, hbl⟩ : ∃ bl, bl = blocksB E.length (ndB J m) := ⟨_, rfl⟩
  have hNE : bl.length ≤ 120 := by
    have h1 := List.length_filter_le (Blt.leadB E.length (ndB J m)) (List.range E.length)
    rw [hbl, Blt.blocksB_len, Blt.blocks0, List.length_map]
    rw [List.length_range] at h1
    omega
  have hbln : ∀ (i : Nat) (b : List Nat), bl[i]? = some b → b.length ≤ 120 := fun i b hb => by
    rw [hbl] at hb
    have := block_len ((Blt.blocksB_spec).rises i b hb) ((Blt.blocksB_spec).lt i b hb)
    omega
  have hblt : ∀ (i : Nat) (b : List Nat), bl[i]? = some b → ∀ e ∈ b, e < E.length := fun i b hb => by
    rw [hbl] at hb
    exact (Blt.blocksB_spec).lt i b hb
  have hfl : ∀ i, (eqsP (bl.take i)).length ≤ i * 120 ∧ (usesP m (bl.take i)).length ≤ i * 120 := by
    intro i
    induction i with
    | zero => simp [eqsP, usesP]
    | succ i ih =>
      cases hb : bl[i]? with
      | none => rw [List.take_add_one, hb, Option.toList_none, List.append_nil]; omega
      | some b =>
        have := hbln i b hb
        rw [ints_flat hb, uses_flat hb, List.length_append, List.length_append, ints_len, usesOf_len]
        omega
  have HBL := Lib.hid (And.intro hbl (And.intro hbln (And.intro hblt hfl)))
  rw [← hbl]
  clear hbl hbln hblt hfl
  go_enter Try.func19, Try.ntmps19
  go_wp2_with fail
  refine HS.out.mono ?_
  rintro ex w2 ⟨sb, rfl, hb2, hsb, hsrt⟩
  obtain ⟨Au, cu, q3, hcu, hCu⟩ := hsrt.use
  obtain ⟨Ab, cb, q4, hcb, hCb⟩ := hsrt.blocks
  rw [← HBL.out.1] at q4 hcb hCb
  have HX := Lib.hid (And.intro (HB.out.trans (hb2.mono HB.out.size)) (And.intro q3 (And.intro hCu hCb)))
  clear hb2 hsrt hCu hCb hsb
  go_wp2_with fail
  go_loopw [27, 7, 8] (fun v ve vu W => ∃ i : Nat, v = .int .i64 i ∧ i ≤ bl.length ∧ Below w2.heap.size w2 W ∧ Kd.R (Kd.int .i64) 3 W w2.heap.size (fun _ => True) ve (eqsP (bl.take i)) ∧ Kd.R (Kd.int .i64) 3 W w2.heap.size (fun _ => True) vu (usesP m (bl.take i)) ∧ Two ve vu) (fun v _ _ _ => bl.length - (intOf v).toNat)
  case atStart => exact ⟨0, rfl, Nat.zero_le _, Below.refl _ _, Kd.R_nil _ _ _ _ _, Kd.R_nil _ _ _ _ _, fun k hk => by simp [Value.ownBlock] at hk⟩
  case round =>
    obtain ⟨i, rfl, hi, hbw, hRe, hRu, htw⟩ := hrel
    obtain ⟨wi, rfl⟩ : ∃ x, x = wr := ⟨_, rfl⟩
    obtain ⟨Ae, ce, rfl⟩ := Kd.R_slice hRe
    obtain ⟨Aw, cw, rfl⟩ := Kd.R_slice hRu
    have HW := Lib.hid (And.intro hbw (And.intro hRe (And.intro hRu htw)))
    clear hbw hRe hRu htw
    obtain ⟨Le, hLe⟩ : ∃ Le, Le = (eqsP (bl.take i)).length := ⟨_, rfl⟩
    obtain ⟨Lu, hLu⟩ : ∃ Lu, Lu = (usesP m (bl.take i)).length := ⟨_, rfl⟩
    rw [← hLe, ← hLu] at HW
    rw [← hLe, ← hLu]
    have hLb := HBL.out.2.2.2 i
    rw [← hLe, ← hLu] at hLb
    have HLL := Lib.hid (And.intro hLe hLu)
    clear hLe hLu
    by_cases hil : i < bl.length
    · have hil' : (i : Int) < (bl.length : Int) := by omega
      have hi0 : (0 : Int) ≤ (i : Int) := by omega
      obtain ⟨ad, Bb, cc, hA, h7, h8, h9⟩ := at_L4 (Kd.C_below HX.out.2.2.2 HW.out.1) (i : Int) hi0 hil'
      subst hA
      rw [Int.toNat_natCast, rd_ints, ints_len] at h7
      rw [rd_ints, ints_len] at h9
      have hgi : bl[i]? = some (bl.getD i []) := by rw [List.getD_eq_getElem?_getD, List.getElem?_eq_getElem hil]; rfl
      obtain ⟨b, hb⟩ : ∃ b, b = bl.getD i [] := ⟨_, rfl⟩
      rw [← hb] at h7 h9 hgi
      have hbl := HBL.out.2.1 i b hgi
      have k3 := pw_cell_below HW.out.1 q3
      have HG := Lib.hid (And.intro hgi h9)
      clear h8 h9 hb hgi
      go_wp2_with fail
      go_loopw [33, 11] (fun v vl W => ∃ q : Nat, v = .int .i64 q ∧ q ≤ b.length ∧ Below wi.heap.size wi W ∧ Kd.R (Kd.int .i64) 3 W wi.heap.size (fun _ => True) vl ((b.take q).map fun (e : Nat) => rd m (e : Int))) (fun v _ _ => b.length - (intOf v).toNat)
      case atStart => exact ⟨0, rfl, Nat.zero_le _, Below.refl _ _, Kd.R_nil _ _ _ _ _⟩
      case round =>
        obtain ⟨q, rfl, hq, hbq, hRq⟩ := hrel
        obtain ⟨wq, rfl⟩ : ∃ x, x = wr := ⟨_, rfl⟩
        obtain ⟨Aq, cq, rfl⟩ := Kd.R_slice hRq
        have hlq : ((b.take q).map fun (e : Nat) => rd m (e : Int)).length = q := by rw [List.length_map, List.length_take]; omega
        rw [hlq] at hRq ⊢
        have HQ := Lib.hid (And.intro hbq (And.intro hRq hlq))
        clear hbq hRq hlq
        by_cases hql : q < b.length
        · have hql' : (q : Int) < (b.length : Int) := by omega
          have hq0 : (0 : Int) ≤ (q : Int) := by omega
          obtain ⟨aB, hAB, z7⟩ := Kd.at_int (Kd.C_below HG.out.2 HQ.out.1) (q : Int) hq0 hql'
          subst hAB
          obtain ⟨e, he⟩ : ∃ e, e = b.getD q 0 := ⟨_, rfl⟩
          rw [Int.toNat_natCast, rd_int, ← he] at z7
          have heE : e < E.length := HBL.out.2.2.1 i b HG.out.1 e (by rw [he, List.getD_eq_getElem?_getD, List.getElem?_eq_getElem hql]; exact List.getElem_mem _)
          have he0 : (0 : Int) ≤ (e : Int) := by omega
          have heE' : (e : Int) < (E.length : Int) := by omega
          obtain ⟨aU, hAU, z8⟩ := Kd.at_int (Kd.C_below (Kd.C_below HX.out.2.2.1 HW.out.1) HQ.out.1) (e : Int) he0 heE'
          subst hAU
          rw [Int.toNat_natCast] at z8
          obtain ⟨x, hx⟩ : ∃ x, x = rd m e := ⟨_, rfl⟩
          rw [← hx] at z8
          have z3 := pw_cell_below HQ.out.1 k3
          have HT := Lib.hid (And.intro hx (show b.take (q + 1) = b.take q ++ [e] by rw [List.take_add_one, he, List.getD_eq_getElem?_getD, List.getElem?_eq_getElem hql]; rfl))
          clear hx he
          go_wp2_with (at_builtin; go_must (refine Kd.R_append (Kd.int .i64) (w0 := wq) wi.heap.size rfl (.tmp 37) (.tmp 45) 31 3 (.int .i64 0) 8 rfl Try.underlying31 info3 rfl (by decide) (by decide) (.slice Aq q cq) ((b.take q).map fun (e : Nat) => rd m (e : Int)) x [.int .i64 x] (fun _ => True) (fun _ => False) rfl rfl rfl (fun _ hk => hk.elim) (fun _ _ => trivial) HQ.out.2.1 (Below.refl _ _) HQ.out.1.size (by rw [HQ.out.2.2]; omega) ?_); intro v7 w7 hr7 hb7 hg7 hat7; have HY := Lib.hid (And.intro hr7 hb7); clear hr7 hb7 hg7 hat7)
          refine ⟨⟨q + 1, by rw [Int.natCast_add]; rfl, by omega, HQ.out.1.trans HY.out.2, ?_⟩, by simp [intOf]; omega⟩
          rw [HT.out.2, List.map_append, List.map_cons, List.map_nil, ← HT.out.1]
          exact HY.out.1
        · have hql' : ¬ (q : Int) < (b.length : Int) := by omega
          have hqe : q = b.length := by omega
          subst hqe
          go_wp2_with fail
          refine (c_Sort HQ.out.2.1 (by rw [HQ.out.2.2]; omega)).mono ?_
          rintro ex w9 ⟨rfl, hR9, hg9⟩
          have hB9 : Below wi.heap.size wi w9 := HQ.out.1.grown hg9 HQ.out.1.size (fun k hk => Kd.R_base HQ.out.2.1 k hk)
          rw [List.take_length] at hR9
          have HV := Lib.hid (And.intro hB9 (show Kd.R (Kd.int .i64) 3 w9 wi.heap.size (fun _ => True) (.slice Aq b.length cq) (usesOf m b) from hR9))
          clear hB9 hR9 hg9
          have hCb9 := Kd.C_below HG.out.2 HV.out.1
          have hRe9 := Kd.R_below HW.out.2.1 HV.out.1
          have hRu9 := Kd.R_below HW.out.2.2.1 HV.out.1
          have hCl9 := (Kd.R_reads' HV.out.2).2.2
          rw [usesOf_len] at hCl9
          have hs9 : w2.heap.size ≤ wi.heap.size := HW.out.1.size
          have hs99 : wi.heap.size ≤ w9.heap.size := HV.out.1.size
          have H9 := Lib.hid (And.intro hCb9 (And.intro hRe9 (And.intro hRu9 hCl9)))
          clear hCb9 hRe9 hRu9 hCl9 k3 h7
          have HTQ := Lib.hid (show Two (.slice Aq b.length cq) (.slice Ae Le ce) from fun k hk h => by have h1 := Kd.R_base HV.out.2 k hk; have h2 := Kd.R_lt HW.out.2.1 k h; omega)
          go_wp2_with (at_builtin; first
            | (refine Kd.R_append_row (Value.int .i64) (0 : Int) (h1 := fun _ => rfl) (w0 := w9) w2.heap.size rfl (.tmp 50) (.tmp 51) 31 3 (.int .i64 0) 8 rfl Try.underlying31 info3 rfl (by decide) (.slice Ae Le ce) (eqsP (bl.take i)) (ints b) Bb b.length cc (fun _ => True) rfl rfl (fun _ _ => trivial) H9.out.2.1 H9.out.1 (Below.refl _ _) (by omega) (by rw [← HLL.out.1]; omega) ?_; intro v7 w7 hr7 hb7 hg7 hat7; have HY1 := Lib.hid (And.intro hr7 (And.intro hb7 (And.intro hg7 hat7))); clear hr7 hb7 hg7 hat7)
            | (refine Kd.R_append_row (Value.int .i64) (0 : Int) (h1 := fun _ => rfl) (w0 := w7) w2.heap.size rfl (.tmp 53) (.tmp 54) 31 3 (.int .i64 0) 8 rfl Try.underlying31 info3 rfl (by decide) (.slice Aw Lu cw) (usesP m (bl.take i)) (usesOf m b) Aq b.length cq (fun _ => True) rfl rfl (fun _ _ => trivial) (R_past H9.out.2.2.1 (Two.symm HW.out.2.2.2) HY1.out.2.2.1) ?hC (Below.refl _ _) (by have := HY1.out.2.1.size; omega) (by rw [← HLL.out.2]; omega) ?_; (case hC => have hq7 := (Kd.R_reads' (R_past HV.out.2 HTQ.out HY1.out.2.2.1)).2.2; rw [usesOf_len] at hq7; exact hq7); intro v8 w8 hr8 hb8 hg8 hat8; have HY2 := Lib.hid (And.intro hr8 (And.intro hb8 (And.intro hg8 hat8))); clear hr8 hb8 hg8 hat8))
          have htw7 : Two v7 (.slice Aw Lu cw) := Two.grow HW.out.2.2.2 H9.out.2.2.1 HY1.out.2.2.2
          refine ⟨⟨i + 1, by rw [Int.natCast_add]; rfl, by omega, ((HW.out.1.trans (HV.out.1.mono hs9)).trans HY1.out.2.1).trans HY2.out.2.1, ?_, ?_, Two.symm (Two.grow (Two.symm htw7) HY1.out.1 HY2.out.2.2.2)⟩, by simp [intOf]; omega⟩
          · rw [ints_flat HG.out.1]
            exact R_past HY1.out.1 htw7 HY2.out.2.2.1
          · rw [uses_flat HG.out.1]
            exact HY2.out.1
    · have hil' : ¬ (i : Int) < (bl.length : Int) := by omega
      have hie : i = bl.length := by omega
      have hr := Kd.R_reads' HW.out.2.1
      have hs := Kd.R_reads' HW.out.2.2.1
      subst hie
      rw [List.take_length] at hr hs
      have HRS := Lib.hid (And.intro hr hs)
      clear hr hs
      go_wp2_with fail
      go_ret3
      exact ⟨Ae, ce, Aw, ⟨cw, by rw [← HRS.out.1.1, ← HRS.out.2.1]; rfl⟩, HX.out.1.trans (HW.out.1.mono HX.out.1.size), HRS.out.1.2.2, HRS.out.2.2.2⟩
end
end Go.Proofs.Ytmfcefakpfbaoaa.PMatch
end
