/- Lemmas for RowBltAny. -/
import Derived.Test.YtmfcefakpfbaoaaZBlY
section
set_option linter.unusedVariables false
set_option linter.unusedSimpArgs false
namespace Go.Proofs.Ytmfcefakpfbaoaa.PMatch
open Go.RowKit Go.Proofs.YtmfcefakpfbaoaaW.PrintWords Go.Proofs.YtmfcefakpfbaoaaW.PrintLast Go.Proofs.YtmfcefakpfbaoaaW.PrintMore
open Blt (ints blocks0 Blocks seqB blocksB needsB waitB posL placeL)
theorem info31 : (Try.prog.info? 31).map (fun i => (i.zero, i.size, i.bytes)) = some (some (.slice none 0 0), 1, 24) := by kernel_rfl
section
variable {P : Program} {o : Oper} {a : Act} {Q : Exit → Act → World → Prop} {Kc : Act → World → Prop} {α : Type}
theorem R_append_wp (d : Kd α) {w0 W : World} (base : Nat) (hgd : o.guard = none) (s x : Operand) (t e : TypeId) (z : Value) (bytes : Nat)
    (ho : o.op = .call { callee := .builtin .append, args := #[s, x], argTypes := #[t, t] })
    (ht : P.underlying t = some (.slice e)) (hinfo : (P.info? e).map (fun i => (i.zero, i.size, i.bytes)) = some (some z, d.sz, bytes)) (hz : z.cells.size = d.sz) (hs0 : 0 < d.sz) (hb0 : 0 < bytes)
    (v : Value) (xs : List α) (p : α) (cs : List Value) (ok okp : Nat → Prop) (hs : a.eval s = v) (hx : a.eval x = .slice (some ⟨W.heap.size, 0, none⟩) 1 1) (hp : d.M W base okp p cs) (hokp : ∀ k, okp k → ok k ∧ some k ≠ v.ownBlock) (hfresh : ∀ k, W.heap.size ≤ k → ok k)
    (HO : d.R e W base ok v xs) (HB : Below base w0 W) (hbase : base ≤ W.heap.size) (hl : (xs.length + 1) * bytes ≤ 140737488355328)
    (h : ∀ v1 w1, d.R e w1 base ok v1 (xs ++ [p]) → Below base w0 w1 → W.grownBy w1 v.ownBlock → (v1.ownBlock = v.ownBlock ∨ ∃ b, v1.ownBlock = some b ∧ W.heap.size ≤ b) → Kc (a.put o.dst v1) w1) :
    Oper.wp P o a (W.alloc (.cells cs.toArray e)) Kc Q := by
  have hw : Region.wanted o (yielded #[] a.tmps) = true := by unfold Region.wanted; rw [hgd]
  have h2 := Kd.R_append_step (Q := Q) d base hw s x t e z bytes ho ht hinfo hz hs0 hb0 v xs p cs ok okp hs hx hp hokp hfresh HO HB hbase hl h
  rwa [if_pos hw] at h2
end
theorem xs_len {xs : List Int} {N : Nat} (hnd : xs.Nodup) (h : ∀ y ∈ xs, 0 ≤ y ∧ y < N) : xs.length ≤ N := by
  have h1 : (xs.map Int.toNat).Nodup := by
    refine List.pairwise_map.2 ?_
    refine hnd.imp_of_mem fun {a b} ha hb hne e => hne ?_
    have := (h a ha).1
    have := (h b hb).1
    omega
  have h2 := Blt.len_le (xs.map Int.toNat) (List.range N) h1 (fun x hx => by
    obtain ⟨y, hy, rfl⟩ := List.mem_map.1 hx
    have := h y hy
    exact List.mem_range.2 (by omega))
  simpa using h2
theorem posL_inj {seq : List Nat} {i j : Nat} (hn : seq.Nodup) (hi : i ∈ seq) (hj : j ∈ seq) (h : posL seq i = posL seq j) : i = j := by
  obtain ⟨a, h1, h2⟩ := Blt.posL_mem hn hi
  obtain ⟨b, h3, h4⟩ := Blt.posL_mem hn hj
  have : a = b := by omega
  subst this
  rw [h1] at h3
  exact Option.some.inj h3
theorem snoc_nodup {seq : List Nat} {i : Nat} (hn : seq.Nodup) (hi : i ∉ seq) : (seq ++ [i]).Nodup := by
  rw [List.nodup_append]
  exact ⟨hn, by simp, fun a ha b hb => by simp at hb; subst hb; exact fun e => hi (e ▸ ha)⟩
theorem posL_app {seq : List Nat} {i j : Nat} (hn : seq.Nodup) (hi : i ∉ seq) (hj : j ∈ seq) : posL (seq ++ [i]) j = posL seq j := by
  obtain ⟨k, h1, h2⟩ := Blt.posL_mem hn hj
  rw [h2, Blt.posL_some (snoc_nodup hn hi) (by rw [List.getElem?_append_left (List.getElem?_eq_some_iff.1 h1).1]; exact h1)]
theorem R_oldg {α : Type} {d : Kd α} {e base : Nat} {ok : Nat → Prop} {W W' : World} {v : Value} {xs : List α} (h : d.R e W base ok v xs) {p : Nat} (hg : W.grownBy W' (some p)) (hp : p < base) : d.R e W' base ok v xs :=
  Kd.R_mono (Kd.R_grown (Kd.R_bound h) hg (fun k hk => by have := hk.2.1; simp; omega)) (fun _ hk => hk.1)
structure Fr2 (sb fb : Nat) (w W : World) : Prop where
  os : W.os = w.os
  tape : W.tape = w.tape
  output : W.output = w.output
  size : w.heap.size ≤ W.heap.size
  block : ∀ k, k < w.heap.size → k ≠ sb → k ≠ fb → W.heap[k]? = w.heap[k]?
theorem C_of_raw {W : World} {A : Option Addr} {N : Nat} {xs : List (Option Addr × Nat × Nat)} {ls : List (List Int)} (h : Kd.C rawS W A N xs) (hl : ls.length = N)
    (hx : ∀ (k : Nat) (x : Option Addr × Nat × Nat), xs[k]? = some x → ∃ l, ls[k]? = some l ∧ x.2.1 = l.length ∧ x.2.1 ≤ x.2.2 ∧ Kd.C (Kd.int .i64) W x.1 x.2.1 l) : Kd.C (Kd.slice 3 (Kd.int .i64)) W A N ls := by
  refine ⟨hl, h.2.1, fun hN => ?_⟩
  obtain ⟨ad, hA, hc⟩ := h.2.2 hN
  refine ⟨ad, hA, fun j p hj => ?_⟩
  have hjN : j < xs.length := by rw [h.1, ← hl]; exact (List.getElem?_eq_some_iff.1 hj).1
  obtain ⟨c, h1, h2, h3⟩ := hc j _ (List.getElem?_eq_getElem hjN)
  obtain ⟨l, h4, h5, h6, h7⟩ := hx j _ (List.getElem?_eq_getElem hjN)
  rw [hj] at h4
  obtain rfl := Option.some.inj h4
  rw [h5] at h6 h7
  refine ⟨c, h1, ⟨_, _, ?_, h6, h7⟩, h3⟩
  rw [show c = [.slice xs[j].1 xs[j].2.1 xs[j].2.2] from h2, h5]
theorem add_blk (a : Addr) (i : Nat) : (a.add i).block = a.block := by unfold Addr.add; split <;> rfl
def ofL (n : Nat) (seq : List Nat) (of : List Int) (k : Nat) : List Int := (List.range n).map fun f => if f < k then posL seq (rd of f).toNat else rd of f
theorem ofL_len {n k : Nat} {seq : List Nat} {of : List Int} : (ofL n seq of k).length = n := by simp [ofL]
theorem ofL_zero {n : Nat} {seq : List Nat} {of : List Int} (h : of.length = n) : ofL n seq of 0 = of := by
  apply List.ext_getElem
  · rw [ofL_len, h]
  · intro i h1 h2
    simp [ofL, rd, List.getD_eq_getElem?_getD, h2]
theorem ofL_rd {n k f : Nat} {seq : List Nat} {of : List Int} (hf : f < n) : rd (ofL n seq of k) f = if f < k then posL seq (rd of f).toNat else rd of f := by
  simp [ofL, rd, List.getD_eq_getElem?_getD, hf]
theorem ofL_set {n k : Nat} {seq : List Nat} {of : List Int} (hk : k < n) : (ofL n seq of k).set k (posL seq (rd of k).toNat) = ofL n seq of (k + 1) := by
  apply List.ext_getElem
  · rw [List.length_set, ofL_len, ofL_len]
  · intro i h1 h2
    rw [List.getElem_set]
    simp only [ofL, List.getElem_map, List.getElem_range]
    by_cases e : k = i
    · subst e; simp
    · rw [if_neg e]
      by_cases h : i < k
      · rw [if_pos h, if_pos (by omega)]
      · rw [if_neg h, if_neg (by omega)]
section
variable {n N sb fb : Nat} {AJ : Option Addr} {cJ : Nat} {J : List (List Int)} {Am : Option Addr} {cm : Nat} {m : List Int} {Ao : Option Addr} {co : Nat} {of : List Int} {Ab : Option Addr} {cb : Nat} {B0 : Nat}
set_option maxRecDepth 100000 in
set_option maxHeartbeats 4000000 in
theorem c_order {w : World} (hI : OIn n N sb fb AJ cJ J Am cm m Ao co of Ab cb B0 w) :
    Calls Try.prog 48 #[.pointer (some ⟨sb, 0, none⟩), .slice Ab N cb] w fun ex w' => ex = .returned (.tuple #[]) ∧ Fr2 sb fb w w' ∧ (∀ o, o ≠ 4 → o ≠ 6 → w'.cell? ⟨sb, o, none⟩ = w.cell? ⟨sb, o, none⟩) ∧
      (∃ A c, w'.cell? ⟨sb, 4, none⟩ = some (.slice A N c) ∧ N ≤ c ∧ Kd.C (Kd.slice 3 (Kd.int .i64)) w' A N ((blocksB n (ndB J m)).map ints)) ∧
      (∃ A c, w'.cell? ⟨sb, 6, none⟩ = some (.slice A N c) ∧ N ≤ c ∧ Kd.C (Kd.slice 3 (Kd.int .i64)) w' A N ((needsB n (ndB J m)).map ints)) ∧
      Kd.R (Kd.int .i64) 3 w' B0 (fun k => k = fb) (.slice Ao n co) (ofL n (seqB n (ndB J m)) of n) := by
  have hNn : N ≤ 1000000 := by
    have h1 := hI.hN
    have h2 := List.length_filter_le (Blt.leadB n (ndB J m)) (List.range n)
    rw [Blt.blocks0, List.length_map] at h1
    rw [List.length_range] at h2
    have := hI.hn
    omega
  have hsb : sb < w.heap.size := World.block_lt_of_cell? w _ hI.c5
  have mk102 := run_make_row' (P := Try.prog) 102 103 (.map none) 8 Try.underlying102 info102 rfl .i64 .i64 N (by omega) (by omega)
  have hmm := @run_makeMap Try.prog
  have HI := Lib.hid hI
  clear hI
  go_enter Try.func48, Try.ntmps48
  go_wp2_with fail
  go_loopw [21] (fun v W => ∃ j : Nat, v = .int .i64 j ∧ j ≤ N ∧ Below w.heap.size w W ∧ W.cell? ⟨w.heap.size, 0, none⟩ = some (.pointer (some ⟨sb, 0, none⟩)) ∧ W.cell? ⟨w.heap.size + 1 + 1, 0, none⟩ = some (.slice (some ⟨w.heap.size + 1, 0, none⟩) N N)
     ∧ Waits w.heap.size N j (fun i => waitQ J m of ((blocks0 n (ndB J m)).getD i []) n i) W) (fun v _ => N - (intOf v).toNat)
  case atStart =>
    have b1 := (Below.refl w.heap.size w).alloc (Nat.le_refl _) (.cells #[.pointer (some ⟨sb, 0, none⟩)] 62)
    have b2 := b1.alloc b1.size (.cells (madeCells #[.map none] N) 103)
    have b3 := b2.alloc b2.size (.cells #[.slice (some ⟨w.heap.size + 1, 0, none⟩) N N] 102)
    refine ⟨0, rfl, Nat.zero_le _, b3, ?_, ?_, fun j hj => ⟨.map none, ?_⟩, fun j hj => ?_, fun j hj => absurd hj (Nat.not_lt_zero _)⟩
    · rw [World.cell?_alloc_past _ _ _ (by simp <;> omega), World.cell?_alloc_past _ _ _ (by simp <;> omega), World.cell?_alloc_at _ _ _ _ (by simp)]; rfl
    · rw [World.cell?_alloc_at _ _ _ _ (by simp)]; rfl
    · rw [World.cell?_alloc_past _ _ _ (by simp <;> omega), World.cell?_alloc_at _ _ _ _ (by simp)]
      simp [madeCells, hj, Nat.mod_one]
    · rw [World.frozen?_alloc_past _ _ _ (by simp <;> omega), World.frozen?_alloc_at _ _ _ _ (by simp)]
  case round =>
    obtain ⟨j, rfl, hj, hB, h1, h2, hM⟩ := hrel
    obtain ⟨wo, rfl⟩ : ∃ x, x = wr := ⟨_, rfl⟩
    by_cases hlt : j < N
    · have hlt' : (j : Int) < (N : Int) := by omega
      have hj0 : (0 : Int) ≤ (j : Int) := by omega
      obtain ⟨v0, hv0⟩ := hM.there j hlt
      have hf0 := hM.soft j hlt
      have hs2 : w.heap.size + 1 + 1 < wo.heap.size := World.block_lt_of_cell? wo _ h2
      have hs1 : w.heap.size + 1 < wo.heap.size := by omega
      have hs0 : w.heap.size < wo.heap.size := by omega
      have hrb := (Kd.R_reads' HI.out.rb).2.2
      rw [List.length_map, HI.out.hN] at hrb
      obtain ⟨ad, A1, c1, hA, hc1, hcc, hC⟩ := at_L4 hrb (j : Int) hj0 hlt'
      rw [Int.toNat_natCast] at hc1
      subst hA
      rw [rd_ints] at hc1 hcc hC
      obtain ⟨bj, hbj⟩ : ∃ bj, bj = (blocks0 n (ndB J m)).getD j [] := ⟨_, rfl⟩
      obtain ⟨L, hL⟩ : ∃ L, L = ints bj := ⟨_, rfl⟩
      rw [← hbj, ← hL] at hc1 hcc hC
      have hc1' := pw_cell_below hB hc1
      have hbj' : (blocks0 n (ndB J m))[j]? = some bj := by
        rw [hbj, List.getD_eq_getElem?_getD, List.getElem?_eq_getElem (by rw [HI.out.hN]; exact hlt)]; rfl
      have hLl : L.length = bj.length := by rw [hL, ints_len]
      have hbn : bj.length ≤ n := block_len ((Blt.blocks0_spec).rises j bj hbj') ((Blt.blocks0_spec).lt j bj hbj')
      have hLb : L.length ≤ 1000000 := by have := HI.out.hn; omega
      have hOE : ∀ W', (M1 wo w.heap.size j).grownBy W' (some (wo.heap.size + 1)) → OEnv N j sb (w.heap.size + 1) (wo.heap.size + 1) ⟨w.heap.size, 0, none⟩ ⟨wo.heap.size, 0, none⟩ ⟨w.heap.size + 1 + 1, 0, none⟩ Ao co of W' := fun W' hg => by
        have hBW : Below w.heap.size w W' := (M1_below hB).grown hg (M1_below hB).size (fun k hk => by cases hk; omega)
        exact {
          c1 := cell_grown ((World.cell?_of_block (M1_old hs0 (by simp))).trans h1) hg (by simp; omega)
          c2 := cell_grown M1_p2 hg (by simp)
          c3 := cell_grown ((World.cell?_of_block (M1_old hs2 (by simp))).trans h2) hg (by simp; omega)
          cw := cell_grown (((M1_at hs1 j).1).trans (World.cell?_setCell_same _ _ _ hv0)) hg (by simp; omega)
          cf := by rw [HI.out.hof]; exact pw_cell_below hBW HI.out.c5
          rf := by
            have h := (Kd.R_reads' HI.out.ro).2.2
            exact Kd.C_below h hBW
          hi := hlt
          hf := fun k hk => by
            rw [HI.out.hof] at hk
            obtain ⟨i, h3, b, h4, _⟩ := HI.out.hofs k hk
            have := (List.getElem?_eq_some_iff.1 h4).1
            rw [HI.out.hN] at this
            rw [h3]; omega }
      have HL := Lib.hid (And.intro hL hbj)
      have HM := Lib.hid (And.intro hM (And.intro hB (And.intro h1 h2)))
      have HC := Lib.hid hC
      have HO := Lib.hid hOE
      have HJ := Lib.hid hbj'
      clear hL hM hB hC hrb hOE hbj hbj' hc1
      go_wp2_with fail
      go_loopw [32] (fun v W => ∃ q : Nat, v = .int .i64 q ∧ q ≤ L.length ∧ (M1 wo w.heap.size j).grownBy W (some (wo.heap.size + 1)) ∧ MapI W (wo.heap.size + 1) (q * n) (waitQ J m of (bj.take q) n j)) (fun v _ => L.length - (intOf v).toNat)
      case atStart =>
        exact ⟨0, rfl, Nat.zero_le _, grown_of_below (Below.refl _ _) _, (M1_map.mono (Nat.zero_le _)).iff (fun x => ⟨fun h => h.elim, fun h => by rw [List.take_zero] at h; exact waitQ_none h⟩)⟩
      case round =>
        obtain ⟨q, rfl, hq, hg, hM⟩ := hrel
        by_cases hql : q < L.length
        · have hql' : (q : Int) < (L.length : Int) := by omega
          have hq0 : (0 : Int) ≤ (q : Int) := by omega
          have hBW : Below w.heap.size w wr := (M1_below HM.out.2.1).grown hg (M1_below HM.out.2.1).size (fun k hk => by cases hk; omega)
          obtain ⟨ad2, hA2, hc2⟩ := Kd.at_int (Kd.C_below HC.out hBW) (q : Int) hq0 hql'
          subst hA2
          obtain ⟨e, he⟩ : ∃ e, e = bj.getD q 0 := ⟨_, rfl⟩
          have hmem : e ∈ bj := by
            rw [he, List.getD_eq_getElem?_getD, List.getElem?_eq_getElem (by omega)]; exact List.getElem_mem _
          have hen : e < n := (Blt.blocks0_spec).lt j bj HJ.out e hmem
          have hrd : rd L (q : Int) = (e : Int) := by rw [HL.out.1, rd_int, he]
          rw [Int.toNat_natCast, hrd] at hc2
          have hp1 := (HO.out _ hg).c1
          have HX := Lib.hid (And.intro hg (And.intro hM he))
          have HB2 := Lib.hid hBW
          clear hg hM hBW he hrd
          go_wp2_with fail
          refine (c_needed (AJ := AJ) (cJ := cJ) (Am := Am) (cm := cm) (K := fun l W' => (M1 wo w.heap.size j).grownBy W' (some (wo.heap.size + 1)) ∧ MapI W' (wo.heap.size + 1) (q * n + l.length) (fun x => waitQ J m of (bj.take q) n j x ∨ ∃ f ∈ l, rd of f = x ∧ x ≠ (j : Int)) ∧ ∀ f ∈ l, f < n ∧ ndB J m e f = true)
            (.inr rfl) (by rw [HI.out.hm]; exact HI.out.hn) (by rw [HI.out.hJ]; exact hen) (HI.out.hrows e hen) ?_ ?_ ?_ ?_).mono ?_
          · rintro l W' ⟨hg, _, _⟩
            exact HI.out.sees.below ((M1_below HM.out.2.1).grown hg (M1_below HM.out.2.1).size (fun k hk => by cases hk; omega))
          · rintro l W1 W2 ⟨hg, hm, hl⟩ hD
            exact ⟨hg.trans (Drawn0.grownBy hD), hm.block (by obtain ⟨⟨k, rfl⟩⟩ := hD; rfl), hl⟩
          · rintro l W1 k ⟨hg, hm, hl⟩ hlk hk hnd
            rw [HI.out.hm] at hk
            have hn := HI.out.hn
            have hqn : q * n ≤ n * n := Nat.mul_le_mul_right n (by omega)
            have hnn : n * n ≤ 1000000 * 1000000 := Nat.mul_le_mul hn hn
            refine (c_wait (HO.out _ hg) hm (by omega) (by rw [HI.out.hof]; exact hk)).mono ?_
            rintro ex W2 ⟨rfl, hg2, hm2⟩
            refine ⟨rfl, hg.trans hg2, (hm2.mono (by simp; omega)).iff (fun x => ?_), fun f hf => ?_⟩
            · constructor
              · rintro ((h | ⟨f, h, h3, h4⟩) | ⟨h3, h4⟩)
                · exact .inl h
                · exact .inr ⟨f, List.mem_append_left _ h, h3, h4⟩
                · exact .inr ⟨k, List.mem_append_right _ (List.mem_singleton.2 rfl), h3.symm, h4⟩
              · rintro (h | ⟨f, h, h3, h4⟩)
                · exact .inl (.inl h)
                · rcases List.mem_append.1 h with h | h
                  · exact .inl (.inr ⟨f, h, h3, h4⟩)
                  · obtain rfl := List.mem_singleton.1 h
                    exact .inr ⟨h3.symm, h4⟩
            · rcases List.mem_append.1 hf with h | h
              · exact hl f h
              · obtain rfl := List.mem_singleton.1 h
                exact ⟨hk, hnd⟩
          · exact ⟨HX.out.1, HX.out.2.1.iff (fun x => ⟨.inl, fun h => h.elim id (fun ⟨f, h, _⟩ => by cases h)⟩), fun f hf => by cases hf⟩
          · rintro ex W1 ⟨rfl, l, ⟨hg, hm, hl⟩, hll, hall⟩
            have hstep : bj.take (q + 1) = bj.take q ++ [e] := by
              rw [List.take_add_one, HX.out.2.2, List.getD_eq_getElem?_getD, List.getElem?_eq_getElem (by omega)]; rfl
            have hm2 : MapI W1 (wo.heap.size + 1) ((q + 1) * n) (waitQ J m of (bj.take (q + 1)) n j) := by
              refine (hm.mono (by rw [Nat.add_mul, Nat.one_mul]; have := HI.out.hm; omega)).iff (fun x => ?_)
              rw [hstep]
              constructor
              · rintro (⟨e', h3, h4⟩ | ⟨f, h3, h4, h5⟩)
                · exact ⟨e', List.mem_append_left _ h3, h4⟩
                · exact ⟨e, List.mem_append_right _ (List.mem_singleton.2 rfl), f, (hl f h3).1, (hl f h3).2, h4, h5⟩
              · rintro ⟨e', h3, f, h4, h5, h6, h7⟩
                rcases List.mem_append.1 h3 with h3 | h3
                · exact .inl ⟨e', h3, f, h4, h5, h6, h7⟩
                · obtain rfl := List.mem_singleton.1 h3
                  exact .inr ⟨f, hall f (by rw [HI.out.hm]; exact h4) h5, h6, h7⟩
            have HY := Lib.hid (And.intro hg hm2)
            clear hg hm hl hll hall hstep hm2
            go_wp2_with fail
            exact ⟨⟨q + 1, by rw [Int.natCast_add]; rfl, by omega, HY.out.1, HY.out.2⟩, by simp [intOf]; omega⟩
        · have hql' : ¬ (q : Int) < (L.length : Int) := by omega
          have HX := Lib.hid (And.intro hg hM)
          clear hg hM
          go_wp2_with fail
          have hqe : q = bj.length := by omega
          subst hqe
          obtain ⟨hg, hM⟩ := HX.out
          rw [List.take_length] at hM
          have hn := HI.out.hn
          have hqn : bj.length * n ≤ n * n := Nat.mul_le_mul_right n (by omega)
          have hnn : n * n ≤ 1000000 * 1000000 := Nat.mul_le_mul hn hn
          refine ⟨⟨j + 1, by rw [Int.natCast_add]; rfl, by omega, (M1_below HM.out.2.1).grown hg (M1_below HM.out.2.1).size (fun k hk => by cases hk; omega), (HO.out _ hg).c1, (HO.out _ hg).c3, HM.out.1.round (c := bj.length * n) hlt hs2 hg (by omega) ?_⟩, by simp [intOf]; omega⟩
          rw [← HL.out.2]
          exact hM
    · have hlt' : ¬ (j : Int) < (N : Int) := by omega
      have hjN : N = j := by omega
      subst hjN
      have hs2 : w.heap.size + 1 + 1 < wo.heap.size := World.block_lt_of_cell? wo _ h2
      have HM := Lib.hid (And.intro hM (And.intro hB (And.intro h1 h2)))
      clear hM hB
      go_wp2_with fail
      refine (c_Rep hNn wo).mono ?_
      rintro ex w3 ⟨Ap, cp, rfl, hr, hb⟩
      have HR := Lib.hid (And.intro hr hb)
      clear hr hb
      go_wp2_with fail
      have hslices : ∃ bv : Nat → Option Addr × Nat × Nat, ∀ i, i < N → ∃ ad, Ab = some ad ∧ w.cell? (ad.add i) = some (.slice (bv i).1 (bv i).2.1 (bv i).2.2) ∧ (bv i).2.1 = ((blocks0 n (ndB J m)).getD i []).length ∧ (bv i).2.1 ≤ (bv i).2.2 ∧
          Kd.C (Kd.int .i64) w (bv i).1 (bv i).2.1 (ints ((blocks0 n (ndB J m)).getD i [])) := by
        have hrb := (Kd.R_reads' HI.out.rb).2.2
        rw [List.length_map, HI.out.hN] at hrb
        have h : ∀ i : Nat, ∃ t : Option Addr × Nat × Nat, i < N → ∃ ad, Ab = some ad ∧ w.cell? (ad.add i) = some (.slice t.1 t.2.1 t.2.2) ∧ t.2.1 = ((blocks0 n (ndB J m)).getD i []).length ∧ t.2.1 ≤ t.2.2 ∧ Kd.C (Kd.int .i64) w t.1 t.2.1 (ints ((blocks0 n (ndB J m)).getD i [])) := by
          intro i
          by_cases hi : i < N
          · obtain ⟨ad, A1, c1, h1, h2, h3, h4⟩ := at_L4 hrb (i : Int) (by omega) (by omega)
            rw [Int.toNat_natCast] at h2
            rw [rd_ints] at h2 h3 h4
            exact ⟨(A1, (ints ((blocks0 n (ndB J m)).getD i [])).length, c1), fun _ => ⟨ad, h1, h2, ints_len, h3, h4⟩⟩
          · exact ⟨(none, 0, 0), fun h => absurd h hi⟩
        exact ⟨fun i => (h i).choose, fun i => (h i).choose_spec⟩
      obtain ⟨bv, hbv⟩ := hslices
      have HV := Lib.hid hbv
      clear hbv
      have hBw3 : Below wo.heap.size wo w3 := by
        have h1 := (Below.refl wo.heap.size wo).alloc (Nat.le_refl _) (.cells #[.int .i64 (-1)] 3)
        exact h1.trans (HR.out.2.mono (Nat.le_succ _))
      have hsz3 : wo.heap.size + 1 ≤ w3.heap.size := by have := HR.out.2.size; simpa using this
      obtain ⟨pb, hpb⟩ : ∃ pb, pb = (Ap.map (·.block)).getD wo.heap.size := ⟨_, rfl⟩
      have hP0 : Pl wo N sb pb cp Ap (placeL N []) [] [] (.slice none 0 0) (.slice none 0 0) w3 := by
        have hBw : Below w.heap.size w w3 := HM.out.2.1.trans (hBw3.mono HM.out.2.1.size)
        have hsb2 : sb < wo.heap.size := Nat.lt_of_lt_of_le hsb HM.out.2.1.size
        exact {
          fr := grown_of_below hBw3 _
          plen := Blt.placeL_len
          sb1 := hsb2
          place := by
            rw [Blt.placeL_nil]
            have h1 := Kd.own_of_R (enc := Value.int .i64) (h1 := fun _ => rfl) HR.out.1
            rw [List.length_replicate] at h1
            refine Kd.R_of_own (enc := Value.int .i64) (h1 := fun _ => rfl) (by rw [List.length_replicate]; exact own_weaken h1 (Nat.le_succ _)) (fun k hk => ?_)
            cases Ap with
            | none => cases hk
            | some a => rw [hpb]; exact (Option.some.inj hk).symm
          c4 := pw_cell_below hBw HI.out.c4
          f4 := (hBw.frozen (by exact hsb)).trans HI.out.f4
          c6 := pw_cell_below hBw HI.out.c6
          f6 := (hBw.frozen (by exact hsb)).trans HI.out.f6
          oth := fun o _ _ => hBw3.cell (by exact hsb2)
          h4 := Kd.R_of_own (own_nil _ _ _ _) (fun k hk => by cases hk)
          h6 := ⟨(fun k hk => by cases hk), [], own_nil _ _ _ _, Reps.none _ _⟩
          pb1 := by
            cases Ap with
            | none => rw [hpb]; exact Nat.le_refl _
            | some a => have := Kd.R_base HR.out.1 a.block rfl; rw [hpb]; show wo.heap.size ≤ a.block; omega
          pb2 := by
            cases Ap with
            | none => rw [hpb]; exact hsz3
            | some a => have := Kd.R_lt HR.out.1 a.block rfl; rw [hpb]; exact this }
      have HP0 := Lib.hid hP0
      clear hP0 hpb hBw3
      go_loopw [48] (fun v W => ∃ c : Nat, v = .int .i64 c ∧ c ≤ N ∧ ∃ seq v4 v6, seq.length = c ∧ Blt.Ordered N (waitB (ndB J m) (blocks0 n (ndB J m))) seq ∧ Blt.orderB N (waitB (ndB J m) (blocks0 n (ndB J m))) (N - c) seq = seqB n (ndB J m) ∧ Pl wo N sb pb cp Ap (placeL N seq) (seq.map bv) (((needsB n (ndB J m)).take c).map ints) v4 v6 W) (fun v _ => N - (intOf v).toNat)
      case atStart =>
        refine ⟨0, rfl, Nat.zero_le _, [], _, _, rfl, ⟨(fun i h => by cases h), List.nodup_nil, (fun k i h => by simp at h)⟩, ?_, HP0.out⟩
        rw [Nat.sub_zero]
        unfold seqB
        rw [HI.out.hN]
      case round =>
        obtain ⟨c, rfl, hc, seq, v4, v6, hlen, hO, hT, hP⟩ := hrel
        obtain ⟨wc, rfl⟩ : ∃ x, x = wr := ⟨_, rfl⟩
        have HS := Lib.hid (And.intro hlen (And.intro hO hT))
        have HP := Lib.hid hP
        clear hlen hO hT hP HP0 hsz3
        by_cases hcl : c < N
        · have hcl' : (c : Int) < (N : Int) := by omega
          obtain rfl := HP.out.form (by omega)
          have hmaps : ∀ W, wo.grownBy W (some sb) → W.cell? ⟨w.heap.size, 0, none⟩ = some (.pointer (some ⟨sb, 0, none⟩)) ∧ W.cell? ⟨w.heap.size + 1 + 1, 0, none⟩ = some (.slice (some ⟨w.heap.size + 1, 0, none⟩) N N) ∧
              ∀ i, i < N → ∃ b c, b < wo.heap.size ∧ b ≠ sb ∧ c ≤ 1000000000000 ∧ W.cell? ⟨w.heap.size + 1, i, none⟩ = some (.map (some b)) ∧ MapI W b c (waitQ J m of ((blocks0 n (ndB J m)).getD i []) n i) := by
            intro W hg
            refine ⟨cell_grown HM.out.2.2.1 hg (by simp; omega), cell_grown HM.out.2.2.2 hg (by simp; omega), fun i hi => ?_⟩
            obtain ⟨b, c, h3, h4, h5, h6⟩ := HM.out.1.rows i hi
            exact ⟨b, c, h6.lt, by omega, h4, cell_grown h5 hg (by simp; omega), h6.block (hg.block b h6.lt (by simp; omega))⟩
          have HW := Lib.hid hmaps
          clear hmaps
          go_wp2_with fail
          go_loopw [53] (fun v W => ∃ i : Nat, v = .int .i64 i ∧ i ≤ N ∧ Below wc.heap.size wc W ∧ ∀ k, k < i → Blt.freeB N (waitB (ndB J m) (blocks0 n (ndB J m))) seq k = false) (fun v _ => N - (intOf v).toNat)
          case atStart => exact ⟨0, rfl, Nat.zero_le _, Below.refl _ _, fun k hk => absurd hk (Nat.not_lt_zero _)⟩
          case round =>
            obtain ⟨i, rfl, hi, hBi, hfree⟩ := hrel
            have HF := Lib.hid hfree
            by_cases hil : i < N
            · have hil' : (i : Int) < (N : Int) := by omega
              have hi0 : (0 : Int) ≤ (i : Int) := by omega
              have HPi := Lib.hid (And.intro (HP.out.below hBi) hBi)
              clear hfree hBi
              obtain ⟨wi, rfl⟩ : ∃ x, x = wr := ⟨_, rfl⟩
              obtain ⟨hpc, hpf⟩ := HPi.out.1.cell hil
              rw [rd_place hil] at hpc
              obtain ⟨hx1, hx2, hx3⟩ := HW.out _ HPi.out.1.fr
              obtain ⟨b, cb', hb1, hb2, hb3, hb4, hb5⟩ := hx3 i hil
              have HB5 := Lib.hid (And.intro hb5 hb3)
              clear hx3 hb5 hb3
              by_cases hneg : posL seq i < 0
              · have hwait : ∀ x, waitQ J m of ((blocks0 n (ndB J m)).getD i []) n i x ↔ ∃ j : Nat, x = j ∧ j < N ∧ waitB (ndB J m) (blocks0 n (ndB J m)) i j = true := fun x => by
                  have h := wait_same (x := x) Blt.blocks0_spec (by rw [HI.out.hN]; exact hil) HI.out.hofs
                  rw [HI.out.hN] at h
                  exact h
                have hl := c_left (cp := cp) (Ap := some ⟨pb, 0, none⟩) (P := placeL N seq) HB5.out.1 (fun x hx => by
                  obtain ⟨j, rfl, hj, _⟩ := (hwait x).1 hx
                  rw [Blt.placeL_len]; omega) (by rw [Blt.placeL_len]; exact HPi.out.1.reads)
                rw [Blt.placeL_len] at hl
                have HWT := Lib.hid hwait
                have HLF := Lib.hid hl
                clear hwait hl
                go_wp2_with fail
                refine HLF.out.mono ?_
                rintro ex w4 ⟨r, rfl, hr, hb4⟩
                cases r
                · have hfr : Blt.freeB N (waitB (ndB J m) (blocks0 n (ndB J m))) seq i = true := Blt.freeB_iff.2 ⟨(Blt.posL_neg HS.out.2.1.nodup).1 hneg, fun j hj hw => by
                    apply Classical.byContradiction
                    intro hns
                    have := hr.2 ⟨(j : Int), (HWT.out _).2 ⟨j, rfl, hj, hw⟩, by rw [rd_place hj]; exact (Blt.posL_neg HS.out.2.1.nodup).2 hns⟩
                    cases this⟩
                  have hpick := Lib.hid (Blt.pick_of hil hfr HF.out)
                  have hP4 := HPi.out.1.below hb4
                  obtain ⟨hpc4, hpf4⟩ := hP4.cell hil
                  have HP4 := Lib.hid (And.intro hP4 (HPi.out.2.trans (hb4.mono HPi.out.2.size)))
                  have HFR := Lib.hid (Blt.freeB_iff.1 hfr)
                  clear hr hb4 hfr hP4
                  go_wp2_with fail
                  have hP5 := HP4.out.1.put i (c : Int)
                  rw [show (placeL N seq).set i (c : Int) = placeL N (seq ++ [i]) by rw [← HS.out.1]; exact Blt.placeL_snoc HS.out.2.1.nodup HFR.out.1 hil] at hP5
                  obtain ⟨ad, hA, hcb, hlb1, hlb2, hCb⟩ := HV.out i hil
                  subst hA
                  have hadb : ad.block ≠ sb := (HI.out.rb.1 ad.block rfl).1
                  have k1 := Lib.hid (HW.out _ hP5.fr).1
                  have k2 := Lib.hid hP5.c4
                  have k3 := Lib.hid (cell_grown (pw_cell_below HM.out.2.1 hcb) hP5.fr (by rw [add_blk]; exact hadb))
                  have HP5 := Lib.hid hP5
                  obtain ⟨w5, hw5⟩ : ∃ w5, w5 = w4.setCell ⟨pb, i, none⟩ (.int .i64 (c : Int)) := ⟨_, rfl⟩
                  rw [← hw5]
                  rw [← hw5] at k1 k2 k3 HP5
                  have HB2 := Lib.hid (And.intro hlb1 (And.intro hlb2 (And.intro hCb hcb)))
                  have hl2 : sb < w5.heap.size := HP5.out.sbl
                  have hl1 : w.heap.size < w5.heap.size := World.block_lt_of_cell? _ _ k1.out
                  have hl3 : ad.block < w5.heap.size := by have := World.block_lt_of_cell? _ _ k3.out; rw [add_blk] at this; exact this
                  clear hP5 hcb hCb hlb1 hlb2 hw5 HPi hx1 hx2 hb4 hpc hpf hpc4 hpf4
                  refine OrdL.begin_ (S := fun W => W.cell? ⟨w.heap.size, 0, none⟩ = some (.pointer (some ⟨sb, 0, none⟩)) ∧ W.cell? ⟨sb, 4, none⟩ = some v4 ∧ W.cell? (ad.add i) = some (.slice (bv i).1 (bv i).2.1 (bv i).2.2)) [] [11, 12, 13] (by kernel_rfl) ?_ (fun hHeld => ?_)
                  focus ((try dsimp only); exact ⟨k1.out, k2.out, k3.out⟩)
                  refine OrdL.take (i := 0) (d := (some 74)) (v := ?_) rfl rfl (by kernel_rfl) (by kernel_rfl) (by kernel_rfl) (by kernel_rfl) (fun _ _ _ h => h) (by assumption) ⟨by rfl, ?_⟩ ?_
                  rotate_left
                  focus (intro w hSw; (try dsimp only at hSw); go_simp; try with_reducible rfl)
                  (try simp only [Act.put, List.getElem_toArray, List.getElem_cons_zero, List.getElem_cons_succ, List.setIfInBounds_toArray, List.set_cons_zero, List.set_cons_succ])
                  refine OrdL.take (i := 1) (d := (some 75)) (v := ?_) rfl rfl (by kernel_rfl) (by kernel_rfl) (by kernel_rfl) (by kernel_rfl) (fun _ _ _ h => h) (by assumption) ⟨by rfl, ?_⟩ ?_
                  rotate_left
                  focus (intro w hSw; (try dsimp only at hSw); go_simp; try with_reducible rfl)
                  (try simp only [Act.put, List.getElem_toArray, List.getElem_cons_zero, List.getElem_cons_succ, List.setIfInBounds_toArray, List.set_cons_zero, List.set_cons_succ])
                  refine OrdL.take (i := 2) (d := (some 76)) (v := ?_) rfl rfl (by kernel_rfl) (by kernel_rfl) (by kernel_rfl) (by kernel_rfl) (fun _ _ _ h => h) (by assumption) ⟨by rfl, ?_⟩ ?_
                  rotate_left
                  focus (intro w hSw; (try dsimp only at hSw); go_simp; try with_reducible rfl)
                  (try simp only [Act.put, List.getElem_toArray, List.getElem_cons_zero, List.getElem_cons_succ, List.setIfInBounds_toArray, List.set_cons_zero, List.set_cons_succ])
                  refine OrdL.take (i := 3) (d := (some 77)) (v := ?_) rfl rfl (by kernel_rfl) (by kernel_rfl) (by kernel_rfl) (by kernel_rfl) (fun _ _ _ h => h) (by assumption) ⟨by rfl, ?_⟩ ?_
                  rotate_left
                  focus (intro w hSw; (try dsimp only at hSw); go_simp; try with_reducible rfl)
                  (try simp only [Act.put, List.getElem_toArray, List.getElem_cons_zero, List.getElem_cons_succ, List.setIfInBounds_toArray, List.set_cons_zero, List.set_cons_succ])
                  refine OrdL.take (i := 4) (d := (some 78)) (v := ?_) rfl rfl (by kernel_rfl) (by kernel_rfl) (by kernel_rfl) (by kernel_rfl) (fun _ _ _ h => h) (by assumption) ⟨by rfl, ?_⟩ ?_
                  rotate_left
                  focus (intro w hSw; (try dsimp only at hSw); go_simp; try with_reducible rfl)
                  (try simp only [Act.put, List.getElem_toArray, List.getElem_cons_zero, List.getElem_cons_succ, List.setIfInBounds_toArray, List.set_cons_zero, List.set_cons_succ])
                  refine OrdL.take (i := 5) (d := (some 79)) (v := ?_) rfl rfl (by kernel_rfl) (by kernel_rfl) (by kernel_rfl) (by kernel_rfl) (fun _ _ _ h => h) (by assumption) ⟨by rfl, ?_⟩ ?_
                  rotate_left
                  focus (intro w hSw; (try dsimp only at hSw); go_simp; try with_reducible rfl)
                  (try simp only [Act.put, List.getElem_toArray, List.getElem_cons_zero, List.getElem_cons_succ, List.setIfInBounds_toArray, List.set_cons_zero, List.set_cons_succ])
                  refine OrdL.take (i := 6) (d := (some 80)) (v := ?_) rfl rfl (by kernel_rfl) (by kernel_rfl) (by kernel_rfl) (by kernel_rfl) (fun _ _ _ h => h) (by assumption) ⟨by rfl, ?_⟩ ?_
                  rotate_left
                  focus (intro w hSw; (try dsimp only at hSw); go_simp; try with_reducible rfl)
                  (try simp only [Act.put, List.getElem_toArray, List.getElem_cons_zero, List.getElem_cons_succ, List.setIfInBounds_toArray, List.set_cons_zero, List.set_cons_succ])
                  refine OrdL.take (i := 7) (d := (some 81)) (v := ?_) rfl rfl (by kernel_rfl) (by kernel_rfl) (by kernel_rfl) (by kernel_rfl) (fun _ _ _ h => h) (by assumption) ⟨by rfl, ?_⟩ ?_
                  rotate_left
                  focus (intro w hSw; (try dsimp only at hSw); go_simp; try with_reducible rfl)
                  (try simp only [Act.put, List.getElem_toArray, List.getElem_cons_zero, List.getElem_cons_succ, List.setIfInBounds_toArray, List.set_cons_zero, List.set_cons_succ])
                  refine OrdL.take (i := 8) (d := (some 82)) (v := ?_) rfl rfl (by kernel_rfl) (by kernel_rfl) (by kernel_rfl) (by kernel_rfl) (fun _ _ _ h => h) (by assumption) ⟨by rfl, ?_⟩ ?_
                  rotate_left
                  focus (intro w hSw; (try dsimp only at hSw); go_simp; try with_reducible rfl)
                  (try simp only [Act.put, List.getElem_toArray, List.getElem_cons_zero, List.getElem_cons_succ, List.setIfInBounds_toArray, List.set_cons_zero, List.set_cons_succ])
                  refine OrdL.step (i := 9) rfl (by decide) (by kernel_rfl) (fun Kc hKc => ?_)
                  simp only [List.getElem_toArray, List.getElem_cons_zero, List.getElem_cons_succ]
                  go_simp
                  go_wp2_with fail
                  refine hKc.out _ _ ?_ (fun hHeld => ?_)
                  focus ((try dsimp only); exact ⟨(World.cell?_alloc_lt _ _ _ (by exact hl1)).trans k1.out, (World.cell?_alloc_lt _ _ _ (by exact hl2)).trans k2.out, (World.cell?_alloc_lt _ _ _ (by rw [add_blk]; exact hl3)).trans k3.out⟩)
                  clear hKc Kc
                  (try simp only [Act.put, List.getElem_toArray, List.getElem_cons_zero, List.getElem_cons_succ, List.setIfInBounds_toArray, List.set_cons_zero, List.set_cons_succ])
                  refine OrdL.step (i := 10) rfl (by decide) (by kernel_rfl) (fun Kc hKc => ?_)
                  simp only [List.getElem_toArray, List.getElem_cons_zero, List.getElem_cons_succ]
                  rw [show (w5.alloc (Obj.cells #[.slice (bv i).1 (bv i).2.1 (bv i).2.2] 31)).drew = w5.drew.alloc (Obj.cells [Value.slice (bv i).1 (bv i).2.1 (bv i).2.2].toArray 31) from rfl]
                  refine (if_pos (show Region.wanted _ _ = true from rfl)).mpr ?_
                  refine R_append_wp rawS (w0 := w5.drew) (W := w5.drew) wo.heap.size ?c1 (.tmp 78) (.tmp 83) 24 31 (.slice none 0 0) 24 ?c2 Try.underlying24 info31 rfl (by decide) (by decide) v4 (seq.map bv) (bv i) [.slice (bv i).1 (bv i).2.1 (bv i).2.2] (fun k => k ≠ pb) (fun _ => False) ?c3 ?c4 rfl (fun _ hk => hk.elim) (fun k hk => by have := HP5.out.pb2; have h : w5.heap.size ≤ k := hk; omega) (Kd.R_drew HP5.out.h4) (Below.refl _ _) HP5.out.fr.size (by rw [List.length_map, HS.out.1]; omega) ?_
                  case c1 => rfl
                  case c2 => rfl
                  case c3 => rfl
                  case c4 => rfl
                  intro v5 w6 hr6 hB6 hg6 hat6
                  obtain ⟨A5, c5, rfl⟩ := Kd.R_slice hr6
                  rw [show (seq.map bv ++ [bv i]).length = c + 1 by rw [List.length_append, List.length_map, HS.out.1]; rfl] at hr6 hat6 ⊢
                  have hb4 : ∀ k, v4.ownBlock = some k → wo.heap.size ≤ k := Kd.R_base HP5.out.h4
                  have hwo1 : w.heap.size < wo.heap.size := by omega
                  have hadw : ad.block < wo.heap.size := by have := World.block_lt_of_cell? _ _ (pw_cell_below HM.out.2.1 HB2.out.2.2.2); rw [add_blk] at this; exact this
                  have k1' := (cell_grown' (a := ⟨w.heap.size, 0, none⟩) (by exact hl1) hg6 (fun e => by have := hb4 _ e.symm; simp at this; omega)).trans k1.out
                  have k2' := (cell_grown' (a := ⟨sb, 4, none⟩) (by exact hl2) hg6 (fun e => by have := hb4 _ e.symm; have := HP5.out.sb1; simp at *; omega)).trans k2.out
                  have k3' := (cell_grown' (a := ad.add i) (by rw [add_blk]; exact hl3) hg6 (fun e => by have := hb4 _ e.symm; rw [add_blk] at this; omega)).trans k3.out
                  have HP7 := Lib.hid ((HP5.out.below (below_drew (Below.refl _ _))).app4 hr6 hg6 hat6)
                  have hf4 := (frozen_grown (a := ⟨sb, 4, none⟩) (by exact hl2) hg6 (fun e => by have := hb4 _ e.symm; have := HP5.out.sb1; simp at *; omega)).trans (show w5.drew.frozen? ⟨sb, 4, none⟩ = false from HP5.out.f4)
                  have hsz6 : w5.heap.size ≤ w6.heap.size := hg6.size
                  clear hr6 hB6 hg6 hat6
                  refine hKc.out _ _ ?_ (fun hHeld => ?_)
                  focus exact ⟨k1', k2', k3'⟩
                  clear hKc Kc
                  (try simp only [Act.put, List.getElem_toArray, List.getElem_cons_zero, List.getElem_cons_succ, List.setIfInBounds_toArray, List.set_cons_zero, List.set_cons_succ])
                  refine OrdL.last (i := 11) rfl (by decide) (by decide) (by kernel_rfl) (fun Kc hKc => ?_)
                  simp only [List.getElem_toArray, List.getElem_cons_zero, List.getElem_cons_succ]
                  go_simp
                  refine hKc.out _ _ ?_
                  clear hKc Kc
                  (try simp only [Act.put, List.getElem_toArray, List.getElem_cons_zero, List.getElem_cons_succ, List.setIfInBounds_toArray, List.set_cons_zero, List.set_cons_succ])
                  refine OrdL.last (i := 12) rfl (by decide) (by decide) (by kernel_rfl) (fun Kc hKc => ?_)
                  simp only [List.getElem_toArray, List.getElem_cons_zero, List.getElem_cons_succ]
                  go_simp
                  refine hKc.out _ _ ?_
                  clear hKc Kc
                  (try simp only [Act.put, List.getElem_toArray, List.getElem_cons_zero, List.getElem_cons_succ, List.setIfInBounds_toArray, List.set_cons_zero, List.set_cons_succ])
                  refine OrdL.last (i := 13) rfl (by decide) (by decide) (by kernel_rfl) (fun Kc hKc => ?_)
                  simp only [List.getElem_toArray, List.getElem_cons_zero, List.getElem_cons_succ]
                  go_simp
                  go_wp2_with fail
                  refine hKc.out _ _ ?_
                  clear hKc Kc
                  (try simp only [Act.put, List.getElem_toArray, List.getElem_cons_zero, List.getElem_cons_succ, List.setIfInBounds_toArray, List.set_cons_zero, List.set_cons_succ])
                  refine OrdL.done (by kernel_rfl) ?_ _
                  obtain ⟨w7, hw7⟩ : ∃ w7, w7 = w6.setCell ⟨sb, 4, none⟩ (.slice A5 (c + 1) c5) := ⟨_, rfl⟩
                  rw [← hw7]
                  rw [← hw7] at HP7
                  obtain ⟨hx1, hx2, hx3⟩ := HW.out _ HP7.out.fr
                  obtain ⟨bm, cm', hm1, hm2, hm3, hm4, hm5⟩ := hx3 i hil
                  have HM5 := Lib.hid hm5
                  have HB7 := Lib.hid (HP4.out.2 : Below wc.heap.size wc w4)
                  clear hw7 hx3 hm5 k1 k2 k3 k1' k2' k3' hf4 HP4 HP5 HB5 hb1 hb2 hb4 HLF
                  go_wp2_with (first | (at_range; refine wp_rangeI rfl _ rfl rfl HM5.out ?_; intro w8 cnt8 hrg8 hg8 hs8) | go_in)
                  go_frame
                  have HR8 := Lib.hid (And.intro hrg8 (And.intro hg8 hs8))
                  clear hrg8 hg8 hs8
                  go_loopw [12] (fun v W => ∃ done cnt xs, RngI W bm w7.heap.size cm' (waitQ J m of ((blocks0 n (ndB J m)).getD i []) n i) done cnt ∧ Below w7.heap.size w7 W ∧ Kd.R (Kd.int .i64) 3 W (w7.heap.size + 1) (fun k => w7.heap.size < k) v xs ∧ xs.Nodup ∧ ∀ y, y ∈ xs ↔ ∃ j : Nat, done (j : Int) ∧ j < N ∧ waitB (ndB J m) (blocks0 n (ndB J m)) i j = true ∧ y = posL seq j) (fun _ W => W.rangeLeft bm w7.heap.size)
                  case atStart =>
                    refine ⟨_, cnt8, [], HR8.out.1, (Below.refl _ _).grown HR8.out.2.1 (Nat.le_refl _) (fun k hk => by cases hk), Kd.R_nil _ _ _ _ _, List.nodup_nil, fun y => ⟨(fun h => by cases h), fun ⟨j, h, _⟩ => h.elim⟩⟩
                  case round =>
                    obtain ⟨done, cnt1, xs, hrg, hBr, hRx, hnd, hxs⟩ := hrel
                    obtain ⟨w9, rfl⟩ : ∃ x, x = wr := ⟨_, rfl⟩
                    obtain ⟨Al, cl, rfl⟩ := Kd.R_slice hRx
                    have hxl : xs.length ≤ N := xs_len hnd (fun y hy => by
                      obtain ⟨j, _, h2, h3, rfl⟩ := (hxs y).1 hy
                      obtain ⟨k, h4, h5⟩ := Blt.posL_mem HS.out.2.1.nodup (HFR.out.2 j h2 h3)
                      have := (List.getElem?_eq_some_iff.1 h4).1
                      have := HS.out.1
                      omega)
                    have HXS := Lib.hid (And.intro hBr (And.intro hRx (And.intro hnd hxs)))
                    clear hBr hRx hnd hxs
                    go_wp2_with (first | (at_next; refine wp_nextI rfl _ rfl rfl hrg ?_ ?_) | go_in)
                    · intro _ hall
                      have HA := Lib.hid (And.intro hall hrg)
                      clear hall hrg
                      go_wp2_with fail
                      refine (c_Sort HXS.out.2.1 (by omega)).mono ?_
                      rintro ex w11 ⟨rfl, hRs, hgs⟩
                      have hB11 : Below w7.heap.size w7 w11 := HXS.out.1.grown hgs HXS.out.1.size (fun k hk => by have := Kd.R_base HXS.out.2.1 k hk; omega)
                      have hP11 := HP7.out.below hB11
                      have HQ := Lib.hid (And.intro hRs (And.intro hB11 hP11))
                      have hb6 : ∀ k, v6.ownBlock = some k → wo.heap.size ≤ k := Kd.R_base hP11.h6
                      have k1 := Lib.hid (HW.out _ hP11.fr).1
                      have k2 := Lib.hid hP11.c6
                      have hl2 : sb < w11.heap.size := hP11.sbl
                      have hl1 : w.heap.size < w11.heap.size := World.block_lt_of_cell? _ _ k1.out
                      clear hRs hgs hB11 hP11
                      go_wp2_with fail
                      refine OrdL.begin_ (S := fun W => W.cell? ⟨w.heap.size, 0, none⟩ = some (.pointer (some ⟨sb, 0, none⟩)) ∧ W.cell? ⟨sb, 6, none⟩ = some v6) [] [8, 9, 10] (by kernel_rfl) ?_ (fun hHeld => ?_)
                      focus ((try dsimp only); exact ⟨k1.out, k2.out⟩)
                      refine OrdL.take (i := 0) (d := (some 105)) (v := ?_) rfl rfl (by kernel_rfl) (by kernel_rfl) (by kernel_rfl) (by kernel_rfl) (fun _ _ _ h => h) (by assumption) ⟨by rfl, ?_⟩ ?_
                      rotate_left
                      focus (intro w hSw; (try dsimp only at hSw); go_simp; try with_reducible rfl)
                      (try simp only [Act.put, List.getElem_toArray, List.getElem_cons_zero, List.getElem_cons_succ, List.setIfInBounds_toArray, List.set_cons_zero, List.set_cons_succ])
                      refine OrdL.take (i := 1) (d := (some 106)) (v := ?_) rfl rfl (by kernel_rfl) (by kernel_rfl) (by kernel_rfl) (by kernel_rfl) (fun _ _ _ h => h) (by assumption) ⟨by rfl, ?_⟩ ?_
                      rotate_left
                      focus (intro w hSw; (try dsimp only at hSw); go_simp; try with_reducible rfl)
                      (try simp only [Act.put, List.getElem_toArray, List.getElem_cons_zero, List.getElem_cons_succ, List.setIfInBounds_toArray, List.set_cons_zero, List.set_cons_succ])
                      refine OrdL.take (i := 2) (d := (some 107)) (v := ?_) rfl rfl (by kernel_rfl) (by kernel_rfl) (by kernel_rfl) (by kernel_rfl) (fun _ _ _ h => h) (by assumption) ⟨by rfl, ?_⟩ ?_
                      rotate_left
                      focus (intro w hSw; (try dsimp only at hSw); go_simp; try with_reducible rfl)
                      (try simp only [Act.put, List.getElem_toArray, List.getElem_cons_zero, List.getElem_cons_succ, List.setIfInBounds_toArray, List.set_cons_zero, List.set_cons_succ])
                      refine OrdL.take (i := 3) (d := (some 108)) (v := ?_) rfl rfl (by kernel_rfl) (by kernel_rfl) (by kernel_rfl) (by kernel_rfl) (fun _ _ _ h => h) (by assumption) ⟨by rfl, ?_⟩ ?_
                      rotate_left
                      focus (intro w hSw; (try dsimp only at hSw); go_simp; try with_reducible rfl)
                      (try simp only [Act.put, List.getElem_toArray, List.getElem_cons_zero, List.getElem_cons_succ, List.setIfInBounds_toArray, List.set_cons_zero, List.set_cons_succ])
                      refine OrdL.take (i := 4) (d := (some 109)) (v := ?_) rfl rfl (by kernel_rfl) (by kernel_rfl) (by kernel_rfl) (by kernel_rfl) (fun _ _ _ h => h) (by assumption) ⟨by rfl, ?_⟩ ?_
                      rotate_left
                      focus (intro w hSw; (try dsimp only at hSw); go_simp; try with_reducible rfl)
                      (try simp only [Act.put, List.getElem_toArray, List.getElem_cons_zero, List.getElem_cons_succ, List.setIfInBounds_toArray, List.set_cons_zero, List.set_cons_succ])
                      refine OrdL.take (i := 5) (d := (some 110)) (v := ?_) rfl rfl (by kernel_rfl) (by kernel_rfl) (by kernel_rfl) (by kernel_rfl) (fun _ _ _ h => h) (by assumption) ⟨by rfl, ?_⟩ ?_
                      rotate_left
                      focus (intro w hSw; (try dsimp only at hSw); go_simp; try with_reducible rfl)
                      (try simp only [Act.put, List.getElem_toArray, List.getElem_cons_zero, List.getElem_cons_succ, List.setIfInBounds_toArray, List.set_cons_zero, List.set_cons_succ])
                      refine OrdL.step (i := 6) rfl (by decide) (by kernel_rfl) (fun Kc hKc => ?_)
                      simp only [List.getElem_toArray, List.getElem_cons_zero, List.getElem_cons_succ]
                      go_simp
                      go_wp2_with fail
                      refine hKc.out _ _ ?_ (fun hHeld => ?_)
                      focus ((try dsimp only); exact ⟨(World.cell?_alloc_lt _ _ _ (by exact hl1)).trans k1.out, (World.cell?_alloc_lt _ _ _ (by exact hl2)).trans k2.out⟩)
                      clear hKc Kc
                      (try simp only [Act.put, List.getElem_toArray, List.getElem_cons_zero, List.getElem_cons_succ, List.setIfInBounds_toArray, List.set_cons_zero, List.set_cons_succ])
                      refine OrdL.step (i := 7) rfl (by decide) (by kernel_rfl) (fun Kc hKc => ?_)
                      simp only [List.getElem_toArray, List.getElem_cons_zero, List.getElem_cons_succ]
                      rw [show (w11.alloc (Obj.cells #[.slice Al xs.length cl] 31)).drew = w11.drew.alloc (Obj.cells [Value.slice Al xs.length cl].toArray 31) from rfl]
                      refine (if_pos (show Region.wanted _ _ = true from rfl)).mpr ?_
                      refine R_append_wp (Kd.slice 3 (Kd.int .i64)) (w0 := w11.drew) (W := w11.drew) wo.heap.size ?c1 (.tmp 109) (.tmp 111) 24 31 (.slice none 0 0) 24 ?c2 Try.underlying24 info31 rfl (by decide) (by decide) v6 (((needsB n (ndB J m)).take c).map ints) (xs.mergeSort leI) [.slice Al xs.length cl] (fun k => k ≠ pb ∧ some k ≠ (Value.slice A5 (c + 1) c5).ownBlock) (fun k => w7.heap.size < k) ?c3 ?c4 ?c5 ?c6 ?c7 (Kd.R_drew HQ.out.2.2.h6) (Below.refl _ _) HQ.out.2.2.fr.size ?c8 ?_
                      case c1 => rfl
                      case c2 => rfl
                      case c3 => rfl
                      case c4 => rfl
                      case c5 => exact ⟨_, rfl, Kd.R_drew (Kd.R_lower HQ.out.1 (Nat.le_succ_of_le HP7.out.fr.size))⟩
                      case c6 =>
                        intro k hk
                        have h7 := HP7.out.pb2
                        exact ⟨⟨by omega, fun e => by have := Kd.R_lt HP7.out.h4 k e.symm; omega⟩, fun e => by have := Kd.R_lt HP7.out.h6 k e.symm; omega⟩
                      case c7 =>
                        intro k hk
                        have h7 := HQ.out.2.2.pb2
                        have hk : w11.heap.size ≤ k := hk
                        exact ⟨by omega, fun e => by have := Kd.R_lt HQ.out.2.2.h4 k e.symm; omega⟩
                      case c8 => have := List.length_take_le c (needsB n (ndB J m)); rw [List.length_map]; omega
                      intro v12 w12 hr12 hB12 hg12 hat12
                      obtain ⟨A12, c12, rfl⟩ := Kd.R_slice hr12
                      obtain ⟨n12, hn12⟩ : ∃ n12, n12 = (((needsB n (ndB J m)).take c).map ints ++ [xs.mergeSort leI]).length := ⟨_, rfl⟩
                      rw [← hn12] at hr12 hat12 ⊢
                      have k1' := (cell_grown' (a := ⟨w.heap.size, 0, none⟩) (by exact hl1) hg12 (fun e => by have := hb6 _ e.symm; simp at this; omega)).trans k1.out
                      have k2' := (cell_grown' (a := ⟨sb, 6, none⟩) (by exact hl2) hg12 (fun e => by have := hb6 _ e.symm; have := HP7.out.sb1; simp at *; omega)).trans k2.out
                      have HP13 := Lib.hid ((HQ.out.2.2.below (below_drew (Below.refl _ _))).app6 hr12 hg12)
                      have hf6 := (frozen_grown (a := ⟨sb, 6, none⟩) (by exact hl2) hg12 (fun e => by have := hb6 _ e.symm; have := HP7.out.sb1; simp at *; omega)).trans (show w11.drew.frozen? ⟨sb, 6, none⟩ = false from HQ.out.2.2.f6)
                      have hsz12 : w11.heap.size ≤ w12.heap.size := hg12.size
                      clear hr12 hB12 hg12 hat12 hn12
                      refine hKc.out _ _ ?_ (fun hHeld => ?_)
                      focus exact ⟨k1', k2'⟩
                      clear hKc Kc
                      (try simp only [Act.put, List.getElem_toArray, List.getElem_cons_zero, List.getElem_cons_succ, List.setIfInBounds_toArray, List.set_cons_zero, List.set_cons_succ])
                      refine OrdL.last (i := 8) rfl (by decide) (by decide) (by kernel_rfl) (fun Kc hKc => ?_)
                      simp only [List.getElem_toArray, List.getElem_cons_zero, List.getElem_cons_succ]
                      go_simp
                      refine hKc.out _ _ ?_
                      clear hKc Kc
                      (try simp only [Act.put, List.getElem_toArray, List.getElem_cons_zero, List.getElem_cons_succ, List.setIfInBounds_toArray, List.set_cons_zero, List.set_cons_succ])
                      refine OrdL.last (i := 9) rfl (by decide) (by decide) (by kernel_rfl) (fun Kc hKc => ?_)
                      simp only [List.getElem_toArray, List.getElem_cons_zero, List.getElem_cons_succ]
                      go_simp
                      refine hKc.out _ _ ?_
                      clear hKc Kc
                      (try simp only [Act.put, List.getElem_toArray, List.getElem_cons_zero, List.getElem_cons_succ, List.setIfInBounds_toArray, List.set_cons_zero, List.set_cons_succ])
                      refine OrdL.last (i := 10) rfl (by decide) (by decide) (by kernel_rfl) (fun Kc hKc => ?_)
                      simp only [List.getElem_toArray, List.getElem_cons_zero, List.getElem_cons_succ]
                      go_simp
                      go_wp2_with fail
                      refine hKc.out _ _ ?_
                      clear hKc Kc
                      (try simp only [Act.put, List.getElem_toArray, List.getElem_cons_zero, List.getElem_cons_succ, List.setIfInBounds_toArray, List.set_cons_zero, List.set_cons_succ])
                      refine OrdL.done (by kernel_rfl) ?_ _
                      obtain ⟨w13, hw13⟩ : ∃ w13, w13 = w12.setCell ⟨sb, 6, none⟩ (.slice A12 n12 c12) := ⟨_, rfl⟩
                      rw [← hw13]
                      rw [← hw13] at HP13
                      clear hw13 k1 k2 k1' k2' hf6
                      go_wp2_with fail
                      have hO2 := Blt.ordered_snoc HS.out.2.1 hpick.out
                      have hst : Blt.orderB N (waitB (ndB J m) (blocks0 n (ndB J m))) (N - (c + 1)) (seq ++ [i]) = seqB n (ndB J m) := by
                        rw [← HS.out.2.2, show N - c = N - (c + 1) + 1 by omega]
                        exact (Blt.orderB_step hpick.out).symm
                      obtain ⟨t, ht⟩ := Blt.orderB_prefix (N := N) (w := waitB (ndB J m) (blocks0 n (ndB J m))) (N - (c + 1)) (seq ++ [i])
                      rw [hst, List.append_assoc] at ht
                      have hat : (seqB n (ndB J m))[c]? = some i := by
                        rw [ht, List.getElem?_append_right (by rw [HS.out.1]; exact Nat.le_refl _), HS.out.1, Nat.sub_self]; rfl
                      obtain ⟨hn1, hn2⟩ := Blt.needs_one ht HS.out.1 hat HXS.out.2.2.1 (fun y => by
                        rw [HXS.out.2.2.2, HI.out.hN]
                        constructor
                        · rintro ⟨j, _, h2, h3, h4⟩
                          exact ⟨j, h2, h3, h4⟩
                        · rintro ⟨j, h2, h3, h4⟩
                          exact ⟨j, HA.out.1 _ ((HWT.out _).2 ⟨j, rfl, h2, h3⟩), h2, h3, h4⟩)
                      refine ⟨⟨c + 1, by rw [Int.natCast_add]; rfl, by omega, seq ++ [i], .slice A5 (c + 1) c5, .slice A12 n12 c12, by rw [List.length_append, HS.out.1]; rfl, hO2, hst, ?_⟩, by simp [intOf]; omega⟩
                      have h := HP13.out
                      rw [show xs.mergeSort leI = xs.mergeSort Blt.leZ from rfl, hn2] at h
                      rw [List.map_append, List.take_add_one, hn1, List.map_append]
                      exact h
                    · intro x vv w10 cnt2 hqx hnd hrg1 hlt1 hg1 hs1 hen
                      obtain ⟨jx, rfl, hjN, hjw⟩ := (HWT.out x).1 hqx
                      have hBx : Below w7.heap.size w7 w10 := HXS.out.1.grown hg1 HXS.out.1.size (fun k hk => by cases hk; exact Nat.le_refl _)
                      have hRx : Kd.R (Kd.int .i64) 3 w10 (w7.heap.size + 1) (fun k => w7.heap.size < k) (.slice Al xs.length cl) xs := Kd.R_grown HXS.out.2.1 hg1 (fun k hk => by simp; omega)
                      obtain ⟨hpx, _⟩ := (HP7.out.below hBx).cell hjN
                      rw [rd_place hjN, posL_app HS.out.2.1.nodup HFR.out.1 (HFR.out.2 jx hjN hjw)] at hpx
                      have hrlt := hrg1.lt
                      have hj0 : (0 : Int) ≤ (jx : Int) := by omega
                      have hj1 : (jx : Int) < (N : Int) := by omega
                      have HZ := Lib.hid (And.intro hrg1 (And.intro hrg (And.intro hBx (And.intro hRx (And.intro hnd hjw)))))
                      clear hrg1 hrg hBx hRx hnd hjw hg1 hs1
                      go_wp2_with (at_builtin; go_must (refine Kd.R_append (Kd.int .i64) (w0 := w10) (w7.heap.size + 1) rfl (.tmp 96) (.tmp 101) 31 3 (.int .i64 0) 8 rfl Try.underlying31 info3 rfl (by decide) (by decide) (.slice Al xs.length cl) xs (posL seq jx) [.int .i64 (posL seq jx)] (fun k => w7.heap.size < k) (fun _ => False) rfl rfl rfl (fun _ hk => hk.elim) (fun k hk => by omega) HZ.out.2.2.2.1 (Below.refl _ _) (by omega) (by omega) ?_); intro v11 w11 hr11 hb11 hg11 hat11; have HY := Lib.hid (And.intro hr11 (And.intro hb11 hg11)); clear hr11 hb11 hg11 hat11)
                      have hbs := Kd.R_base HZ.out.2.2.2.1
                      have hkept := HZ.out.1.kept HY.out.2.2 (fun e => by have := hbs bm e.symm; have := HP7.out.fr.size; omega) (fun e => by have := hbs _ e.symm; omega)
                      refine ⟨⟨_, cnt2, xs ++ [posL seq jx], hkept, HZ.out.2.2.1.trans (HY.out.2.1.mono (Nat.le_succ _)), HY.out.1, ?_, fun y => ?_⟩, ?_⟩
                      · rw [List.nodup_append]
                        refine ⟨HXS.out.2.2.1, by simp, fun a ha b hb e => ?_⟩
                        simp at hb; subst hb; subst e
                        obtain ⟨j, h2, h3, h4, h5⟩ := (HXS.out.2.2.2 _).1 ha
                        have := posL_inj HS.out.2.1.nodup (HFR.out.2 jx hjN HZ.out.2.2.2.2.2) (HFR.out.2 j h3 h4) h5
                        subst this
                        exact HZ.out.2.2.2.2.1 h2
                      · rw [List.mem_append, HXS.out.2.2.2, List.mem_singleton]
                        constructor
                        · rintro (⟨j, h2, h3, h4, h5⟩ | rfl)
                          · exact ⟨j, .inl h2, h3, h4, h5⟩
                          · exact ⟨jx, .inr rfl, hjN, HZ.out.2.2.2.2.2, rfl⟩
                        · rintro ⟨j, h2 | h2, h3, h4, h5⟩
                          · exact .inl ⟨j, h2, h3, h4, h5⟩
                          · right; rw [h5]; congr 1; omega
                      · rw [hkept.left_eq, HZ.out.2.1.left_eq]; exact hlt1
                · obtain ⟨x, hx1', hx2'⟩ := hr.1 rfl
                  have HX := Lib.hid (And.intro hx1' (And.intro hx2' hb4))
                  clear hr hx1' hx2' hb4
                  go_wp2_with fail
                  refine ⟨⟨i + 1, by rw [Int.natCast_add]; rfl, by omega, HPi.out.2.trans (HX.out.2.2.mono HPi.out.2.size), fun k hk => ?_⟩, by simp [intOf]; omega⟩
                  by_cases h : k < i
                  · exact HF.out k h
                  · obtain rfl : k = i := by omega
                    cases hfb : Blt.freeB N (waitB (ndB J m) (blocks0 n (ndB J m))) seq k
                    · rfl
                    · obtain ⟨j, rfl, hj, hw⟩ := (HWT.out x).1 HX.out.1
                      have h3 := HX.out.2.1
                      rw [rd_place hj] at h3
                      exact absurd ((Blt.freeB_iff.1 hfb).2 j hj hw) ((Blt.posL_neg HS.out.2.1.nodup).1 h3)
              · go_wp2_with fail
                refine ⟨⟨i + 1, by rw [Int.natCast_add]; rfl, by omega, HPi.out.2, fun k hk => ?_⟩, by simp [intOf]; omega⟩
                by_cases h : k < i
                · exact HF.out k h
                · obtain rfl : k = i := by omega
                  cases hfb : Blt.freeB N (waitB (ndB J m) (blocks0 n (ndB J m))) seq k
                  · rfl
                  · exact absurd ((Blt.posL_neg HS.out.2.1.nodup).2 (Blt.freeB_iff.1 hfb).1) hneg
            · have hil' : ¬ (i : Int) < (N : Int) := by omega
              go_wp2_with fail
              exfalso
              obtain ⟨k, hk⟩ := Blt.pick_there Blt.blocks0_spec (seq := seq) (by rw [HI.out.hN]; exact HS.out.2.1) (by rw [HI.out.hN, HS.out.1]; exact hcl)
              rw [HI.out.hN, Blt.pick_all (fun j hj => HF.out j (by omega))] at hk
              cases hk
        · have hcl' : ¬ (c : Int) < (N : Int) := by omega
          obtain rfl : N = c := by omega
          obtain ⟨hlen, hO, hT⟩ := HS.out
          rw [Nat.sub_self] at hT
          obtain rfl : seq = seqB n (ndB J m) := hT
          have hg0 := HP.out.fr
          have k1 := cell_grown HM.out.2.2.1 hg0 (by simp; omega)
          have k5 := (HP.out.oth 5 (by decide) (by decide)).trans (pw_cell_below HM.out.2.1 HI.out.c5)
          have hreads := Lib.hid HP.out.reads
          clear hlen hO hg0 HR
          have hfb := HI.out.hfl
          have hfo : fb < wo.heap.size := Nat.lt_of_lt_of_le hfb HM.out.2.1.size
          have hro : Kd.R (Kd.int .i64) 3 wc B0 (fun k => k = fb) (.slice Ao n co) of := by
            have h := Kd.R_below HI.out.ro HM.out.2.1
            exact Kd.R_grown h HP.out.fr (fun k hk => by rw [hk]; have := HI.out.hsf; simp; exact fun e => this e.symm)
          have HRO := Lib.hid (And.intro hro hfb)
          clear hro
          have hn := HI.out.hn
          go_wp2_with fail
          go_loopw [122] (fun v W => ∃ k : Nat, v = .int .i64 k ∧ k ≤ n ∧ wc.grownBy W (some fb) ∧ Kd.R (Kd.int .i64) 3 W B0 (fun k => k = fb) (.slice Ao n co) (ofL n (seqB n (ndB J m)) of k)) (fun v _ => n - (intOf v).toNat)
          case atStart => exact ⟨0, rfl, Nat.zero_le _, grown_of_below (Below.refl _ _) _, by rw [ofL_zero HI.out.hof]; exact HRO.out.1⟩
          case round =>
            obtain ⟨k, rfl, hk, hg, hr⟩ := hrel
            by_cases hkn : k < n
            · have hkn' : (k : Int) < (n : Int) := by omega
              have hk0 : (0 : Int) ≤ (k : Int) := by omega
              obtain ⟨j, hj1, b, hj2, hj3⟩ := HI.out.hofs k hkn
              have hjN : j < N := by have := (List.getElem?_eq_some_iff.1 hj2).1; rw [HI.out.hN] at this; exact this
              have hj0 : (0 : Int) ≤ (j : Int) := by omega
              have hjN' : (j : Int) < (N : Int) := by omega
              obtain rfl := HP.out.form (by omega)
              obtain ⟨g, cap, hA, _⟩ := Kd.R_form hr (by rw [ofL_len]; omega)
              have hgf := hr.1 g (by rw [hA]; rfl)
              subst hgf
              rw [ofL_len] at hA
              injection hA with hA _ hcap
              subst hA
              subst hcap
              have hr' : Kd.R (Kd.int .i64) 3 wr B0 (fun k => k = g) (.slice (some ⟨g, 0, none⟩) (ofL n (seqB n (ndB J m)) of k).length co) (ofL n (seqB n (ndB J m)) of k) := by rw [ofL_len]; exact hr
              have hc := Kd.R_cell (enc := Value.int .i64) (h1 := fun _ => rfl) 0 hr' (k : Int) hk0 (by rw [ofL_len]; exact hkn')
              rw [Int.toNat_natCast, show rdOf 0 (ofL n (seqB n (ndB J m)) of k) (k : Int) = (j : Int) by show rd (ofL n (seqB n (ndB J m)) of k) k = _; rw [ofL_rd hkn, if_neg (by omega), hj1]] at hc
              obtain ⟨hc1, hc2⟩ := hc
              have hp := Kd.R_put (enc := Value.int .i64) (h1 := fun _ => rfl) hr' (k : Int) (posL (seqB n (ndB J m)) j)
              rw [Int.toNat_natCast, ofL_len, show posL (seqB n (ndB J m)) j = posL (seqB n (ndB J m)) (rd of k).toNat by rw [hj1]; rfl, ofL_set hkn, ← show posL (seqB n (ndB J m)) j = posL (seqB n (ndB J m)) (rd of k).toNat by rw [hj1]; rfl] at hp
              have hpc := (HP.out.cell hjN).1
              rw [rd_place hjN] at hpc
              have k1' := cell_grown k1 hg (by simp; omega)
              have k5' := cell_grown k5 hg (by simp; exact HI.out.hsf)
              have kp' := cell_grown hpc hg (by have := HP.out.pb1; simp; omega)
              have HK := Lib.hid (And.intro hp hg)
              clear hp hg hr hr' hj1 hj2 hj3 hpc
              go_wp2_with fail
              go_region
              go_wp2_with fail
              refine ⟨⟨k + 1, ?ra, by omega, HK.out.2.trans (HK.out.1.2.trans (grown_of_below (below_drew (Below.refl _ _)) _)), Kd.R_drew HK.out.1.1⟩, ?rb⟩
              case ra => rw [Int.natCast_add]; rfl
              case rb => simp [intOf]; omega
            · have hkn' : ¬ (k : Int) < (n : Int) := by omega
              obtain rfl : n = k := by omega
              have hsf := HI.out.hsf
              have hF : Fr2 sb fb w wr := ⟨hg.os.trans (HP.out.fr.os.trans HM.out.2.1.os), hg.tape.trans (HP.out.fr.tape.trans HM.out.2.1.tape), hg.output.trans (HP.out.fr.output.trans HM.out.2.1.output), Nat.le_trans HM.out.2.1.size (Nat.le_trans HP.out.fr.size hg.size), fun q h3 h4 h5 => by
                have h6 : q < wo.heap.size := Nat.lt_of_lt_of_le h3 HM.out.2.1.size
                exact (hg.block q (Nat.lt_of_lt_of_le h6 HP.out.fr.size) (by simpa using h5)).trans ((HP.out.fr.block q h6 (by simpa using h4)).trans (HM.out.2.1.block q h3))⟩
              have hoth : ∀ o, wr.cell? ⟨sb, o, none⟩ = wc.cell? ⟨sb, o, none⟩ := fun o => cell_grown' HP.out.sbl hg (by simpa using hsf)
              have hrbW : (Kd.slice 3 (Kd.int .i64)).R 31 wr B0 (fun k => k ≠ sb ∧ k ≠ fb) (.slice Ab N cb) ((blocks0 n (ndB J m)).map ints) := Kd.R_step HI.out.rb (fun q h3 h4 => hF.block q h4 h3.1 h3.2)
              have hCb := (Kd.R_reads' hrbW).2.2
              rw [List.length_map, HI.out.hN] at hCb
              have hslen : (seqB n (ndB J m)).length = N := by rw [(Blt.seq_spec).2, HI.out.hN]
              have h4 := R_oldg HP.out.h4 hg hfo
              have h6 := R_oldg HP.out.h6 hg hfo
              obtain ⟨A4, c4, hv4⟩ := Kd.R_slice h4
              obtain ⟨A6, c6, hv6⟩ := Kd.R_slice h6
              have hl4 : ((seqB n (ndB J m)).map bv).length = N := by rw [List.length_map, hslen]
              have hnl : (needsB n (ndB J m)).length = N := by rw [(Blt.sorted_spec).len, Blt.blocksB_len, HI.out.hN]
              have htake : (needsB n (ndB J m)).take N = needsB n (ndB J m) := List.take_of_length_le (by omega)
              have hl6 : (((needsB n (ndB J m)).take N).map ints).length = N := by rw [htake, List.length_map, hnl]
              rw [hl4] at hv4
              rw [hl6] at hv6
              have r4 := Kd.R_reads' (hv4 ▸ h4)
              have r6 := Kd.R_reads' (hv6 ▸ h6)
              rw [hl4] at r4
              rw [hl6] at r6
              have hC4 : Kd.C (Kd.slice 3 (Kd.int .i64)) wr A4 N ((blocksB n (ndB J m)).map ints) := by
                refine C_of_raw r4.2.2 (by rw [List.length_map, Blt.blocksB_len, HI.out.hN]) (fun q x hx => ?_)
                rw [List.getElem?_map] at hx
                obtain ⟨i, hi, rfl⟩ := Option.map_eq_some_iff.1 hx
                have hiN : i < N := by have := (Blt.seq_spec (n := n) (nd := ndB J m)).1.lt i (List.mem_of_getElem? hi); rw [HI.out.hN] at this; exact this
                obtain ⟨ad, hA, hcv, hv1, hv2, hv3⟩ := HV.out i hiN
                obtain ⟨ad', A1, cc, hA', h7, h8, h9⟩ := at_L4 hCb (i : Int) (by omega) (by omega)
                rw [hA] at hA'
                obtain rfl := Option.some.inj hA'
                rw [Int.toNat_natCast, rd_ints] at h7
                rw [rd_ints] at h8 h9
                have hab := HI.out.rb.1 ad.block (by rw [hA]; rfl)
                have hcw : wr.cell? (ad.add i) = w.cell? (ad.add i) := World.cell?_of_block (by rw [add_blk]; exact hF.block _ (by have := World.block_lt_of_cell? _ _ hcv; rw [add_blk] at this; exact this) hab.1 hab.2)
                rw [hcw, hcv] at h7
                injection h7 with h7
                injection h7 with h71 h72 h73
                refine ⟨ints ((blocks0 n (ndB J m)).getD i []), ?_, h72, by rw [h72, h73]; exact h8, by rw [h71, h72]; exact h9⟩
                rw [List.getElem?_map, blocksB, List.getElem?_map, hi]; rfl
              have hC6 := r6.2.2
              rw [htake] at hC6
              have hcell4 := (hoth 4).trans HP.out.c4
              have hcell6 := (hoth 6).trans HP.out.c6
              rw [hv4] at hcell4
              rw [hv6] at hcell6
              have HE := Lib.hid (And.intro hF (And.intro hoth (And.intro hcell4 (And.intro hcell6 (And.intro hC4 (And.intro hC6 (And.intro r4.2.1 (And.intro r6.2.1 hr))))))))
              clear hF hoth hrbW hCb h4 h6 hv4 hv6 r4 r6 hC4 hC6 hcell4 hcell6 hr hg
              go_wp2_with fail
              go_end0
              obtain ⟨hF, hoth, hcell4, hcell6, hC4, hC6, hc4, hc6, hr⟩ := HE.out
              exact ⟨rfl, hF, fun o h1 h2 => (hoth o).trans ((HP.out.oth o h1 h2).trans (HM.out.2.1.cell (by exact hsb))), ⟨A4, c4, hcell4, hc4, hC4⟩, ⟨A6, c6, hcell6, hc6, hC6⟩, hr⟩
end
end Go.Proofs.Ytmfcefakpfbaoaa.PMatch
end
