/- Lemmas for RowBltAny. -/
import Derived.Test.YtmfcefakpfbaoaaZBmC
section
set_option linter.unusedVariables false
set_option linter.unusedSimpArgs false
namespace Go.Proofs.Ytmfcefakpfbaoaa.PMatch
open Go.RowKit Go.Proofs.YtmfcefakpfbaoaaW.PrintWords Go.Proofs.YtmfcefakpfbaoaaW.PrintLast Go.Proofs.YtmfcefakpfbaoaaW.PrintMore
open Blt (ints blocks0 Blocks seqB blocksB needsB)
def Has (E : List ByteArray) (U : List S47) (m : List Int) : Prop := E.length = U.length ∧ (-1 : Int) ∉ m
section
variable {E : List ByteArray} {U : List S47} {J : List (List Int)} {m : List Int} {A0 : Option Addr} {c0 : Nat} {A1 : Option Addr} {c1 : Nat} {A2 : Option Addr} {c2 : Nat} {w : World}
theorem c_sort_yes (hv : Valid E U J) (hm : Matched E U J m) (hh : Has E U m) (h0 : Kd.C Kd.string w A0 E.length E) (hc0 : E.length ≤ c0) (h1 : Kd.C k47 w A1 U.length U) (hc1 : U.length ≤ c1)
    (h2 : Kd.C (Kd.slice 3 (Kd.int .i64)) w A2 J.length J) (hc2 : J.length ≤ c2) {W : World} (hb : Below w.heap.size w W) :
    Calls Try.prog 32 #[.agg #[.slice A0 E.length c0, .slice A1 U.length c1, .slice A2 J.length c2]] W fun e w' => ∃ sb, e = .returned (.tuple #[.pointer (some ⟨sb, 0, none⟩), .int .i64 0]) ∧ Below W.heap.size W w' ∧ W.heap.size ≤ sb ∧ Srt E.length J m sb w' := by
  refine (c_sort hv hm (Kd.C_below h0 hb) hc0 (Kd.C_below h1 hb) hc1 (Kd.C_below h2 hb) hc2).mono ?_
  rintro e w' ⟨h3, h4⟩
  rw [if_pos (show E.length = U.length ∧ (-1 : Int) ∉ m from hh)] at h4
  obtain ⟨sb, h5, h6, h7⟩ := h4
  exact ⟨sb, h6, h3, h5, h7⟩
theorem c_sort_no (hv : Valid E U J) (hm : Matched E U J m) (hh : ¬ Has E U m) (h0 : Kd.C Kd.string w A0 E.length E) (hc0 : E.length ≤ c0) (h1 : Kd.C k47 w A1 U.length U) (hc1 : U.length ≤ c1)
    (h2 : Kd.C (Kd.slice 3 (Kd.int .i64)) w A2 J.length J) (hc2 : J.length ≤ c2) {W : World} (hb : Below w.heap.size w W) :
    Calls Try.prog 32 #[.agg #[.slice A0 E.length c0, .slice A1 U.length c1, .slice A2 J.length c2]] W fun e w' => e = .returned (.tuple #[.pointer none, .int .i64 13]) ∧ Below W.heap.size W w' := by
  refine (c_sort hv hm (Kd.C_below h0 hb) hc0 (Kd.C_below h1 hb) hc1 (Kd.C_below h2 hb) hc2).mono ?_
  rintro e w' ⟨h3, h4⟩
  rw [if_neg (show ¬ (E.length = U.length ∧ (-1 : Int) ∉ m) from hh)] at h4
  exact ⟨h4, h3⟩
set_option maxRecDepth 100000 in
set_option maxHeartbeats 4000000 in
theorem c_Needs (hv : Valid E U J) (hm : Matched E U J m) (hh : Has E U m) (h0 : Kd.C Kd.string w A0 E.length E) (hc0 : E.length ≤ c0) (h1 : Kd.C k47 w A1 U.length U) (hc1 : U.length ≤ c1)
    (h2 : Kd.C (Kd.slice 3 (Kd.int .i64)) w A2 J.length J) (hc2 : J.length ≤ c2) :
    Calls Try.prog 13 #[.agg #[.slice A0 E.length c0, .slice A1 U.length c1, .slice A2 J.length c2]] w fun e w' => ∃ A c, e = .returned (.tuple #[.slice A (blocksB E.length (ndB J m)).length c, .int .i64 0]) ∧ Below w.heap.size w w' ∧ (blocksB E.length (ndB J m)).length ≤ c ∧
      Kd.C (Kd.slice 3 (Kd.int .i64)) w' A (blocksB E.length (ndB J m)).length ((needsB E.length (ndB J m)).map ints) := by
  have hb1 : Below w.heap.size w (w.alloc (.cells #[.slice A0 E.length c0, .slice A1 U.length c1, .slice A2 J.length c2] 26)) := (Below.refl _ _).alloc (Nat.le_refl _) _
  have hs := c_sort_yes hv hm hh h0 hc0 h1 hc1 h2 hc2 hb1
  have HS := Lib.hid hs
  have HB := Lib.hid hb1
  have hu26 := Try.underlying26
  clear hv hm hh h0 hc0 h1 hc1 h2 hc2 hs hb1
  go_enter Try.func13, Try.ntmps13
  go_wp2_with fail
  refine HS.out.mono ?_
  rintro ex w2 ⟨sb, rfl, hb2, hsb, hsrt⟩
  obtain ⟨A, c, hc6, hle, hC⟩ := hsrt.needs
  have hsbl := World.block_lt_of_cell? _ _ hc6
  have HX := Lib.hid (And.intro hb2 (And.intro hle hC))
  clear hb2 hle hC hsrt
  go_wp2_with fail
  go_ret2
  exact ⟨A, c, rfl, HB.out.trans (HX.out.1.mono HB.out.size), HX.out.2.1, HX.out.2.2⟩
set_option maxRecDepth 100000 in
set_option maxHeartbeats 4000000 in
theorem c_Widest (hv : Valid E U J) (hm : Matched E U J m) (hh : Has E U m) (h0 : Kd.C Kd.string w A0 E.length E) (hc0 : E.length ≤ c0) (h1 : Kd.C k47 w A1 U.length U) (hc1 : U.length ≤ c1)
    (h2 : Kd.C (Kd.slice 3 (Kd.int .i64)) w A2 J.length J) (hc2 : J.length ≤ c2) :
    Calls Try.prog 30 #[.agg #[.slice A0 E.length c0, .slice A1 U.length c1, .slice A2 J.length c2]] w fun e w' => e = .returned (.tuple #[.int .i64 (((blocksB E.length (ndB J m)).foldl (fun n b => max n b.length) 0 : Nat) : Int), .int .i64 0]) ∧ Below w.heap.size w w' := by
  have hb1 : Below w.heap.size w (w.alloc (.cells #[.slice A0 E.length c0, .slice A1 U.length c1, .slice A2 J.length c2] 26)) := (Below.refl _ _).alloc (Nat.le_refl _) _
  have hs := c_sort_yes hv hm hh h0 hc0 h1 hc1 h2 hc2 hb1
  have hE := hv.hE
  have HS := Lib.hid hs
  have HB := Lib.hid hb1
  have hu26 := Try.underlying26
  clear hv hm hh h0 hc0 h1 hc1 h2 hc2 hs hb1
  obtain ⟨bl, hbl⟩ : ∃ bl, bl = blocksB E.length (ndB J m) := ⟨_, rfl⟩
  have hNl : bl.length ≤ 120 := by
    have h1 := List.length_filter_le (Blt.leadB E.length (ndB J m)) (List.range E.length)
    rw [hbl, Blt.blocksB_len, blocks0, List.length_map]
    rw [List.length_range] at h1
    omega
  have hbln : ∀ (i : Nat) (b : List Nat), bl[i]? = some b → b.length ≤ 120 := fun i b hb => by
    rw [hbl] at hb
    have := block_len ((Blt.blocksB_spec).rises i b hb) ((Blt.blocksB_spec).lt i b hb)
    omega
  have HBL := Lib.hid (And.intro hbl hbln)
  rw [← hbl]
  clear hbl hbln
  go_enter Try.func30, Try.ntmps30
  go_wp2_with fail
  refine HS.out.mono ?_
  rintro ex w2 ⟨sb, rfl, hb2, hsb, hsrt⟩
  obtain ⟨A, c, hc4, hle, hC⟩ := hsrt.blocks
  rw [← HBL.out.1] at hc4 hle hC
  have HX := Lib.hid (And.intro hb2 (And.intro hle hC))
  clear hb2 hle hC hsrt
  go_wp2_with fail
  go_loopw [6, 22] (fun x v W => ∃ i : Nat, v = .int .i64 i ∧ i ≤ bl.length ∧ W = w2 ∧ ∃ k : Nat, x = .int .i64 k ∧ k ≤ 120 ∧ k = (bl.take i).foldl (fun n b => max n b.length) 0) (fun _ v _ => bl.length - (intOf v).toNat)
  case atStart => exact ⟨0, rfl, Nat.zero_le _, rfl, 0, rfl, by omega, rfl⟩
  case round =>
    obtain ⟨i, rfl, hi, rfl, k, rfl, hk, hkf⟩ := hrel
    have HK := Lib.hid hkf
    clear hkf
    by_cases hil : i < bl.length
    · have hil' : (i : Int) < (bl.length : Int) := by omega
      have hi0 : (0 : Int) ≤ (i : Int) := by omega
      obtain ⟨ad, A1, cc, hA, h7, h8, h9⟩ := at_L4 HX.out.2.2 (i : Int) hi0 hil'
      subst hA
      rw [Int.toNat_natCast, rd_ints, ints_len] at h7
      have hgi : bl[i]? = some (bl.getD i []) := by rw [List.getD_eq_getElem?_getD, List.getElem?_eq_getElem hil]; rfl
      obtain ⟨b, hb⟩ : ∃ b, b = bl.getD i [] := ⟨_, rfl⟩
      rw [← hb] at h7 hgi
      have hbl := HBL.out.2 i b hgi
      have HT := Lib.hid (show bl.take (i + 1) = bl.take i ++ [b] by rw [List.take_add_one, hgi]; rfl)
      clear h8 h9 hb hgi
      go_wp2_with fail
      refine ⟨⟨i + 1, by rw [Int.natCast_add]; rfl, by omega, trivial, max k b.length, congrArg (Value.int .i64) (by omega), by omega, ?_⟩, by simp [intOf]; omega⟩
      rw [HT.out, List.foldl_append, ← HK.out]; rfl
    · have hil' : ¬ (i : Int) < (bl.length : Int) := by omega
      have hie : i = bl.length := by omega
      go_wp2_with fail
      go_ret2
      rw [HK.out, hie, List.take_length]
      exact ⟨rfl, HB.out.trans (HX.out.1.mono HB.out.size)⟩
set_option maxRecDepth 100000 in
set_option maxHeartbeats 4000000 in
theorem c_Levels (hv : Valid E U J) (hm : Matched E U J m) (hh : Has E U m) (h0 : Kd.C Kd.string w A0 E.length E) (hc0 : E.length ≤ c0) (h1 : Kd.C k47 w A1 U.length U) (hc1 : U.length ≤ c1)
    (h2 : Kd.C (Kd.slice 3 (Kd.int .i64)) w A2 J.length J) (hc2 : J.length ≤ c2) :
    Calls Try.prog 12 #[.agg #[.slice A0 E.length c0, .slice A1 U.length c1, .slice A2 J.length c2]] w fun e w' => ∃ A c, e = .returned (.tuple #[.slice A (blocksB E.length (ndB J m)).length c, .int .i64 0]) ∧ Below w.heap.size w w' ∧ (blocksB E.length (ndB J m)).length ≤ c ∧
      Kd.C (Kd.int .i64) w' A (blocksB E.length (ndB J m)).length (ints (Blt.levelsB (needsB E.length (ndB J m)))) := by
  have hb1 : Below w.heap.size w (w.alloc (.cells #[.slice A0 E.length c0, .slice A1 U.length c1, .slice A2 J.length c2] 26)) := (Below.refl _ _).alloc (Nat.le_refl _) _
  have hs := c_sort_yes hv hm hh h0 hc0 h1 hc1 h2 hc2 hb1
  have hE := hv.hE
  have HS := Lib.hid hs
  have HB := Lib.hid hb1
  have hu26 := Try.underlying26
  clear hv hm hh h0 hc0 h1 hc1 h2 hc2 hs hb1
  obtain ⟨nl, hnl⟩ : ∃ nl, nl = needsB E.length (ndB J m) := ⟨_, rfl⟩
  have hlen : nl.length = (blocksB E.length (ndB J m)).length := by rw [hnl]; exact (Blt.sorted_spec).len
  have hNl : nl.length ≤ 120 := by
    have h1 := List.length_filter_le (Blt.leadB E.length (ndB J m)) (List.range E.length)
    rw [hlen, Blt.blocksB_len, blocks0, List.length_map]
    rw [List.length_range] at h1
    omega
  have hbef : ∀ (i : Nat) (b : List Nat), nl[i]? = some b → ∀ j ∈ b, j < i := fun i b hb => by
    rw [hnl] at hb
    exact (Blt.sorted_spec).before i b hb
  have hblen : ∀ (i : Nat) (b : List Nat), nl[i]? = some b → b.length ≤ 120 := fun i b hb => by
    have h3 := block_len (n := i) (by rw [hnl] at hb; exact (Blt.sorted_spec).rises i b hb) (hbef i b hb)
    have := (List.getElem?_eq_some_iff.1 hb).1
    omega
  have hlev : ∀ l : List (List Nat), (Blt.levelsB l).length = l.length := fun l => Blt.levels_len l.length l rfl
  have HBL := Lib.hid (And.intro hnl (And.intro hbef (And.intro hblen (And.intro hlen hlev))))
  rw [← hnl, ← hlen]
  clear hnl hbef hblen hlen hlev
  go_enter Try.func12, Try.ntmps12
  go_wp2_with fail
  refine HS.out.mono ?_
  rintro ex w2 ⟨sb, rfl, hb2, hsb, hsrt⟩
  obtain ⟨A, c, hc4, hle, hC⟩ := hsrt.needs
  rw [← HBL.out.2.2.2.1] at hc4 hle hC
  rw [← HBL.out.1] at hC
  have HX := Lib.hid (And.intro hb2 (And.intro hle hC))
  clear hb2 hle hC hsrt
  go_wp2_with fail
  go_loopw [6, 25] (fun x v W => ∃ i : Nat, v = .int .i64 i ∧ i ≤ nl.length ∧ Below w2.heap.size w2 W ∧ Kd.R (Kd.int .i64) 3 W w2.heap.size (fun _ => True) x (ints (Blt.levelsB (nl.take i))) ∧ ∀ y ∈ Blt.levelsB (nl.take i), y ≤ i) (fun _ v _ => nl.length - (intOf v).toNat)
  case atStart => exact ⟨0, rfl, Nat.zero_le _, Below.refl _ _, Kd.R_nil _ _ _ _ _, fun y hy => by simp [Blt.levelsB] at hy⟩
  case round =>
    obtain ⟨i, rfl, hi, hBw, hR, hmx⟩ := hrel
    obtain ⟨wi, rfl⟩ : ∃ x, x = wr := ⟨_, rfl⟩
    obtain ⟨Ax, cx, rfl⟩ := Kd.R_slice hR
    have hxl : (ints (Blt.levelsB (nl.take i))).length = i := by rw [ints_len, HBL.out.2.2.2.2, List.length_take]; omega
    rw [hxl] at hR ⊢
    have HR := Lib.hid (And.intro hBw (And.intro hR (And.intro hmx hxl)))
    clear hBw hR hmx hxl
    by_cases hil : i < nl.length
    · have hil' : (i : Int) < (nl.length : Int) := by omega
      have hi0 : (0 : Int) ≤ (i : Int) := by omega
      obtain ⟨ad, A1, cc, hA, h7, h8, h9⟩ := at_L4 (Kd.C_below HX.out.2.2 HR.out.1) (i : Int) hi0 hil'
      subst hA
      rw [Int.toNat_natCast, rd_ints, ints_len] at h7
      rw [rd_ints, ints_len] at h9
      have hgi : nl[i]? = some (nl.getD i []) := by rw [List.getD_eq_getElem?_getD, List.getElem?_eq_getElem hil]; rfl
      obtain ⟨b, hb⟩ : ∃ b, b = nl.getD i [] := ⟨_, rfl⟩
      rw [← hb] at h7 h9 hgi
      have hbl := HBL.out.2.2.1 i b hgi
      have HG := Lib.hid (And.intro hgi (And.intro h9 (show nl.take (i + 1) = nl.take i ++ [b] by rw [List.take_add_one, hgi]; rfl)))
      clear h8 h9 hb hgi
      go_wp2_with fail
      go_loopw [9, 31] (fun x v W => ∃ q : Nat, v = .int .i64 q ∧ q ≤ b.length ∧ W = wi ∧ ∃ k : Nat, x = .int .i64 k ∧ k ≤ i + 1 ∧ k = (b.take q).foldl (fun m k => max m ((Blt.levelsB (nl.take i)).getD k 0 + 1)) 0) (fun _ v _ => b.length - (intOf v).toNat)
      case atStart => exact ⟨0, rfl, Nat.zero_le _, rfl, 0, rfl, by omega, rfl⟩
      case round =>
        obtain ⟨q, rfl, hq, rfl, k, rfl, hk, hkf⟩ := hrel
        have HK := Lib.hid hkf
        clear hkf
        by_cases hql : q < b.length
        · have hql' : (q : Int) < (b.length : Int) := by omega
          have hq0 : (0 : Int) ≤ (q : Int) := by omega
          obtain ⟨ad2, hA2, hc2⟩ := Kd.at_int HG.out.2.1 (q : Int) hq0 hql'
          subst hA2
          obtain ⟨j, hj⟩ : ∃ j, j = b.getD q 0 := ⟨_, rfl⟩
          rw [Int.toNat_natCast, rd_int, ← hj] at hc2
          have hjb : j ∈ b := by rw [hj, List.getD_eq_getElem?_getD, List.getElem?_eq_getElem hql]; exact List.getElem_mem _
          have hji : j < i := HBL.out.2.1 i b HG.out.1 j hjb
          have hj0 : (0 : Int) ≤ (j : Int) := by omega
          have hji' : (j : Int) < (i : Int) := by omega
          have hRR := (Kd.R_reads' HR.out.2.1).2.2
          rw [HR.out.2.2.2] at hRR
          obtain ⟨ad3, hA3, hc3⟩ := Kd.at_int hRR (j : Int) hj0 hji'
          subst hA3
          obtain ⟨y, hy⟩ : ∃ y, y = (Blt.levelsB (nl.take i)).getD j 0 := ⟨_, rfl⟩
          rw [Int.toNat_natCast, rd_int, ← hy] at hc3
          have hyi : y ≤ i := HR.out.2.2.1 y (by
            have hl : (Blt.levelsB (nl.take i)).length = i := by rw [HBL.out.2.2.2.2, List.length_take]; omega
            rw [hy, List.getD_eq_getElem?_getD, List.getElem?_eq_getElem (by omega)]; exact List.getElem_mem _)
          have HT := Lib.hid (And.intro hy (show b.take (q + 1) = b.take q ++ [j] by rw [List.take_add_one, hj, List.getD_eq_getElem?_getD, List.getElem?_eq_getElem hql]; rfl))
          clear hRR hj hy
          go_wp2_with fail
          refine ⟨⟨q + 1, by rw [Int.natCast_add]; rfl, by omega, by first | trivial | rfl, max k (y + 1), congrArg (Value.int .i64) (by omega), by omega, ?_⟩, by simp [intOf]; omega⟩
          rw [HT.out.2, List.foldl_append, ← HK.out, List.foldl_cons, List.foldl_nil, ← HT.out.1]
        · have hql' : ¬ (q : Int) < (b.length : Int) := by omega
          have hqe : q = b.length := by omega
          go_wp2_with (at_builtin; go_must (refine Kd.R_append (Kd.int .i64) (w0 := wr) w2.heap.size rfl (.tmp 43) (.tmp 45) 31 3 (.int .i64 0) 8 rfl Try.underlying31 info3 rfl (by decide) (by decide) (.slice Ax i cx) (ints (Blt.levelsB (nl.take i))) (k : Int) [.int .i64 (k : Int)] (fun _ => True) (fun _ => False) rfl rfl rfl (fun _ hk => hk.elim) (fun _ _ => trivial) HR.out.2.1 (Below.refl _ _) HR.out.1.size (by rw [HR.out.2.2.2]; omega) ?_); intro v7 w7 hr7 hb7 hg7 hat7; have HY := Lib.hid (And.intro hr7 (And.intro hb7 hg7)); clear hr7 hb7 hg7 hat7)
          have hstep : Blt.levelsB (nl.take (i + 1)) = Blt.levelsB (nl.take i) ++ [k] := by
            rw [HG.out.2.2, Blt.levels_snoc, HK.out, hqe, List.take_length]
          refine ⟨⟨i + 1, by rw [Int.natCast_add]; rfl, by omega, HR.out.1.trans HY.out.2.1, ?_, fun y hy => ?_⟩, by simp [intOf]; omega⟩
          · rw [hstep, show ints (Blt.levelsB (nl.take i) ++ [k]) = ints (Blt.levelsB (nl.take i)) ++ [(k : Int)] by simp [ints]]
            exact HY.out.1
          · rw [hstep] at hy
            rcases List.mem_append.1 hy with hy | hy
            · have := HR.out.2.2.1 y hy; omega
            · simp at hy; omega
    · have hil' : ¬ (i : Int) < (nl.length : Int) := by omega
      have hie : i = nl.length := by omega
      go_wp2_with fail
      go_ret2
      have hr := Kd.R_reads' HR.out.2.1
      rw [HR.out.2.2.2] at hr
      subst hie
      rw [List.take_length] at hr
      exact ⟨Ax, cx, rfl, HB.out.trans ((HX.out.1.trans (HR.out.1.mono HX.out.1.size)).mono HB.out.size), hr.2.1, hr.2.2⟩
end
end Go.Proofs.Ytmfcefakpfbaoaa.PMatch
end
