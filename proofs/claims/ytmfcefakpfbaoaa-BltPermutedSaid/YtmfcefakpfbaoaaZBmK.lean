/- Lemmas for RowBltOrder. -/
import Derived.Test.YtmfcefakpfbaoaaZBmJ
section
set_option linter.unusedVariables false
set_option linter.unusedSimpArgs false
namespace Go.Proofs.Ytmfcefakpfbaoaa.PMatch
open Go.RowKit Go.Proofs.YtmfcefakpfbaoaaW.PrintWords Go.Proofs.YtmfcefakpfbaoaaW.PrintLast Go.Proofs.YtmfcefakpfbaoaaW.PrintMore
open Blt (ints blocksB needsB)
theorem Row.made (W : World) (n : Nat) {g : Nat} (hg : g = W.heap.size) : Row g n (fun _ => 0) (W.alloc (.cells (madeCells #[.int .i64 0] n) 3)) := by
  subst hg
  refine ⟨fun e he => ?_, fun e he => ?_, by simp⟩
  · rw [World.cell?_alloc_at _ _ _ _ rfl]
    simp [madeCells, he, Nat.mod_one]
  · rw [World.frozen?_alloc_at _ _ _ _ rfl]
theorem St.two (w : World) (v0 v1 v2 : Value) (a b : Nat) :
    St w v0 v1 v2 (w.heap.size + 1) (w.heap.size + 1 + 1) a b (fun _ => 0) (fun _ => 0) (((w.alloc (.cells #[v0, v1, v2] 26)).alloc (.cells (madeCells #[.int .i64 0] a) 3)).alloc (.cells (madeCells #[.int .i64 0] b) 3)) ∧
    St w v0 v1 v2 (w.heap.size + 1 + 1) (w.heap.size + 1) b a (fun _ => 0) (fun _ => 0) (((w.alloc (.cells #[v0, v1, v2] 26)).alloc (.cells (madeCells #[.int .i64 0] a) 3)).alloc (.cells (madeCells #[.int .i64 0] b) 3)) := by
  have b1 := (Below.refl w.heap.size w).alloc (Nat.le_refl _) (.cells #[v0, v1, v2] 26)
  have b2 := b1.alloc b1.size (.cells (madeCells #[.int .i64 0] a) 3)
  have b3 := b2.alloc b2.size (.cells (madeCells #[.int .i64 0] b) 3)
  have hat : ∀ (i : Nat) (v : Value), #[v0, v1, v2][i]? = some v → (((w.alloc (.cells #[v0, v1, v2] 26)).alloc (.cells (madeCells #[.int .i64 0] a) 3)).alloc (.cells (madeCells #[.int .i64 0] b) 3)).cell? ⟨w.heap.size, i, none⟩ = some v := fun i v hv => by
    rw [World.cell?_alloc_lt _ _ _ (by simp <;> omega), World.cell?_alloc_lt _ _ _ (by simp), World.cell?_alloc_at _ _ _ _ rfl]
    exact hv
  have r7 : Row (w.heap.size + 1) a (fun _ => 0) (((w.alloc (.cells #[v0, v1, v2] 26)).alloc (.cells (madeCells #[.int .i64 0] a) 3)).alloc (.cells (madeCells #[.int .i64 0] b) 3)) := (Row.made _ a (by simp)).below ((Below.refl _ _).alloc (Nat.le_refl _) _)
  have r8 : Row (w.heap.size + 1 + 1) b (fun _ => 0) (((w.alloc (.cells #[v0, v1, v2] 26)).alloc (.cells (madeCells #[.int .i64 0] a) 3)).alloc (.cells (madeCells #[.int .i64 0] b) 3)) := Row.made _ b (by simp)
  exact ⟨⟨b3, hat 0 _ rfl, hat 1 _ rfl, hat 2 _ rfl, r7, r8, by omega, by omega, by omega⟩, ⟨b3, hat 0 _ rfl, hat 1 _ rfl, hat 2 _ rfl, r8, r7, by omega, by omega, by omega⟩⟩
section
variable {E : List ByteArray} {U : List S47} {J : List (List Int)} {A0 : Option Addr} {c0 : Nat} {A1 : Option Addr} {c1 : Nat} {A2 : Option Addr} {c2 : Nat} {A3 : Option Addr} {c3 : Nat} {BL : List (List ByteArray × List S47)} {bl us : List (List Nat)} {P Q : Nat → Nat} {w : World}
set_option maxRecDepth 100000 in
set_option maxHeartbeats 4000000 in
theorem c_blocks (h0 : Kd.C Kd.string w A0 E.length E) (h1 : Kd.C k47 w A1 U.length U) (h3 : Kd.C partK w A3 bl.length BL) (hBL : ∀ i : Nat, i < bl.length → BL.getD i ([], []) = ((bl.getD i []).map fun e => E.getD e ByteArray.empty, (us.getD i []).map fun u => U.getD u z47))
    (hdE : ∀ i j, i < j → j < E.length → (E.getD i ByteArray.empty).toList ≠ (E.getD j ByteArray.empty).toList) (hdU : ∀ i j, i < U.length → j < U.length → i ≠ j → (U.getD i z47).f0.toList = (U.getD j z47).f0.toList → (U.getD i z47).f1 = (U.getD j z47).f1 → ¬ (U.getD i z47).f2 = (U.getD j z47).f2)
    (hP : Parts E.length bl P) (hQ : Parts U.length us Q) (hN : bl.length ≤ 1000) (hn : E.length ≤ 120) (hu : U.length ≤ 400) (husl : us.length = bl.length) (hul : ∀ i : Nat, i < bl.length → (us.getD i []).length = (bl.getD i []).length) (hne : ∀ i : Nat, i < bl.length → (bl.getD i []).length ≠ 0) :
    Calls Try.prog 11 #[.agg #[.slice A0 E.length c0, .slice A1 U.length c1, .slice A2 J.length c2], .slice A3 bl.length c3] w fun e w' => ∃ g7 g8 F G, e = .returned (.tuple #[.slice (some ⟨g7, 0, none⟩) E.length E.length, .slice (some ⟨g8, 0, none⟩) U.length U.length, .bool true]) ∧ Below w.heap.size w w' ∧
      Row g7 E.length F w' ∧ Row g8 U.length G w' ∧ (∀ e, e < E.length → F e = P e) ∧ ∀ e, e < U.length → G e = Q e := by
  have hmk : ∀ k : Nat, k ≤ 400 → _ := fun k hk => run_make_row' (P := Try.prog) 31 3 (.int .i64 0) 8 Try.underlying31 info3 rfl .i64 .i64 k (by omega) (by omega)
  obtain ⟨n, hnn⟩ : ∃ n, n = E.length := ⟨_, rfl⟩
  obtain ⟨u, huu⟩ : ∃ u, u = U.length := ⟨_, rfl⟩
  obtain ⟨N, hNN⟩ : ∃ N, N = bl.length := ⟨_, rfl⟩
  rw [← hnn] at h0 hdE hP hn ⊢
  rw [← huu] at h1 hdU hQ hu ⊢
  rw [← hNN] at h3 hBL hN husl hul hne ⊢
  have HG := Lib.hid (And.intro h0 (And.intro h1 (And.intro h3 (And.intro hBL (And.intro hdE (And.intro hdU (And.intro hP (And.intro hQ (And.intro hul (And.intro hne (And.intro hnn (And.intro huu (And.intro hNN husl)))))))))))))
  have mk7 := hmk n (by omega)
  have mk8 := hmk u (by omega)
  have hu26 := Try.underlying26
  have hu42 := Try.underlying42
  have hu47 := Try.underlying47
  clear h0 h1 h3 hBL hdE hdU hP hQ hul hne hnn huu hNN husl hmk
  have b0 : (w.alloc (.cells #[.slice A0 n c0, .slice A1 u c1, .slice A2 J.length c2] 26)).cell? ⟨w.heap.size, 0, none⟩ = some (.slice A0 n c0) := by rw [World.cell?_alloc_at _ _ _ _ rfl]; rfl
  go_enter Try.func11, Try.ntmps11
  go_upto_region 1 with fail
  go_cut [7, 8] (fun s7 s8 W => ∃ g7 g8 F G, s7 = .slice (some ⟨g7, 0, none⟩) n n ∧ s8 = .slice (some ⟨g8, 0, none⟩) u u ∧ St w (.slice A0 n c0) (.slice A1 u c1) (.slice A2 J.length c2) g7 g8 n u F G W)
  case first =>
    go_wp2_with fail
    go_region
    all_goals (go_wp2_with fail; go_meet)
    · exact ⟨_, _, _, _, rfl, rfl, St.drew (St.two w _ _ _ n u).1⟩
    · exact ⟨_, _, _, _, rfl, rfl, St.drew (St.two w _ _ _ u n).2⟩
  case rest =>
    clear b0
    obtain ⟨g7, g8, F0, G0, rfl, rfl, hst⟩ := hcut
    go_wp2_with fail
    go_loopw [9] (fun v W => ∃ (i : Nat) (F : Nat → Int), v = .int .i64 i ∧ i ≤ n ∧ St w (.slice A0 n c0) (.slice A1 u c1) (.slice A2 J.length c2) g7 g8 n u F G0 W ∧ ∀ k, k < i → F k = -1) (fun v _ => n - (intOf v).toNat)
    case atStart => exact ⟨0, F0, rfl, Nat.zero_le _, hst, fun k hk => absurd hk (Nat.not_lt_zero _)⟩
    case round =>
      obtain ⟨i, F, rfl, hi, hs, hk⟩ := hrel
      have HS := Lib.hid (And.intro hs hk)
      clear hs hk hst
      by_cases hil : i < n
      · have hil' : (i : Int) < (n : Int) := by omega
        have hi0 : (0 : Int) ≤ (i : Int) := by omega
        have hc := HS.out.1.r7.cell i hil
        have hf := HS.out.1.r7.soft i hil
        go_wp2_with fail
        refine ⟨⟨i + 1, _, by rw [Int.natCast_add]; rfl, by omega, HS.out.1.put7 hil (-1), fun k hk => ?_⟩, by simp [intOf]; omega⟩
        unfold upd
        by_cases e1 : k = i
        · rw [if_pos e1]
        · rw [if_neg e1]; exact HS.out.2 k (by omega)
      · have hil' : ¬ (i : Int) < (n : Int) := by omega
        have hF : ∀ k, k < n → F k = -1 := fun k hk => HS.out.2 k (by omega)
        have HF := Lib.hid (And.intro HS.out.1 hF)
        clear HS hF
        go_wp2_with fail
        go_loopw [10] (fun v W => ∃ (i : Nat) (G : Nat → Int), v = .int .i64 i ∧ i ≤ u ∧ St w (.slice A0 n c0) (.slice A1 u c1) (.slice A2 J.length c2) g7 g8 n u F G W ∧ ∀ k, k < i → G k = -1) (fun v _ => u - (intOf v).toNat)
        case atStart => exact ⟨0, G0, rfl, Nat.zero_le _, HF.out.1, fun k hk => absurd hk (Nat.not_lt_zero _)⟩
        case round =>
          obtain ⟨i2, G, rfl, hi2, hs, hk⟩ := hrel
          have HS := Lib.hid (And.intro hs hk)
          clear hs hk
          by_cases hil2 : i2 < u
          · have hil2' : (i2 : Int) < (u : Int) := by omega
            have hi20 : (0 : Int) ≤ (i2 : Int) := by omega
            have hc := HS.out.1.r8.cell i2 hil2
            have hf := HS.out.1.r8.soft i2 hil2
            go_wp2_with fail
            refine ⟨⟨i2 + 1, _, by rw [Int.natCast_add]; rfl, by omega, HS.out.1.put8 hil2 (-1), fun k hk => ?_⟩, by simp [intOf]; omega⟩
            unfold upd
            by_cases e1 : k = i2
            · rw [if_pos e1]
            · rw [if_neg e1]; exact HS.out.2 k (by omega)
          · have hil2' : ¬ (i2 : Int) < (u : Int) := by omega
            have hG : ∀ k, k < u → G k = -1 := fun k hk => HS.out.2 k (by omega)
            have HS0 := Lib.hid (And.intro HS.out.1 (And.intro (Fil.none (P := P) HF.out.2) (Fil.none (P := Q) hG)))
            clear HS HF hG
            go_wp2_with fail
            go_loopw [13, 11, 12] (fun v c d W => ∃ (i : Nat) (F G : Nat → Int), v = .int .i64 i ∧ i ≤ N ∧ c = .int .i64 ((doneL bl i 0).length : Int) ∧ d = .int .i64 ((doneL us i 0).length : Int) ∧ St w (.slice A0 n c0) (.slice A1 u c1) (.slice A2 J.length c2) g7 g8 n u F G W ∧ Fil n P (doneL bl i 0) F ∧ Fil u Q (doneL us i 0) G) (fun v _ _ _ => N - (intOf v).toNat)
            case atStart => exact ⟨0, F, G, rfl, Nat.zero_le _, by rw [doneL_zero]; rfl, by rw [doneL_zero]; rfl, HS0.out.1, by rw [doneL_zero]; exact HS0.out.2.1, by rw [doneL_zero]; exact HS0.out.2.2⟩
            case round =>
              clear HS0
              obtain ⟨i, F, G, rfl, hi, rfl, rfl, hst, hfF, hfG⟩ := hrel
              obtain ⟨wi, rfl⟩ : ∃ x, x = wr := ⟨_, rfl⟩
              by_cases hilN : i < N
              · have hilN' : (i : Int) < (N : Int) := by omega
                have hi0N : (0 : Int) ≤ (i : Int) := by omega
                obtain ⟨ad, Ax, cx, Ay, cy, hA, hcx, hcy, hCx, hCy⟩ := at_part HG.out.2.2.1 i hilN
                subst hA
                rw [HG.out.2.2.2.1 i hilN] at hcx hcy hCx hCy
                dsimp only at hcx hcy hCx hCy
                have hle := HG.out.2.2.2.2.2.2.2.2.1 i hilN
                have hnz := HG.out.2.2.2.2.2.2.2.2.2.1 i hilN
                have hbi : bl[i]? = some (bl.getD i []) := by rw [List.getD_eq_getElem?_getD, List.getElem?_eq_getElem (by have := HG.out.2.2.2.2.2.2.2.2.2.2.2.2.1; omega)]; rfl
                have hui : us[i]? = some (us.getD i []) := by rw [List.getD_eq_getElem?_getD, List.getElem?_eq_getElem (by have := HG.out.2.2.2.2.2.2.2.2.2.2.2.2.2; omega)]; rfl
                have hdl : ∀ q, q ≤ (bl.getD i []).length → (doneL bl i q).length ≤ 120 ∧ (doneL us i q).length ≤ 400 := fun q hq => by
                  have h4 := doneL_len (bl := bl) (i := i) (q := q) (by have := HG.out.2.2.2.2.2.2.2.2.2.2.2.2.1; omega) hq
                  have h5 := doneL_len (bl := us) (i := i) (q := q) (by have := HG.out.2.2.2.2.2.2.2.2.2.2.2.2.2; omega) (by omega)
                  rw [HG.out.2.2.2.2.2.2.1.len] at h4
                  rw [HG.out.2.2.2.2.2.2.2.1.len] at h5
                  omega
                have hnx : doneL bl i (bl.getD i []).length = doneL bl (i + 1) 0 ∧ doneL us i (bl.getD i []).length = doneL us (i + 1) 0 := ⟨doneL_row (by have := HG.out.2.2.2.2.2.2.2.2.2.2.2.2.1; omega), by rw [← hle]; exact doneL_row (by have := HG.out.2.2.2.2.2.2.2.2.2.2.2.2.2; omega)⟩
                rw [List.length_map] at hcx hcy hCx hCy
                rw [hle] at hcy hCy
                have hul2 := hle
                obtain ⟨b, hb⟩ : ∃ b, b = bl.getD i [] := ⟨_, rfl⟩
                obtain ⟨ub, hub⟩ : ∃ ub, ub = us.getD i [] := ⟨_, rfl⟩
                rw [← hb] at hcx hcy hCx hCy hle hnz hbi hdl hnx
                rw [← hub] at hCy hle hui
                have hb120 : b.length ≤ 120 := by
                  have := (hdl b.length (Nat.le_refl _)).1
                  rw [hnx.1, show doneL bl (i + 1) 0 = (bl.take i).flatten ++ b by rw [← hnx.1, doneL, ← hb, List.take_length], List.length_append] at this
                  omega
                have HI := Lib.hid (And.intro hfF (And.intro hfG (And.intro hCx (And.intro hCy (And.intro hle (And.intro hbi (And.intro hui (And.intro hdl (And.intro hnx (And.intro hst (And.intro hb hub)))))))))))
                have hadl := World.block_lt_of_cell? _ _ hcx
                have a0 := hst.b0
                have a1 := hst.b1
                have a2 := hst.b2
                have HCX := Lib.hid (And.intro hcx hcy)
                clear hfF hfG hCx hCy hle hbi hui hdl hnx hcx hcy hul2 hb hub
                go_wp2_with fail
                go_loopw [14, 11] (fun v c W => ∃ (q : Nat) (F : Nat → Int), v = .int .i64 q ∧ q ≤ b.length ∧ c = .int .i64 ((doneL bl i q).length : Int) ∧ St w (.slice A0 n c0) (.slice A1 u c1) (.slice A2 J.length c2) g7 g8 n u F G W ∧ Fil n P (doneL bl i q) F) (fun v _ _ => b.length - (intOf v).toNat)
                case atStart => exact ⟨0, F, rfl, Nat.zero_le _, rfl, HI.out.2.2.2.2.2.2.2.2.2.1, HI.out.1⟩
                case round =>
                  clear a0 a1 a2 hst
                  obtain ⟨q, F1, rfl, hq, rfl, hst, hfF⟩ := hrel
                  obtain ⟨wq, rfl⟩ : ∃ x, x = wr := ⟨_, rfl⟩
                  have a0 := hst.b0
                  have a1 := hst.b1
                  have a2 := hst.b2
                  have hcx' := pw_cell_below hst.bel HCX.out.1
                  have hcy' := pw_cell_below hst.bel HCX.out.2
                  have HQ := Lib.hid (And.intro hst hfF)
                  clear hfF
                  by_cases hql : q < b.length
                  · have hql' : (q : Int) < (b.length : Int) := by omega
                    have hq0 : (0 : Int) ≤ (q : Int) := by omega
                    obtain ⟨ax, hAx, hcs0⟩ := Kd.at_string HI.out.2.2.1 (q : Int) hq0 hql'
                    subst hAx
                    obtain ⟨e, he⟩ : ∃ e, e = b.getD q 0 := ⟨_, rfl⟩
                    have hbq : b[q]? = some e := by rw [he, List.getD_eq_getElem?_getD, List.getElem?_eq_getElem hql]; rfl
                    have heb : e ∈ b := List.mem_of_getElem? hbq
                    have hen : e < n := HG.out.2.2.2.2.2.2.1.lt i b HI.out.2.2.2.2.2.1 e heb
                    obtain ⟨s, hs⟩ : ∃ s, s = E.getD e ByteArray.empty := ⟨_, rfl⟩
                    rw [show rdOf ByteArray.empty (b.map fun e => E.getD e ByteArray.empty) (q : Int) = s by rw [rdOf, Int.toNat_natCast, List.getD_eq_getElem?_getD, List.getElem?_map, hbq, hs]; rfl, Int.toNat_natCast] at hcs0
                    have hcs := pw_cell_below hst.bel hcs0
                    have hgq : (bl.getD i [])[q]? = some e := by rw [← HI.out.2.2.2.2.2.2.2.2.2.2.1]; exact hbq
                    have hPe : P e = i := HG.out.2.2.2.2.2.2.1.at_ i b HI.out.2.2.2.2.2.1 e heb
                    have hnew := doneL_new (q := q) HG.out.2.2.2.2.2.2.1.nodup (by have := HG.out.2.2.2.2.2.2.2.2.2.2.2.2.1; omega) hgq
                    have hen2 : e < E.length := by have := HG.out.2.2.2.2.2.2.2.2.2.2.1; omega
                    have h0q : Kd.C Kd.string wq.drew A0 E.length E := by have := Kd.C_below HG.out.1 (below_drew hst.bel); rw [HG.out.2.2.2.2.2.2.2.2.2.2.1] at this; exact this
                    have hE := c_eq (U := U) (J := J) (c0 := c0) (A1 := A1) (c1 := c1) (A2 := A2) (c2 := c2) (e := e) (s := s) h0q hen2 (by rw [hs]) (fun k hk => by rw [hs]; exact HG.out.2.2.2.2.1 k e hk hen)
                    rw [← HG.out.2.2.2.2.2.2.2.2.2.2.1, ← HG.out.2.2.2.2.2.2.2.2.2.2.2.1] at hE
                    have HE := Lib.hid hE
                    have HN := Lib.hid (And.intro hnew (And.intro hgq hPe))
                    have hdq := (HI.out.2.2.2.2.2.2.2.1 q hq).1
                    have hdn := doneL_next hgq
                    have hdn1 : (doneL bl i (q + 1)).length = (doneL bl i q).length + 1 := by rw [hdn, List.length_append]; rfl
                    have HD := Lib.hid (And.intro hdn hdn1)
                    obtain ⟨D, hD⟩ : ∃ D, D = (doneL bl i q).length := ⟨_, rfl⟩
                    rw [← hD] at hdq
                    rw [← hD]
                    have HDD := Lib.hid hD
                    have hst' := Lib.hid hst
                    clear hcs0 hs he hbq heb hgq hPe hnew hen2 h0q hE hdn hdn1 hD hst
                    go_wp2_with fail
                    refine OrdL.begin_ (S := fun W => W.cell? ⟨w.heap.size, 0, none⟩ = some (.slice A0 n c0) ∧ W.cell? ⟨w.heap.size, 1, none⟩ = some (.slice A1 u c1) ∧ W.cell? ⟨w.heap.size, 2, none⟩ = some (.slice A2 J.length c2) ∧ W.cell? (ad.add (i * 2)) = some (.slice (some ax) b.length cx) ∧ W.cell? (ax.add q) = some (.string s)) [] [10] (by kernel_rfl) ?_ (fun hHeld => ?_)
                    focus ((try dsimp only); exact ⟨a0, a1, a2, hcx', hcs⟩)
                    refine OrdL.take (i := 0) (d := (some 61)) (v := ?_) rfl rfl (by kernel_rfl) (by kernel_rfl) (by kernel_rfl) (by kernel_rfl) (fun _ _ _ h => h) (by assumption) ⟨by rfl, ?_⟩ ?_
                    rotate_left
                    focus (intro w hSw; (try dsimp only at hSw); go_simp; try with_reducible rfl)
                    (try simp only [Act.put, List.getElem_toArray, List.getElem_cons_zero, List.getElem_cons_succ, List.setIfInBounds_toArray, List.set_cons_zero, List.set_cons_succ])
                    refine OrdL.take (i := 1) (d := (some 62)) (v := ?_) rfl rfl (by kernel_rfl) (by kernel_rfl) (by kernel_rfl) (by kernel_rfl) (fun _ _ _ h => h) (by assumption) ⟨by rfl, ?_⟩ ?_
                    rotate_left
                    focus (intro w hSw; (try dsimp only at hSw); go_simp; try with_reducible rfl)
                    (try simp only [Act.put, List.getElem_toArray, List.getElem_cons_zero, List.getElem_cons_succ, List.setIfInBounds_toArray, List.set_cons_zero, List.set_cons_succ])
                    refine OrdL.take (i := 2) (d := (some 63)) (v := ?_) rfl rfl (by kernel_rfl) (by kernel_rfl) (by kernel_rfl) (by kernel_rfl) (fun _ _ _ h => h) (by assumption) ⟨by rfl, ?_⟩ ?_
                    rotate_left
                    focus (intro w hSw; (try dsimp only at hSw); go_simp; try with_reducible rfl)
                    (try simp only [Act.put, List.getElem_toArray, List.getElem_cons_zero, List.getElem_cons_succ, List.setIfInBounds_toArray, List.set_cons_zero, List.set_cons_succ])
                    refine OrdL.take (i := 3) (d := (some 64)) (v := ?_) rfl rfl (by kernel_rfl) (by kernel_rfl) (by kernel_rfl) (by kernel_rfl) (fun _ _ _ h => h) (by assumption) ⟨by rfl, ?_⟩ ?_
                    rotate_left
                    focus (intro w hSw; (try dsimp only at hSw); go_simp; try with_reducible rfl)
                    (try simp only [Act.put, List.getElem_toArray, List.getElem_cons_zero, List.getElem_cons_succ, List.setIfInBounds_toArray, List.set_cons_zero, List.set_cons_succ])
                    refine OrdL.take (i := 4) (d := (some 65)) (v := ?_) rfl rfl (by kernel_rfl) (by kernel_rfl) (by kernel_rfl) (by kernel_rfl) (fun _ _ _ h => h) (by assumption) ⟨by rfl, ?_⟩ ?_
                    rotate_left
                    focus (intro w hSw; (try dsimp only at hSw); go_simp; try with_reducible rfl)
                    (try simp only [Act.put, List.getElem_toArray, List.getElem_cons_zero, List.getElem_cons_succ, List.setIfInBounds_toArray, List.set_cons_zero, List.set_cons_succ])
                    refine OrdL.take (i := 5) (d := (some 66)) (v := ?_) rfl rfl (by kernel_rfl) (by kernel_rfl) (by kernel_rfl) (by kernel_rfl) (fun _ _ _ h => h) (by assumption) ⟨by rfl, ?_⟩ ?_
                    rotate_left
                    focus (intro w hSw; (try dsimp only at hSw); go_simp; try with_reducible rfl)
                    (try simp only [Act.put, List.getElem_toArray, List.getElem_cons_zero, List.getElem_cons_succ, List.setIfInBounds_toArray, List.set_cons_zero, List.set_cons_succ])
                    refine OrdL.take (i := 6) (d := (some 67)) (v := ?_) rfl rfl (by kernel_rfl) (by kernel_rfl) (by kernel_rfl) (by kernel_rfl) (fun _ _ _ h => h) (by assumption) ⟨by rfl, ?_⟩ ?_
                    rotate_left
                    focus (intro w hSw; (try dsimp only at hSw); go_simp; try with_reducible rfl)
                    (try simp only [Act.put, List.getElem_toArray, List.getElem_cons_zero, List.getElem_cons_succ, List.setIfInBounds_toArray, List.set_cons_zero, List.set_cons_succ])
                    refine OrdL.take (i := 7) (d := (some 68)) (v := ?_) rfl rfl (by kernel_rfl) (by kernel_rfl) (by kernel_rfl) (by kernel_rfl) (fun _ _ _ h => h) (by assumption) ⟨by rfl, ?_⟩ ?_
                    rotate_left
                    focus (intro w hSw; (try dsimp only at hSw); go_simp; try with_reducible rfl)
                    (try simp only [Act.put, List.getElem_toArray, List.getElem_cons_zero, List.getElem_cons_succ, List.setIfInBounds_toArray, List.set_cons_zero, List.set_cons_succ])
                    refine OrdL.take (i := 8) (d := (some 69)) (v := ?_) rfl rfl (by kernel_rfl) (by kernel_rfl) (by kernel_rfl) (by kernel_rfl) (fun _ _ _ h => h) (by assumption) ⟨by rfl, ?_⟩ ?_
                    rotate_left
                    focus (intro w hSw; (try dsimp only at hSw); go_simp; try with_reducible rfl)
                    (try simp only [Act.put, List.getElem_toArray, List.getElem_cons_zero, List.getElem_cons_succ, List.setIfInBounds_toArray, List.set_cons_zero, List.set_cons_succ])
                    refine OrdL.step (i := 9) rfl (by decide) (by kernel_rfl) (fun Kc hKc => ?_)
                    simp only [List.getElem_toArray, List.getElem_cons_zero, List.getElem_cons_succ]
                    go_simp
                    go_at_call 15
                    refine HE.out.mono ?_
                    rintro ex w5 ⟨rfl, hb5⟩
                    have HB5 := Lib.hid hb5
                    clear hb5
                    go_wp2_with fail
                    refine hKc.out _ _ ?_ (fun hHeld => ?_)
                    focus ((try dsimp only); exact ⟨pw_cell_below HB5.out (show wq.drew.cell? _ = _ from a0), pw_cell_below HB5.out (show wq.drew.cell? _ = _ from a1), pw_cell_below HB5.out (show wq.drew.cell? _ = _ from a2), pw_cell_below HB5.out (show wq.drew.cell? _ = _ from hcx'), pw_cell_below HB5.out (show wq.drew.cell? _ = _ from hcs)⟩)
                    clear hKc Kc
                    (try simp only [Act.put, List.getElem_toArray, List.getElem_cons_zero, List.getElem_cons_succ, List.setIfInBounds_toArray, List.set_cons_zero, List.set_cons_succ])
                    refine OrdL.last (i := 10) rfl (by decide) (by decide) (by kernel_rfl) (fun Kc hKc => ?_)
                    simp only [List.getElem_toArray, List.getElem_cons_zero, List.getElem_cons_succ]
                    go_simp
                    refine hKc.out _ _ ?_
                    clear hKc Kc
                    (try simp only [Act.put, List.getElem_toArray, List.getElem_cons_zero, List.getElem_cons_succ, List.setIfInBounds_toArray, List.set_cons_zero, List.set_cons_succ])
                    refine OrdL.done (by kernel_rfl) ?_ _
                    have hst5 := (St.drew hst'.out).below HB5.out
                    have hc5 := hst5.r7.cell e hen
                    rw [HQ.out.2.neg hen HN.out.1] at hc5
                    have hf5 := hst5.r7.soft e hen
                    have HS5 := Lib.hid hst5
                    have he0 : (0 : Int) ≤ (e : Int) := by omega
                    have he1 : (e : Int) < (n : Int) := by omega
                    have he2 : ¬ (e : Int) < 0 := by omega
                    clear hst5 hcs hcx' hcy' a0 a1 a2
                    go_wp2_with fail
                    refine ⟨⟨q + 1, _, by rw [Int.natCast_add]; rfl, by omega, by rw [HD.out.2, ← HDD.out]; rfl, HS5.out.put7 hen (i : Int), ?_⟩, by simp [intOf]; omega⟩
                    rw [HD.out.1]
                    exact HQ.out.2.put HN.out.2.2
                  · have hql' : ¬ (q : Int) < (b.length : Int) := by omega
                    have hqe : q = b.length := by omega
                    subst hqe
                    have HB := Lib.hid (And.intro hst (And.intro HQ.out.2 HI.out.2.1))
                    clear HQ hst hcy' a0 a1 a2
                    have HI2 := Lib.hid HI.out
                    go_wp2_with fail
                    go_loopw [16, 12] (fun v d W => ∃ (r : Nat) (G : Nat → Int), v = .int .i64 r ∧ r ≤ b.length ∧ d = .int .i64 ((doneL us i r).length : Int) ∧ St w (.slice A0 n c0) (.slice A1 u c1) (.slice A2 J.length c2) g7 g8 n u F1 G W ∧ Fil u Q (doneL us i r) G) (fun v _ _ => b.length - (intOf v).toNat)
                    case atStart => exact ⟨0, G, rfl, Nat.zero_le _, rfl, HB.out.1, HB.out.2.2⟩
                    case round =>
                      obtain ⟨r, G1, rfl, hr, rfl, hst, hfG⟩ := hrel
                      obtain ⟨wq2, rfl⟩ : ∃ x, x = wr := ⟨_, rfl⟩
                      have a1 := hst.b1
                      have hcy' := pw_cell_below hst.bel HCX.out.2
                      have hcx' := pw_cell_below hst.bel HCX.out.1
                      have HQ := Lib.hid (And.intro hst hfG)
                      clear hfG hst
                      by_cases hrl : r < b.length
                      · have hrl' : (r : Int) < (b.length : Int) := by omega
                        have hr0 : (0 : Int) ≤ (r : Int) := by omega
                        obtain ⟨ay, hAy, y0, y1, y2⟩ := at_T47 HI.out.2.2.2.1 (r : Int) hr0 hrl'
                        subst hAy
                        obtain ⟨e, he⟩ : ∃ e, e = ub.getD r 0 := ⟨_, rfl⟩
                        have hbq : ub[r]? = some e := by rw [he, List.getD_eq_getElem?_getD, List.getElem?_eq_getElem (by have := HI.out.2.2.2.2.1; omega)]; rfl
                        have heb : e ∈ ub := List.mem_of_getElem? hbq
                        have hen : e < u := HG.out.2.2.2.2.2.2.2.1.lt i ub HI.out.2.2.2.2.2.2.1 e heb
                        obtain ⟨y, hy⟩ : ∃ y, y = U.getD e z47 := ⟨_, rfl⟩
                        have hyr : rd_T47 (ub.map fun u => U.getD u z47) (r : Int) = y := by rw [rd_T47, Int.toNat_natCast, List.getD_eq_getElem?_getD, List.getElem?_map, hbq, hy]; rfl
                        rw [hyr, Int.toNat_natCast] at y0 y1 y2
                        have hgq : (us.getD i [])[r]? = some e := by rw [← HI.out.2.2.2.2.2.2.2.2.2.2.2]; exact hbq
                        have hQe : Q e = i := HG.out.2.2.2.2.2.2.2.1.at_ i ub HI.out.2.2.2.2.2.2.1 e heb
                        have hnew := doneL_new (q := r) HG.out.2.2.2.2.2.2.2.1.nodup (by have := HG.out.2.2.2.2.2.2.2.2.2.2.2.2.2; omega) hgq
                        have HN := Lib.hid (And.intro hnew (And.intro hgq hQe))
                        have hdq := (HI.out.2.2.2.2.2.2.2.1 r hr).2
                        have hdn := doneL_next hgq
                        have hdn1 : (doneL us i (r + 1)).length = (doneL us i r).length + 1 := by rw [hdn, List.length_append]; rfl
                        have HD := Lib.hid (And.intro hdn hdn1)
                        obtain ⟨D, hD⟩ : ∃ D, D = (doneL us i r).length := ⟨_, rfl⟩
                        rw [← hD] at hdq
                        rw [← hD]
                        have HDD := Lib.hid hD
                        have HY := Lib.hid (And.intro hy (And.intro y0 (And.intro y1 y2)))
                        clear he hbq heb hgq hQe hnew hdn hdn1 hD hy hyr y0 y1 y2
                        go_wp2_with fail
                        go_loopw [18, 17] (fun v x W => ∃ k : Nat, v = .int .i64 k ∧ k ≤ u ∧ St w (.slice A0 n c0) (.slice A1 u c1) (.slice A2 J.length c2) g7 g8 n u F1 G1 W ∧ ((k ≤ e ∧ x = .int .i64 (-1)) ∨ (e < k ∧ x = .int .i64 e))) (fun v _ _ => u - (intOf v).toNat)
                        case atStart => exact ⟨0, rfl, Nat.zero_le _, HQ.out.1, .inl ⟨Nat.zero_le _, rfl⟩⟩
                        case round =>
                          obtain ⟨k, rfl, hk, hst, hx⟩ := hrel
                          obtain ⟨wk, rfl⟩ : ∃ x, x = wr := ⟨_, rfl⟩
                          by_cases hku : k < u
                          · have hku' : (k : Int) < (u : Int) := by omega
                            have hk0 : (0 : Int) ≤ (k : Int) := by omega
                            obtain ⟨aU, hAU, x0, x1, x2⟩ := at_T47 (Kd.C_below HG.out.2.1 hst.bel) (k : Int) hk0 hku'
                            subst hAU
                            clear a1 hcx' hcy'
                            have a1 := hst.b1
                            have hcy' := pw_cell_below hst.bel HCX.out.2
                            have y0 := pw_cell_below hst.bel HY.out.2.1
                            have y1 := pw_cell_below hst.bel HY.out.2.2.1
                            have y2 := pw_cell_below hst.bel HY.out.2.2.2
                            obtain ⟨x, hxx⟩ : ∃ x, x = rd_T47 U (k : Int) := ⟨_, rfl⟩
                            rw [← hxx, Int.toNat_natCast] at x0 x1 x2
                            have HS := Lib.hid hst
                            have HXX := Lib.hid hxx
                            clear hst hxx
                            by_cases hke : k = e
                            · rcases hx with ⟨hx1, rfl⟩ | ⟨hx1, rfl⟩
                              · have hxy : x = y := by rw [HXX.out, HY.out.1, rd_T47, Int.toNat_natCast, hke]
                                subst hxy
                                have HKE := Lib.hid (And.intro hke hx1)
                                clear hke hx1
                                go_wp2_with fail
                                go_region
                                go_wp2_with fail
                                exact ⟨⟨k + 1, by rw [Int.natCast_add]; rfl, by omega, HS.out.drew, .inr ⟨by have := HKE.out.1; omega, by rw [HKE.out.1]⟩⟩, by simp [intOf]; omega⟩
                              · omega
                            · have HKE := Lib.hid (And.intro hke hx)
                              have hdiff : x.f0.toList = y.f0.toList → x.f1 = y.f1 → ¬ x.f2 = y.f2 := by
                                rw [HXX.out, HY.out.1, rd_T47, Int.toNat_natCast]
                                exact HG.out.2.2.2.2.2.1 k e hku hen hke
                              have HDF := Lib.hid hdiff
                              clear hke hx hdiff
                              by_cases d0 : x.f0.toList = y.f0.toList
                              · by_cases d1 : x.f1 = y.f1
                                · have d2 := HDF.out d0 d1
                                  go_wp2_with fail
                                  go_region
                                  go_wp2_with fail
                                  exact ⟨⟨k + 1, by rw [Int.natCast_add]; rfl, by omega, HS.out.drew, HKE.out.2.imp (fun h => ⟨by have := h.1; have := HKE.out.1; omega, h.2⟩) (fun h => ⟨by have := h.1; omega, h.2⟩)⟩, by simp [intOf]; omega⟩
                                · go_wp2_with fail
                                  go_region
                                  go_wp2_with fail
                                  exact ⟨⟨k + 1, by rw [Int.natCast_add]; rfl, by omega, HS.out.drew, HKE.out.2.imp (fun h => ⟨by have := h.1; have := HKE.out.1; omega, h.2⟩) (fun h => ⟨by have := h.1; omega, h.2⟩)⟩, by simp [intOf]; omega⟩
                              · go_wp2_with fail
                                go_region
                                go_wp2_with fail
                                exact ⟨⟨k + 1, by rw [Int.natCast_add]; rfl, by omega, HS.out.drew, HKE.out.2.imp (fun h => ⟨by have := h.1; have := HKE.out.1; omega, h.2⟩) (fun h => ⟨by have := h.1; omega, h.2⟩)⟩, by simp [intOf]; omega⟩
                          · have hku' : ¬ (k : Int) < (u : Int) := by omega
                            rcases hx with ⟨hx1, rfl⟩ | ⟨hx1, rfl⟩
                            · omega
                            · have hc := hst.r8.cell e hen
                              rw [HQ.out.2.neg hen HN.out.1] at hc
                              have hf := hst.r8.soft e hen
                              have a1 := hst.b1
                              have he0 : (0 : Int) ≤ (e : Int) := by omega
                              have he1 : (e : Int) < (u : Int) := by omega
                              have he2 : ¬ (e : Int) < 0 := by omega
                              have HS := Lib.hid hst
                              clear hst
                              go_wp2_with fail
                              refine ⟨⟨r + 1, _, by rw [Int.natCast_add]; rfl, by omega, by rw [HD.out.2, ← HDD.out]; rfl, HS.out.put8 hen (i : Int), ?_⟩, by simp [intOf]; omega⟩
                              rw [HD.out.1]
                              exact HQ.out.2.put HN.out.2.2
                      · have hrl' : ¬ (r : Int) < (b.length : Int) := by omega
                        have hre : r = b.length := by omega
                        have hbz : ((b.length : Int) == 0) = false := beq_eq_false_iff_ne.2 (by omega)
                        have hbz2 : decide ((b.length : Int) = 0) = false := decide_eq_false (by omega)
                        subst hre
                        go_wp2_with fail
                        go_region
                        go_wp2_with fail
                        exact ⟨⟨i + 1, F1, G1, by rw [Int.natCast_add]; rfl, by omega, by rw [HI.out.2.2.2.2.2.2.2.2.1.1], by rw [HI.out.2.2.2.2.2.2.2.2.1.2], HQ.out.1.drew, by rw [← HI.out.2.2.2.2.2.2.2.2.1.1]; exact HB.out.2.1, by rw [← HI.out.2.2.2.2.2.2.2.2.1.2]; exact HQ.out.2⟩, by simp [intOf]; omega⟩
              · have hilN' : ¬ (i : Int) < (N : Int) := by omega
                have hie : i = N := by omega
                have hbe : doneL bl i 0 = bl.flatten ∧ doneL us i 0 = us.flatten := ⟨by rw [hie, HG.out.2.2.2.2.2.2.2.2.2.2.2.2.1]; exact doneL_end, by rw [hie, ← HG.out.2.2.2.2.2.2.2.2.2.2.2.2.2]; exact doneL_end⟩
                rw [hbe.1] at hfF ⊢
                rw [hbe.2] at hfG ⊢
                rw [HG.out.2.2.2.2.2.2.1.len, HG.out.2.2.2.2.2.2.2.1.len]
                have a0 := hst.b0
                have a1 := hst.b1
                have hnnn : ((n : Int) == (n : Int)) = true := beq_self_eq_true _
                have huuu : ((u : Int) == (u : Int)) = true := beq_self_eq_true _
                have HS := Lib.hid (And.intro hst (And.intro hfF hfG))
                clear hst hfF hfG hbe hie
                go_wp2_with fail
                go_region
                go_wp2_with fail
                go_ret3
                exact ⟨g7, g8, F, G, rfl, below_drew HS.out.1.bel, HS.out.1.r7.drew, HS.out.1.r8.drew, fun e he => HS.out.2.1.all HG.out.2.2.2.2.2.2.1.all he, fun e he => HS.out.2.2.all HG.out.2.2.2.2.2.2.2.1.all he⟩
end
end Go.Proofs.Ytmfcefakpfbaoaa.PMatch
end
