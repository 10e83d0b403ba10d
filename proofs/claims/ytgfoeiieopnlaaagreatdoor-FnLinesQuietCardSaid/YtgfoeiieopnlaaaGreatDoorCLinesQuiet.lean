/- The law FnLinesQuiet returns true at every input, and leaves its arguments as they were; the listed tables of the library are tied to the text. No other condition. -/
import Derived.Test.YtgfoeiieopnlaaaGreatDoorM5
import Derived.Test.YtgfoeiieopnlaaaGreatDoorRows
import Derived.Test.YtgfoeiieopnlaaaGreatDoorCards
import Derived.Test.YtgfoeiieopnlaaaGreatDoorTie
import Derived.WalkKit
import Derived.ProofKit
import Derived.OpenShut
import Derived.ShutString
import Derived.ChangeOld
import Derived.ChangeMaps5
import Derived.Below
import Derived.SizedLaws
import Derived.KernelRfl
import Derived.LaidMore
import Derived.Lay
import Derived.SevenTiedAt
import Derived.Stop.Joined
/- What is asked changes nothing. -/
set_option linter.unusedVariables false
set_option linter.unusedSimpArgs false
namespace Go.Proofs.YtgfoeiieopnlaaaGreatDoor
open Go Go.Wt
set_option maxHeartbeats 4000000 in
theorem FnLinesQuiet_ct (code more : List UInt8) : CtP Tryz.prog 12 [.v code, .v more] (.v true) := by
  refine Ct.intro Tryz.func12 rfl rfl ?_
  refine awp_bigL 1 rfl (fun hmore => ?_)
  all_goals refine aS (aR ?_)
  all_goals refine oC (oA rfl (Conv.of rfl) rfl) ?_
  all_goals refine oN ?_
  refine aS (aST (s' := mkSt 90 [(0, .v code), (1, .v more), (18, .v (decide ((code.length : Int) > 1048576) || decide ((more.length : Int) > 1048576)))] []) ?_ ?_)
  · all_goals refine aR ?_
    all_goals refine oC (oM rfl (Conv.of rfl) rfl) ?_
    all_goals refine oC (oE sl22 rfl rfl) ?_
    all_goals refine oC (op_gtr rfl rfl rfl) ?_
    all_goals refine oC (oM rfl (Conv.of rfl) rfl) ?_
    all_goals refine g_split (t := 14) rfl (fun h => ?_) (fun h => ?_)
    all_goals first | refine oC (gF rfl rfl rfl rfl rfl) ?_ | refine oC (gN rfl rfl rfl (oM rfl (Conv.of rfl) rfl)) ?_
    all_goals first | refine oC (gF rfl rfl rfl rfl rfl) ?_ | refine oC (gN rfl rfl rfl (oE sl22 rfl rfl)) ?_
    all_goals first | refine oC (gF rfl rfl rfl rfl rfl) ?_ | refine oC (gN rfl rfl rfl (op_gtr rfl rfl rfl)) ?_
    all_goals refine oC (oQ rfl rfl rfl rfl) ?_
    all_goals refine oN ?_
    all_goals exact Le.mk rfl (tle rfl (rfl) rfl (tle rfl (rfl) rfl (tle rfl (by (simp_all; try omega)) rfl tln))) oln noS
  refine aC rfl (fun h => ?_) (fun h => ?_)
  · all_goals refine aS (aR ?_)
    all_goals refine oC (oA rfl (Conv.of rfl) rfl) ?_
    all_goals refine oN ?_
    refine aT ?_
    repeat first | refine rS ?_ | refine rB ?_
    exact finP (.v rfl (Conv.of rfl)) rfl rfl
  refine aW ?_
  all_goals refine aS (aR ?_)
  all_goals refine oC (oM rfl (Conv.of rfl) rfl) ?_
  refine awpOps_callE (ι := Int × List UInt8) [] (fun i => .tup [.v i.1, .v (bs i.2)]) (fun i => []) (fun i => TextOk i.2 ∧ i.2.length ≤ 10000) rfl fb14 (.cons rfl (Conv.of rfl) (.nil _)) (drawLines_ct code) (fun r h' ⟨v, t, e1, e2, e3, e4⟩ => ⟨(v, t), e1, e2, e3, e4⟩) ols0 k0 (argOk' rfl rfl argO0) rfl (fun i => rfl) (fun i => k0) (fun i o ho => by cases ho) ?_
  rintro ⟨bad, text⟩ ⟨ht, hlen⟩
  simp only at ht hlen ⊢
  all_goals refine oC (oM rfl (Conv.of rfl) rfl) ?_
  all_goals refine oC (op_ext rfl rfl rfl) ?_
  all_goals refine oC (op_ext rfl rfl rfl) ?_
  all_goals refine oC (oA rfl (Conv.of rfl) rfl) ?_
  all_goals refine oC (oA rfl (Conv.of rfl) rfl) ?_
  all_goals refine oN ?_
  all_goals refine aS (aR ?_)
  all_goals refine oC (oM rfl (Conv.of rfl) rfl) ?_
  all_goals refine oC (oM rfl (Conv.of rfl) rfl) ?_
  all_goals refine oC (oL fb15 (.cons rfl (Conv.of rfl) (.cons rfl (Conv.of rfl) (.nil _))) (iLinesRun_ct bad text) (aK rfl rfl (aK rfl rfl aK0)) rfl rfl) ?_
  all_goals refine oC (oA rfl (Conv.of rfl) rfl) ?_
  all_goals refine oN ?_
  refine aS (aST (s' := mkSt 90 [(1, .v more), (5, .v bad), (6, .v (bs text)), (7, .v (bs (linesF bad text))), (44, .v (decide (580 < text.length) || !within bad 0 4))] []) ?_ ?_)
  · all_goals refine aR ?_
    all_goals refine oC (oM rfl (Conv.of rfl) rfl) ?_
    all_goals refine oC (oM rfl (Conv.of rfl) rfl) ?_
    all_goals refine oC (oM rfl (Conv.of rfl) rfl) ?_
    all_goals refine oC (oL fb16 (.cons rfl (Conv.of rfl) (.cons rfl (Conv.of rfl) (.nil _))) (sLinesRun_ct bad text) (aK rfl rfl (aK rfl rfl aK0)) rfl rfl) ?_
    all_goals refine oC (op_neqs rfl rfl rfl) ?_
    all_goals refine oC (oM rfl (Conv.of rfl) rfl) ?_
    all_goals refine g_split (t := 32) rfl (fun h => ?_) (fun h => ?_)
    all_goals first | refine oC (gF rfl rfl rfl rfl rfl) ?_ | refine oC (gN rfl rfl rfl (oM rfl (Conv.of rfl) rfl)) ?_
    all_goals first | refine oC (gF rfl rfl rfl rfl rfl) ?_ | refine oC (gN rfl rfl rfl (op_lens un9 rfl rfl)) ?_
    all_goals first | refine oC (gF rfl rfl rfl rfl rfl) ?_ | refine oC (gN rfl rfl rfl (op_gtr rfl rfl rfl)) ?_
    all_goals refine oC (oQ rfl rfl rfl rfl) ?_
    all_goals refine oC (oM rfl (Conv.of rfl) rfl) ?_
    all_goals first | refine g_lit (t := 37) (b := true) rfl ?_ | refine g_split (t := 37) rfl (fun h => ?_) (fun h => ?_)
    all_goals first | refine oC (gF rfl rfl rfl rfl rfl) ?_ | refine oC (gN rfl rfl rfl (oM rfl (Conv.of rfl) rfl)) ?_
    all_goals first | refine oC (gF rfl rfl rfl rfl rfl) ?_ | refine oC (gN rfl rfl rfl (oLt rfl rfl rfl)) ?_
    all_goals refine oC (oQ rfl rfl rfl rfl) ?_
    all_goals refine oC (oM rfl (Conv.of rfl) rfl) ?_
    all_goals first | refine g_lit (t := 41) (b := true) rfl ?_ | refine g_split (t := 41) rfl (fun h => ?_) (fun h => ?_)
    all_goals first | refine oC (gF rfl rfl rfl rfl rfl) ?_ | refine oC (gN rfl rfl rfl (oM rfl (Conv.of rfl) rfl)) ?_
    all_goals first | refine oC (gF rfl rfl rfl rfl rfl) ?_ | refine oC (gN rfl rfl rfl (op_gtr rfl rfl rfl)) ?_
    all_goals refine oC (oQ rfl rfl rfl rfl) ?_
    all_goals refine oN ?_
    all_goals exact Le.mk rfl (tle rfl (rfl) rfl (tle rfl (rfl) rfl (tle rfl (rfl) rfl (tle rfl (rfl) rfl (tle rfl (by (have e1 : ∀ y : Int, Enc.dis y = y := fun _ => rfl; have e2 : ∀ y : Bool, Enc.dis y = y := fun _ => rfl; show AV.v _ = AV.v _; simp_all [within]; try (first | omega | (rw [Bool.eq_iff_iff]; simp <;> omega)))) rfl tln))))) oln noS
  refine aC rfl (fun h => ?_) (fun h => ?_)
  · all_goals refine aS (aR ?_)
    all_goals refine oC (oM rfl (Conv.of rfl) rfl) ?_
    all_goals refine oC (oM rfl (Conv.of rfl) rfl) ?_
    all_goals refine oC (oM rfl (Conv.of rfl) rfl) ?_
    all_goals refine oC (oL fb16 (.cons rfl (Conv.of rfl) (.cons rfl (Conv.of rfl) (.nil _))) (sLinesRun_ct bad text) (aK rfl rfl (aK rfl rfl aK0)) rfl rfl) ?_
    all_goals refine oC (op_eqls rfl rfl rfl) ?_
    all_goals refine oC (oA rfl (Conv.of rfl) rfl) ?_
    all_goals refine oN ?_
    refine aT ?_
    repeat first | refine rS ?_ | refine rB ?_
    exact finP (.v rfl (Conv.of rfl)) rfl (by show AV.v _ = AV.v _; simp)
  have hb : text.length ≤ 580 ∧ within bad 0 4 = true := by
    simp only [Bool.or_eq_false_iff, Bool.not_eq_false', decide_eq_false_iff_not] at h
    exact ⟨by omega, h.2⟩
  have hwt := quiet_what hb.2 ht hb.1
  have hse := quiet_see hb.2 ht hb.1
  have hlg := quiet_log hb.2 ht hb.1
  have hm : 0 ≤ (more.length : Int).tmod 4 ∧ (more.length : Int).tmod 4 < 4 := tmod_bd (show (0 : Int) ≤ (more.length : Int) by omega) (show (0 : Int) < 4 by decide)
  have hl1 := lines_len bad text
  have hl2 := lines_len bad (text ++ [119, 104, 97, 116, 10])
  refine aW ?_
  all_goals refine aS (aR ?_)
  all_goals refine oC (oM rfl (Conv.of rfl) rfl) ?_
  all_goals refine oC (oM rfl (Conv.of rfl) rfl) ?_
  all_goals refine oC (op_adds rfl rfl rfl (by (simp; omega))) ?_
  all_goals refine oC (oL fb15 (.cons rfl (Conv.of rfl) (.cons rfl (Conv.of rfl) (.nil _))) (iLinesRun_ct bad (text ++ [119, 104, 97, 116, 10])) (aK rfl rfl (aK rfl rfl aK0)) rfl rfl) ?_
  all_goals refine oC (oA rfl (Conv.of rfl) rfl) ?_
  all_goals refine oN ?_
  refine aST (s' := mkSt 90 [(5, .v bad), (6, .v (bs text)), (7, .v (bs (linesF bad text))), (8, .v (bs (linesF bad (text ++ [119, 104, 97, 116, 10])))), (9, .v (1 + (more.length : Int).tmod 4))] []) ?_ ?_
  · all_goals refine aR ?_
    all_goals refine oC (oM rfl (Conv.of rfl) rfl) ?_
    all_goals refine oC (oE sl22 rfl rfl) ?_
    all_goals refine oC (op_rem rfl rfl rfl (by decide)) ?_
    all_goals refine oC (oP rfl rfl rfl (by omega)) ?_
    all_goals refine oC (oA rfl (Conv.of rfl) rfl) ?_
    all_goals refine oN ?_
    all_goals exact Le.mk rfl (tle rfl (rfl) rfl (tle rfl (rfl) rfl (tle rfl (rfl) rfl (tle rfl (rfl) rfl (tle rfl (rfl) rfl tln))))) oln noS
  generalize (more.length : Int).tmod 4 = q at hm ⊢
  obtain ⟨d, hd, hx⟩ : ∃ d : UInt8, d ∈ ([49, 50, 51, 52] : List UInt8) ∧ ([bs [49], bs [50], bs [51], bs [52]] : List ByteArray)[(1 + q - 1).toNat]? = some (bs [d]) := by
    have : q = 0 ∨ q = 1 ∨ q = 2 ∨ q = 3 := by omega
    rcases this with e | e | e | e <;> subst e
    · exact ⟨49, by simp, rfl⟩
    · exact ⟨50, by simp, rfl⟩
    · exact ⟨51, by simp, rfl⟩
    · exact ⟨52, by simp, rfl⟩
  have hsd := hse d hd
  have hl3 := lines_len bad (text ++ [115, 101, 101, 32] ++ [d] ++ [10, 119, 104, 97, 116, 10])
  all_goals refine aS (aR ?_)
  all_goals refine oC (oM rfl (Conv.of rfl) rfl) ?_
  all_goals refine oC (oM rfl (Conv.of rfl) rfl) ?_
  all_goals refine oC (op_adds rfl rfl rfl (by (simp; omega))) ?_
  all_goals refine oC (op_bsl sl29 z9 (.cons rfl (Conv.of rfl) (.cons rfl (Conv.of rfl) (.cons rfl (Conv.of rfl) (.cons rfl (Conv.of rfl) (.nil _))))) rfl (by decide) rfl) ?_
  all_goals refine oC (oM rfl (Conv.of rfl) rfl) ?_
  all_goals refine oC (op_sub rfl rfl rfl (by omega)) ?_
  all_goals refine oC (op_ix sl29 rfl rfl rfl (by omega) hx) ?_
  all_goals refine oC (oDR ty9 rfl rfl) ?_
  all_goals refine oC (op_adds rfl rfl rfl (by (simp; omega))) ?_
  all_goals refine oC (op_adds rfl rfl rfl (by (simp; omega))) ?_
  all_goals refine oC (oL fb15 (.cons rfl (Conv.of rfl) (.cons rfl (Conv.of rfl) (.nil _))) (iLinesRun_ct bad (text ++ [115, 101, 101, 32] ++ [d] ++ [10, 119, 104, 97, 116, 10])) (aK rfl rfl (aK rfl rfl aK0)) rfl rfl) ?_
  all_goals refine oC (oA rfl (Conv.of rfl) rfl) ?_
  all_goals refine oN ?_
  refine aST (s' := mkSt 90 [(4, .v true)] []) ?_ ?_
  · all_goals refine aR ?_
    all_goals refine oC (oM rfl (Conv.of rfl) rfl) ?_
    all_goals refine oC (op_lens un9 rfl rfl) ?_
    all_goals refine oC (oM rfl (Conv.of rfl) rfl) ?_
    all_goals refine oC (op_lens un9 rfl rfl) ?_
    all_goals refine oC (oP rfl rfl rfl (by omega)) ?_
    all_goals refine oC (op_eql rfl rfl rfl) ?_
    all_goals refine oC (oM rfl (Conv.of rfl) rfl) ?_
    all_goals refine g_split (t := 75) rfl (fun h => ?_) (fun h => ?_)
    all_goals first | refine oC (gF rfl rfl rfl rfl rfl) ?_ | refine oC (gN rfl rfl rfl (oM rfl (Conv.of rfl) rfl)) ?_
    all_goals first | refine oC (gF rfl rfl rfl rfl rfl) ?_ | refine oC (gN rfl rfl rfl (op_lens un9 rfl rfl)) ?_
    all_goals first | refine oC (gF rfl rfl rfl rfl rfl) ?_ | refine oC (gN rfl rfl rfl (oM rfl (Conv.of rfl) rfl)) ?_
    all_goals first | refine oC (gF rfl rfl rfl rfl rfl) ?_ | refine oC (gN rfl rfl rfl (op_lens un9 rfl rfl)) ?_
    all_goals first | refine oC (gF rfl rfl rfl rfl rfl) ?_ | refine oC (gN rfl rfl rfl (op_gtr rfl rfl rfl)) ?_
    all_goals refine oC (oQ rfl rfl rfl rfl) ?_
    all_goals refine oC (oM rfl (Conv.of rfl) rfl) ?_
    all_goals first | refine g_lit (t := 82) (b := false) rfl ?_ | refine g_split (t := 82) rfl (fun h => ?_) (fun h => ?_)
    all_goals first | refine oC (gF rfl rfl rfl rfl rfl) ?_ | refine oC (gN rfl rfl rfl (oM rfl (Conv.of rfl) rfl)) ?_
    all_goals first | refine oC (gF rfl rfl rfl rfl rfl) ?_ | refine oC (gN rfl rfl rfl (oM rfl (Conv.of rfl) rfl)) ?_
    all_goals first | refine oC (gF rfl rfl rfl rfl rfl) ?_ | refine oC (gN rfl rfl rfl (op_adds rfl rfl rfl (by (simp; omega)))) ?_
    all_goals first | refine oC (gF rfl rfl rfl rfl rfl) ?_ | refine oC (gN rfl rfl rfl (oL fb15 (.cons rfl (Conv.of rfl) (.cons rfl (Conv.of rfl) (.nil _))) (iLinesRun_ct bad (text ++ [108, 111, 103, 10, 108, 111, 103, 10])) (aK rfl rfl (aK rfl rfl aK0)) rfl rfl)) ?_
    all_goals first | refine oC (gF rfl rfl rfl rfl rfl) ?_ | refine oC (gN rfl rfl rfl (oM rfl (Conv.of rfl) rfl)) ?_
    all_goals first | refine oC (gF rfl rfl rfl rfl rfl) ?_ | refine oC (gN rfl rfl rfl (op_neqs rfl rfl rfl)) ?_
    all_goals refine oC (oQ rfl rfl rfl rfl) ?_
    all_goals refine oC (oA rfl (Conv.of rfl) rfl) ?_
    all_goals refine oN ?_
    all_goals exact Le.mk rfl (tle rfl (by (have e2 : ∀ y : Bool, Enc.dis y = y := fun _ => rfl; show AV.v _ = AV.v _; simp_all; try omega)) rfl tln) oln noS
  refine aT ?_
  repeat first | refine rS ?_ | refine rB ?_
  exact finP (.v rfl (Conv.of rfl)) rfl rfl
end Go.Proofs.YtgfoeiieopnlaaaGreatDoor

/- The law FnLinesQuiet returns true at every input, and leaves its arguments as they were; the listed tables of the library are tied to the text. No other condition. -/
set_option linter.unusedVariables false
namespace Go.Proofs.YtgfoeiieopnlaaaGreatDoor.fnLinesQuiet
open Go Go.ChangeShapes Go.WideShapes Go.ChangeAt Go.RowKit
theorem own : ownKnob Tryz.prog.godebug = none := by kernel_rfl
theorem laidOut : laidOutB Tryz.prog = true := by kernel_rfl
set_option maxRecDepth 100000 in
theorem lifted (os : Os) (started : os.Started) (H : Type) (enc : TypeId × Value → H) :
    ReturnsInHanded {} Tryz.checked os 12 .any (fun w args => (Rows.fnLinesQuietSpec.pre enc Tryz.prog Tryz.f12 Rows.fnLinesQuietRow.domain false w args ∧ laidMetH Tryz.prog Rows.fnLinesQuietRow.laid w) ∧ sizedMet enc Tryz.prog Tryz.f12 (OpenSpec.ofChange Rows.fnLinesQuietSpec) false w args) (Rows.fnLinesQuietSpec.post enc Tryz.prog Tryz.f12 false true false false) := by
  refine returnsInHanded_of_change_and (C := Tryz.checked) (X := fun w _ => laidMetH Tryz.prog Rows.fnLinesQuietRow.laid w) (fun _ _ _ hh h => h.of_heap hh) own started (by kernel_rfl) Tryz.func12
    (ChangeSpec.witness_shaped (enc := enc) (C := Tryz.checked) (os := os) (X := fun w _ => laidMetH Tryz.prog Rows.fnLinesQuietRow.laid w) false (World.laidAll Tryz.prog os Rows.fnLinesQuietRow.laid) #[.slice none 0 0, .slice none 0 0] 8 (World.laidAll_os _ _ _)
      (World.shaped_of_ZipB (by kernel_rfl) (by kernel_rfl)) (by kernel_rfl) (by kernel_rfl) (by kernel_rfl)
      (by rw [MakeChecks.laidMetH_plain _ _ _ (by kernel_rfl)]; exact laidMet_laidAll _ (by kernel_rfl) (by kernel_rfl))) ?_
  intro W base args ds gs before hval0 hW hcnd hsz0 hL _
  have hsz : (DataW.weightsEach Tryz.prog (Tryz.f12.params.toList ++ Rows.fnLinesQuietSpec.plain.varTypes Tryz.prog) (ds ++ gs)).all (· ≤ reachBytes) = true := hsz0
  have hval : ∀ (j : Nat) t v, Tryz.f12.params[j]? = some t → args[j]? = some v → Value.okWide Tryz.prog W .any base t v := hval0
  have hW' := hW
  obtain ⟨p, q, hA0, hV, rfl, hfz, hnd⟩ := hW
  have hA : DataW.TrodAll enc Tryz.prog W 0 (fun _ => true) true Tryz.f12.params.toList args.toList ds p := hA0
  rw [Tryz.params12] at hA hval hsz
  obtain ⟨v0, vs0, d0, ds0, p0, q0, hargs, rfl, rfl, h0, r0⟩ := trodAll_cons hA
  obtain ⟨v1, vs1, d1, ds1, p1, q1, rfl, rfl, rfl, h1, r1⟩ := trodAll_cons r0
  obtain ⟨rfl, rfl, rfl⟩ := trodAll_nil r1
  obtain rfl : args = #[v0, v1] := by cases args; simp_all
  obtain ⟨rfl, rfl⟩ := trodVars_none hV
  obtain ⟨a0, len0, cap0, rfl⟩ := okWide_slice Tryz.underlying22 (hval 0 22 v0 rfl rfl)
  have k0 := h0
  have lt0 : ∀ x ∈ p0, x.block < W.heap.size := by obtain ⟨m, hm⟩ := k0; exact DataW.trod_lt m _ _ _ hm
  obtain ⟨z0, w0⟩ := Go.Wt.rowOf (fun _ => rfl) Tryz.underlying22 Tryz.underlying5 (by kernel_rfl) h0
  have y0 := Go.Wt.lenOf hsz (j := 0) (t := 22) rfl rfl Tryz.underlying22 Tryz.underlying5 (by kernel_rfl) (by kernel_rfl) h0
  obtain ⟨a1, len1, cap1, rfl⟩ := okWide_slice Tryz.underlying22 (hval 1 22 v1 rfl rfl)
  have k1 := h1
  have lt1 : ∀ x ∈ p1, x.block < W.heap.size := by obtain ⟨m, hm⟩ := k1; exact DataW.trod_lt m _ _ _ hm
  obtain ⟨z1, w1⟩ := Go.Wt.rowOf (fun _ => rfl) Tryz.underlying22 Tryz.underlying5 (by kernel_rfl) h1
  have y1 := Go.Wt.lenOf hsz (j := 1) (t := 22) rfl rfl Tryz.underlying22 Tryz.underlying5 (by kernel_rfl) (by kernel_rfl) h1
  clear hA0 hval0 hsz0 hsz
  refine (Go.Wt.row2 FnLinesQuiet_ct W w0 y0 w1 y1).mono fun e W' ⟨he, bel⟩ => ?_
  subst he
  exact ⟨_, rfl, _, _, _, [], _, [], hW', trodAll_mk1 (shut_bool Tryz.underlying4 _), (trodAll_cons_mk (Below.trod laidOut (by kernel_rfl) (of_decide_eq_true (by kernel_rfl)) k0 bel lt0) (trodAll_cons_mk (Below.trod laidOut (by kernel_rfl) (of_decide_eq_true (by kernel_rfl)) k1 bel lt1) trodAll_mk0)), rfl, bel.frame _, fun h => by cases h⟩
theorem over : Rows.fnLinesQuietRow.holds Tryz.pinned (OpenSpec.ofChange Rows.fnLinesQuietSpec) :=
  OpenClaim.holds_of_wide 12 Tryz.f12 rfl rfl rfl rfl rfl rfl rfl ⟨rfl, rfl, rfl, rfl, rfl⟩ rfl rfl rfl rfl rfl (by kernel_rfl) Tryz.func12 (by kernel_rfl)
    (of_decide_eq_true (by kernel_rfl)) (by unfold Func.isWrapper; first | (rw [if_pos (by decide +kernel)]; kernel_rfl) | (rw [if_neg (by decide +kernel)]; exact ⟨rfl, rfl⟩))
    (fun os started H enc _ => lifted os started H enc)
theorem carded : Claim7.holds Tryz.pinned (.plain (OpenSpec.ofChange Rows.fnLinesQuietSpec)) Rows.fnLinesQuietCard :=
  Claim7.holds_tied_plain_at .later [] [.data, .data, .data, .data, .pinned] true (true, "3caafbc682674527d5246ae05796ab03dc03f22812cf3ed62f1f6f8091b60743") false over (fun _ h => by cases h) (by kernel_rfl) (fun _ h => by cases h) fnLinesQuiet_row_tie rfl ⟨rfl, rfl⟩ (by kernel_rfl) rfl
    (fun f fn hf hfn => by
      obtain rfl : f = 12 := Option.some.inj ((show Tryz.prog.funcNamed "loop.example/witan/laws.FnLinesQuiet" = some 12 by kernel_rfl).symm.trans hf) |>.symm
      obtain rfl : fn = Tryz.f12 := (Option.some.inj (Tryz.func12.symm.trans hfn)).symm
      exact ⟨by kernel_rfl, fun j t ht => by
        rw [Tryz.params12] at ht
        have hm : t ∈ [22] := by simpa using Array.mem_of_getElem? ht
        have hall : ([22].all fun u => !Tryz.prog.wantsStandIn u) = true := by kernel_rfl
        exact (show Tryz.prog.wantsStandIn t = false by simpa using List.all_eq_true.1 hall t hm)⟩)
    (by kernel_rfl)
end Go.Proofs.YtgfoeiieopnlaaaGreatDoor.fnLinesQuiet
namespace Go.Proofs.YtgfoeiieopnlaaaGreatDoor
theorem fnLinesQuiet_holds : Rows.FnLinesQuietCardSaid := fnLinesQuiet.carded
#print axioms fnLinesQuiet_holds
end Go.Proofs.YtgfoeiieopnlaaaGreatDoor
