/- The law FnWorldIdle returns true at every input, and leaves its arguments as they were. No condition. -/
import Derived.Test.YtmdhfalfppkpeaaGreatM5
import Derived.Test.YtmdhfalfppkpeaaGreatRows
import Derived.WalkKit
import Derived.ProofKit
import Derived.OpenShut
import Derived.ShutString
import Derived.ChangeOld
import Derived.Below
import Derived.SizedLaws
import Derived.KernelRfl
/- A law: what cannot be changes nothing. -/
set_option linter.unusedVariables false
set_option linter.unusedSimpArgs false
namespace Go.Proofs.YtmdhfalfppkpeaaGreat
open Go Go.Wt
set_option maxHeartbeats 4000000 in
theorem FnWorldIdle_ct (code : List UInt8) : CtP Tryz.prog 11 [.v code] (.v true) := by
  refine Ct.intro Tryz.func11 rfl rfl ?_
  all_goals refine awp_seq (awp_region (id := 0) ?_)
  all_goals refine awpOps_cons (op_as rfl (Conv.of rfl) rfl) ?_
  all_goals refine awpOps_nil ?_
  all_goals refine awp_seq (awp_seq (awp_region (id := 1) ?_))
  all_goals refine awpOps_cons (op_mv rfl (Conv.of rfl) rfl) ?_
  all_goals refine awpOps_cons (op_len sl22 rfl rfl) ?_
  all_goals refine awpOps_cons (op_gtr rfl rfl rfl) ?_
  all_goals refine awpOps_nil ?_
  refine awp_cond rfl (fun h => ?_) (fun h => ?_)
  · all_goals refine awp_seq (awp_region (id := 2) ?_)
    all_goals refine awpOps_cons (op_as rfl (Conv.of rfl) rfl) ?_
    all_goals refine awpOps_nil ?_
    refine awp_ret ?_
    repeat first | refine rt_seq ?_ | refine rt_block ?_
    exact finP (.v rfl (Conv.of rfl)) rfl rfl
  refine awp_skip ?_
  all_goals refine awp_seq (awp_region (id := 3) ?_)
  all_goals refine awpOps_cons (op_mv rfl (Conv.of rfl) rfl) ?_
  refine awpOps_callE (ι := Wrld × Evt) [] (fun i => .tup [.v i.1, .v i.2]) (fun _ => []) (fun _ => True) rfl fb46 (.cons rfl (Conv.of rfl) (.nil _)) (drawDo_ct code) (fun r h' ⟨w, e, e1, e2⟩ => ⟨(w, e), e1, e2, trivial⟩) ols0 oks0 (argOk' rfl rfl argO0) rfl (fun _ => rfl) (fun _ => oks0) (fun _ o ho => by cases ho) ?_
  rintro ⟨w, e⟩ -
  simp only
  all_goals refine awpOps_cons (op_mv rfl (Conv.of rfl) rfl) ?_
  all_goals refine awpOps_cons (op_ext rfl rfl rfl) ?_
  all_goals refine awpOps_cons (op_ext rfl rfl rfl) ?_
  all_goals refine awpOps_cons (op_alloc (o := 0) z29 rfl rfl) ?_
  all_goals refine awpOps_cons (op_alloc (o := 1) z78 rfl rfl) ?_
  all_goals refine awpOps_cons (op_st ty29 rfl rfl (Conv.of rfl) rfl) ?_
  all_goals refine awpOps_cons (op_st ty78 rfl rfl (Conv.of rfl) rfl) ?_
  all_goals refine awpOps_nil ?_
  all_goals refine awp_seq (awp_region (id := 4) ?_)
  all_goals refine awpOps_cons (op_ld ty29 rfl rfl rfl) ?_
  all_goals refine awpOps_cons (op_ld ty78 rfl rfl rfl) ?_
  all_goals refine awpOps_cons (op_call fb47 (.cons rfl (Conv.of rfl) (.cons rfl (Conv.of rfl) (.nil _))) (worldDo_ct w e) (argOk rfl rfl (argOk rfl rfl argOk0)) rfl rfl) ?_
  all_goals refine awpOps_cons (op_alloc (o := 2) z29 rfl rfl) ?_
  all_goals refine awpOps_cons (op_st ty29 rfl rfl (Conv.of rfl) rfl) ?_
  all_goals refine awpOps_nil ?_
  refine awp_seq (awp_seq_to (s' := mkSt 96 [(3, .box 0 (IsLens.whole Wrld)), (4, .box 1 (IsLens.whole Evt)), (5, .box 2 (IsLens.whole Wrld)), (34, .v (!worldOk w))] [(0, .cell w), (1, .cell e), (2, .cell (worldDoR w e))]) ?_ ?_)
  · all_goals refine dr_start (id := 5) ?_
    all_goals refine dr_cons (op_ld ty29 rfl rfl rfl) ?_
    all_goals refine dr_cons (op_ld ty29 rfl rfl rfl) ?_
    all_goals refine dr_cons (op_ld ty78 rfl rfl rfl) ?_
    all_goals refine dr_cons (op_call fb48 (.cons rfl (Conv.of rfl) (.cons rfl (Conv.of rfl) (.nil _))) (sWorldDo_ct w e) (argOk rfl rfl (argOk rfl rfl argOk0)) rfl rfl) ?_
    all_goals refine dr_cons (op_call fb18 (.cons rfl (Conv.of rfl) (.cons rfl (Conv.of rfl) (.nil _))) (lwWorld_ct _ _) (argOk rfl rfl (argOk rfl rfl argOk0)) rfl rfl) ?_
    all_goals refine dr_cons (op_not rfl rfl) ?_
    all_goals refine dr_cons (op_mv rfl (Conv.of rfl) rfl) ?_
    all_goals refine dr_split (t := 30) rfl (fun h => ?_) (fun h => ?_)
    all_goals first | refine dr_cons (g_off rfl rfl rfl rfl rfl) ?_ | refine dr_cons (g_on rfl rfl rfl (op_ld ty29 rfl rfl rfl)) ?_
    all_goals first | refine dr_cons (g_off rfl rfl rfl rfl rfl) ?_ | refine dr_cons (g_on rfl rfl rfl (op_call fb29 (.cons rfl (Conv.of rfl) (.nil _)) (sWorldOk_ct _) (argOk rfl rfl argOk0) rfl rfl)) ?_
    all_goals first | refine dr_cons (g_off rfl rfl rfl rfl rfl) ?_ | refine dr_cons (g_on rfl rfl rfl (op_not rfl rfl)) ?_
    all_goals refine dr_cons (op_pick rfl rfl rfl rfl) ?_
    all_goals refine dr_nil mixed rfl ?_
    all_goals exact Le.mk rfl (tlb rfl rfl rfl (tlb rfl rfl rfl (tlb rfl rfl rfl (tle rfl (by first | rfl | (have e1 : ∀ b : Bool, Enc.dis b = b := fun _ => rfl; have e2 : ∀ y : Wrld, Enc.dis y = y := fun _ => rfl; have e3 : ∀ y : Evt, Enc.dis y = y := fun _ => rfl; show AV.v _ = AV.v _; simp_all; try (rw [Bool.eq_iff_iff]; simp))) rfl tln)))) (olk rfl (by exact obOk_cell) (olk rfl (by exact obOk_cell) (olk rfl (by exact obOk_cell) oln))) noS
  refine awp_cond rfl (fun h => ?_) (fun h => ?_)
  · all_goals refine awp_seq (dr_start (id := 6) ?_)
    all_goals refine dr_cons (op_ld ty29 rfl rfl rfl) ?_
    all_goals refine dr_cons (op_ld ty29 rfl rfl rfl) ?_
    all_goals refine dr_cons (op_ld ty78 rfl rfl rfl) ?_
    all_goals refine dr_cons (op_call fb48 (.cons rfl (Conv.of rfl) (.cons rfl (Conv.of rfl) (.nil _))) (sWorldDo_ct w e) (argOk rfl rfl (argOk rfl rfl argOk0)) rfl rfl) ?_
    all_goals refine dr_cons (op_call fb18 (.cons rfl (Conv.of rfl) (.cons rfl (Conv.of rfl) (.nil _))) (lwWorld_ct _ _) (argOk rfl rfl (argOk rfl rfl argOk0)) rfl rfl) ?_
    all_goals refine dr_cons (op_as rfl (Conv.of rfl) rfl) ?_
    all_goals refine dr_nil mixed rfl ?_
    all_goals refine awp_ret ?_
    all_goals refine finP (.v rfl (Conv.of rfl)) rfl ?_
    all_goals simp_all [FV.av]
  have hwo : worldOk w = true := not_f h
  have hW := worldOk_iff.1 hwo
  have hdo : ∀ e2 : Evt, worldDoR w e2 = doF w e2 := fun e2 => by unfold worldDoR; rw [if_pos hwo]
  refine awp_skip ?_
  have h4 := hW.fx.four
  have hll := hW.fx.ll
  have hep := hW.fx.ep
  have hbd : 0 ≤ w.bad ∧ w.bad ≤ 4 := by simpa [within] using hW.bad
  have hm4 := tmod_bd hbd.1 (show (0 : Int) < 4 by omega)
  have d1 : doF w ⟨5, 0, 0, .zero, .zero⟩ = w := by simp [doF]
  have d2 : doF w ⟨3, (w.log.length : Int), 1, .zero, .zero⟩ = w := by
    simp only [doF, wbringF]
    rw [if_neg (by decide), if_neg (by decide), if_pos (by decide), if_neg]
    simp [within]; omega
  have d3 : ∀ p, doF w ⟨2, w.bad, 0, p, .zero⟩ = w := fun p => by
    simp only [doF, wproposeF]
    rw [if_neg (by decide), if_pos (by decide), if_neg]
    simp [honestB]
  have d4 : ∀ v : Vote, v.by_ ≠ w.bad → doF w ⟨4, 0, 0, .zero, v⟩ = w := fun v hv => by
    simp only [doF]
    rw [if_neg (by decide), if_neg (by decide), if_neg (by decide), if_pos (by decide), if_neg]
    simp [hv]
  have d5 : doF w ⟨3, 0, w.bad, .zero, .zero⟩ = w := by
    simp only [doF, wbringF]
    rw [if_neg (by decide), if_neg (by decide), if_pos (by decide), if_neg]
    simp [honestB]
  have k1 := worldDo_ct w ⟨5, 0, 0, .zero, .zero⟩
  have k2 := worldDo_ct w ⟨3, (w.log.length : Int), 1, .zero, .zero⟩
  have k3 := worldDo_ct w ⟨2, w.bad, 0, ⟨1, 2, 1⟩, .zero⟩
  have k4 := worldDo_ct w ⟨4, 0, 0, .zero, ⟨w.bad.tmod 4 + 1, [⟨1, ⟨1, 2, 1⟩⟩]⟩⟩
  have k5 := worldDo_ct w ⟨3, 0, w.bad, .zero, .zero⟩
  rw [hdo, d1] at k1
  rw [hdo, d2] at k2
  rw [hdo, d3] at k3
  have hne : w.bad.tmod 4 + 1 ≠ w.bad := by
    have : w.bad = 0 ∨ w.bad = 1 ∨ w.bad = 2 ∨ w.bad = 3 ∨ w.bad = 4 := by omega
    rcases this with q | q | q | q | q <;> rw [q] <;> decide
  rw [hdo, d4 _ hne] at k4
  rw [hdo, d5] at k5
  have kw := lwWorld_ct w w
  rw [show decide (w = w) = true from decide_eq_true rfl] at kw
  all_goals refine awp_seq (awp_region (id := 7) ?_)
  all_goals refine awpOps_cons (op_build (.cons f58_0 rfl (Conv.of rfl) (.cons f58_1 rfl (Conv.of rfl) (.cons f58_2 rfl (Conv.of rfl) (.nil _)))) z58 rfl pl58 rfl) ?_
  all_goals refine awpOps_cons (op_alloc (o := 3) z58 rfl rfl) ?_
  all_goals refine awpOps_cons (op_st ty58 rfl rfl (Conv.of rfl) rfl) ?_
  all_goals refine awpOps_nil ?_
  all_goals refine awp_seq (awp_region (id := 8) ?_)
  all_goals refine awpOps_cons (op_fab f29_3 rfl rfl) ?_
  all_goals refine awpOps_cons (op_ld ty3 rfl rfl rfl) ?_
  all_goals refine awpOps_cons (op_rem rfl rfl rfl (by decide)) ?_
  all_goals refine awpOps_cons (op_add rfl rfl rfl (by omega)) ?_
  all_goals refine awpOps_cons (op_as rfl (Conv.of rfl) rfl) ?_
  all_goals refine awpOps_nil ?_
  all_goals refine awp_seq (awp_region (id := 9) ?_)
  all_goals refine awpOps_cons (op_ld ty29 rfl rfl rfl) ?_
  all_goals refine awpOps_cons (op_build (.cons f78_0 rfl (Conv.of rfl) (.nil _)) z78 rfl pl78 rfl) ?_
  all_goals refine awpOps_cons (op_call fb47 (.cons rfl (Conv.of rfl) (.cons rfl (Conv.of rfl) (.nil _))) (k1) (argOk rfl rfl (argOk rfl rfl argOk0)) rfl rfl) ?_
  all_goals refine awpOps_cons (op_alloc (o := 4) z29 rfl rfl) ?_
  all_goals refine awpOps_cons (op_st ty29 rfl rfl (Conv.of rfl) rfl) ?_
  all_goals refine awpOps_nil ?_
  all_goals refine awp_seq (awp_region (id := 10) ?_)
  all_goals refine awpOps_cons (op_ld ty29 rfl rfl rfl) ?_
  all_goals refine awpOps_cons (op_fab f29_2 rfl rfl) ?_
  all_goals refine awpOps_cons (op_ld ty27 rfl rfl rfl) ?_
  all_goals refine awpOps_cons (op_len sl27 rfl rfl) ?_
  all_goals refine awpOps_cons (op_build (.cons f78_0 rfl (Conv.of rfl) (.cons f78_1 rfl (Conv.of rfl) (.cons f78_2 rfl (Conv.of rfl) (.nil _)))) z78 rfl pl78 rfl) ?_
  all_goals refine awpOps_cons (op_call fb47 (.cons rfl (Conv.of rfl) (.cons rfl (Conv.of rfl) (.nil _))) (k2) (argOk rfl rfl (argOk rfl rfl argOk0)) rfl rfl) ?_
  all_goals refine awpOps_cons (op_alloc (o := 5) z29 rfl rfl) ?_
  all_goals refine awpOps_cons (op_st ty29 rfl rfl (Conv.of rfl) rfl) ?_
  all_goals refine awpOps_nil ?_
  all_goals refine awp_seq (awp_region (id := 11) ?_)
  all_goals refine awpOps_cons (op_ld ty29 rfl rfl rfl) ?_
  all_goals refine awpOps_cons (op_fab f29_3 rfl rfl) ?_
  all_goals refine awpOps_cons (op_ld ty3 rfl rfl rfl) ?_
  all_goals refine awpOps_cons (op_ld ty58 rfl rfl rfl) ?_
  all_goals refine awpOps_cons (op_build (.cons f78_0 rfl (Conv.of rfl) (.cons f78_1 rfl (Conv.of rfl) (.cons f78_3 rfl (Conv.of rfl) (.nil _)))) z78 rfl pl78 rfl) ?_
  all_goals refine awpOps_cons (op_call fb47 (.cons rfl (Conv.of rfl) (.cons rfl (Conv.of rfl) (.nil _))) (k3) (argOk rfl rfl (argOk rfl rfl argOk0)) rfl rfl) ?_
  all_goals refine awpOps_cons (op_alloc (o := 6) z29 rfl rfl) ?_
  all_goals refine awpOps_cons (op_st ty29 rfl rfl (Conv.of rfl) rfl) ?_
  all_goals refine awpOps_nil ?_
  all_goals refine awp_seq (awp_region (id := 12) ?_)
  all_goals refine awpOps_cons (op_ld ty29 rfl rfl rfl) ?_
  all_goals refine awpOps_cons (op_mv rfl (Conv.of rfl) rfl) ?_
  all_goals refine awpOps_cons (op_ld ty58 rfl rfl rfl) ?_
  all_goals refine awpOps_cons (op_build (.cons f60_0 rfl (Conv.of rfl) (.cons f60_1 rfl (Conv.of rfl) (.nil _))) z60 rfl pl60 rfl) ?_
  all_goals refine awpOps_cons (op_bsl sl34 z60 (.cons rfl (Conv.of rfl) (.nil _)) rfl (by decide) rfl) ?_
  all_goals refine awpOps_cons (op_build (.cons f48_0 rfl (Conv.of rfl) (.cons f48_1 rfl (Conv.ol) (.nil _))) z48 rfl pl48 rfl) ?_
  all_goals refine awpOps_cons (op_build (.cons f78_0 rfl (Conv.of rfl) (.cons f78_4 rfl (Conv.of rfl) (.nil _))) z78 rfl pl78 rfl) ?_
  all_goals refine awpOps_cons (op_call fb47 (.cons rfl (Conv.of rfl) (.cons rfl (Conv.of rfl) (.nil _))) (k4) (argOk rfl rfl (argOk rfl rfl argOk0)) rfl rfl) ?_
  all_goals refine awpOps_cons (op_alloc (o := 7) z29 rfl rfl) ?_
  all_goals refine awpOps_cons (op_st ty29 rfl rfl (Conv.of rfl) rfl) ?_
  all_goals refine awpOps_nil ?_
  all_goals refine awp_seq (awp_region (id := 13) ?_)
  all_goals refine awpOps_cons (op_ld ty29 rfl rfl rfl) ?_
  all_goals refine awpOps_cons (op_fab f29_3 rfl rfl) ?_
  all_goals refine awpOps_cons (op_ld ty3 rfl rfl rfl) ?_
  all_goals refine awpOps_cons (op_build (.cons f78_0 rfl (Conv.of rfl) (.cons f78_1 rfl (Conv.of rfl) (.cons f78_2 rfl (Conv.of rfl) (.nil _)))) z78 rfl pl78 rfl) ?_
  all_goals refine awpOps_cons (op_call fb47 (.cons rfl (Conv.of rfl) (.cons rfl (Conv.of rfl) (.nil _))) (k5) (argOk rfl rfl (argOk rfl rfl argOk0)) rfl rfl) ?_
  all_goals refine awpOps_cons (op_alloc (o := 8) z29 rfl rfl) ?_
  all_goals refine awpOps_cons (op_st ty29 rfl rfl (Conv.of rfl) rfl) ?_
  all_goals refine awpOps_nil ?_
  all_goals refine awp_seq (awp_region (id := 14) ?_)
  all_goals refine awpOps_cons (op_ld ty29 rfl rfl rfl) ?_
  all_goals refine awpOps_cons (op_ld ty29 rfl rfl rfl) ?_
  all_goals refine awpOps_cons (op_call fb18 (.cons rfl (Conv.of rfl) (.cons rfl (Conv.of rfl) (.nil _))) (kw) (argOk rfl rfl (argOk rfl rfl argOk0)) rfl rfl) ?_
  all_goals refine awpOps_cons (op_mv rfl (Conv.of rfl) rfl) ?_
  all_goals refine g_lit (t := 76) (b := true) rfl ?_
  all_goals refine awpOps_cons (g_on rfl rfl rfl (op_ld ty29 rfl rfl rfl)) ?_
  all_goals refine awpOps_cons (g_on rfl rfl rfl (op_ld ty29 rfl rfl rfl)) ?_
  all_goals refine awpOps_cons (g_on rfl rfl rfl (op_call fb18 (.cons rfl (Conv.of rfl) (.cons rfl (Conv.of rfl) (.nil _))) (kw) (argOk rfl rfl (argOk rfl rfl argOk0)) rfl rfl)) ?_
  all_goals refine awpOps_cons (op_pick rfl rfl rfl rfl) ?_
  all_goals refine awpOps_cons (op_mv rfl (Conv.of rfl) rfl) ?_
  all_goals refine g_lit (t := 81) (b := true) rfl ?_
  all_goals refine awpOps_cons (g_on rfl rfl rfl (op_ld ty29 rfl rfl rfl)) ?_
  all_goals refine awpOps_cons (g_on rfl rfl rfl (op_ld ty29 rfl rfl rfl)) ?_
  all_goals refine awpOps_cons (g_on rfl rfl rfl (op_call fb18 (.cons rfl (Conv.of rfl) (.cons rfl (Conv.of rfl) (.nil _))) (kw) (argOk rfl rfl (argOk rfl rfl argOk0)) rfl rfl)) ?_
  all_goals refine awpOps_cons (op_pick rfl rfl rfl rfl) ?_
  all_goals refine awpOps_cons (op_mv rfl (Conv.of rfl) rfl) ?_
  all_goals refine g_lit (t := 86) (b := true) rfl ?_
  all_goals refine awpOps_cons (g_on rfl rfl rfl (op_ld ty29 rfl rfl rfl)) ?_
  all_goals refine awpOps_cons (g_on rfl rfl rfl (op_ld ty29 rfl rfl rfl)) ?_
  all_goals refine awpOps_cons (g_on rfl rfl rfl (op_call fb18 (.cons rfl (Conv.of rfl) (.cons rfl (Conv.of rfl) (.nil _))) (kw) (argOk rfl rfl (argOk rfl rfl argOk0)) rfl rfl)) ?_
  all_goals refine awpOps_cons (op_pick rfl rfl rfl rfl) ?_
  all_goals refine awpOps_cons (op_mv rfl (Conv.of rfl) rfl) ?_
  all_goals refine g_lit (t := 91) (b := true) rfl ?_
  all_goals refine awpOps_cons (g_on rfl rfl rfl (op_ld ty29 rfl rfl rfl)) ?_
  all_goals refine awpOps_cons (g_on rfl rfl rfl (op_ld ty29 rfl rfl rfl)) ?_
  all_goals refine awpOps_cons (g_on rfl rfl rfl (op_call fb18 (.cons rfl (Conv.of rfl) (.cons rfl (Conv.of rfl) (.nil _))) (kw) (argOk rfl rfl (argOk rfl rfl argOk0)) rfl rfl)) ?_
  all_goals refine awpOps_cons (op_pick rfl rfl rfl rfl) ?_
  all_goals refine awpOps_cons (op_as rfl (Conv.of rfl) rfl) ?_
  all_goals refine awpOps_nil ?_
  all_goals refine awp_ret ?_
  all_goals refine finP (.v rfl (Conv.of rfl)) rfl ?_
  all_goals simp_all [FV.av]
end Go.Proofs.YtmdhfalfppkpeaaGreat

/- The law FnWorldIdle returns true at every input, and leaves its arguments as they were. No condition. -/
set_option linter.unusedVariables false
namespace Go.Proofs.YtmdhfalfppkpeaaGreat.fnWorldIdle
open Go Go.ChangeShapes Go.WideShapes Go.ChangeAt Go.RowKit
theorem own : ownKnob Tryz.prog.godebug = none := by kernel_rfl
theorem laidOut : laidOutB Tryz.prog = true := by kernel_rfl
set_option maxRecDepth 100000 in
theorem lifted (os : Os) (started : os.Started) (H : Type) (enc : TypeId × Value → H) :
    ReturnsInHanded {} Tryz.checked os 11 .any (Rows.fnWorldIdleSpec.pre6 enc Tryz.prog Tryz.f11 Rows.fnWorldIdleRow.domain false) (Rows.fnWorldIdleSpec.post enc Tryz.prog Tryz.f11 false true false false) := by
  refine returnsInHanded_of_change_sized (C := Tryz.checked) own started (by kernel_rfl) Tryz.func11
    (ChangeSpec.witness6 (enc := enc) (C := Tryz.checked) false ⟨#[], #[.slice none 0 0], []⟩ 8 (by kernel_rfl) (by kernel_rfl) (by kernel_rfl) (by kernel_rfl)) ?_
  intro W base args ds gs before hval0 hW hcnd hsz0 _
  have hsz : (DataW.weightsEach Tryz.prog (Tryz.f11.params.toList ++ Rows.fnWorldIdleSpec.plain.varTypes Tryz.prog) (ds ++ gs)).all (· ≤ reachBytes) = true := hsz0
  have hval : ∀ (j : Nat) t v, Tryz.f11.params[j]? = some t → args[j]? = some v → Value.okWide Tryz.prog W .any base t v := hval0
  have hW' := hW
  obtain ⟨p, q, hA0, hV, rfl, hfz, hnd⟩ := hW
  have hA : DataW.TrodAll enc Tryz.prog W 0 (fun _ => true) true Tryz.f11.params.toList args.toList ds p := hA0
  rw [Tryz.params11] at hA hval hsz
  obtain ⟨v0, vs0, d0, ds0, p0, q0, hargs, rfl, rfl, h0, r0⟩ := trodAll_cons hA
  obtain ⟨rfl, rfl, rfl⟩ := trodAll_nil r0
  obtain rfl : args = #[v0] := by cases args; simp_all
  obtain ⟨rfl, rfl⟩ := trodVars_none hV
  obtain ⟨a0, len0, cap0, rfl⟩ := okWide_slice Tryz.underlying22 (hval 0 22 v0 rfl rfl)
  have k0 := h0
  have lt0 : ∀ x ∈ p0, x.block < W.heap.size := by obtain ⟨m, hm⟩ := k0; exact DataW.trod_lt m _ _ _ hm
  obtain ⟨z0, w0⟩ := Go.Wt.rowOf (fun _ => rfl) Tryz.underlying22 Tryz.underlying5 (by kernel_rfl) h0
  have y0 := Go.Wt.lenOf hsz (j := 0) (t := 22) rfl rfl Tryz.underlying22 Tryz.underlying5 (by kernel_rfl) (by kernel_rfl) h0
  clear hA0 hval0 hsz0 hsz
  refine (Go.Wt.row1 FnWorldIdle_ct W w0 y0).mono fun e W' ⟨he, bel⟩ => ?_
  subst he
  exact ⟨_, rfl, _, _, _, [], _, [], hW', trodAll_mk1 (shut_bool Tryz.underlying4 _), (trodAll_cons_mk (Below.trod laidOut (by kernel_rfl) (of_decide_eq_true (by kernel_rfl)) k0 bel lt0) trodAll_mk0), rfl, bel.frame _, fun h => by cases h⟩
theorem over : Rows.fnWorldIdleRow.holds Tryz.pinned (OpenSpec.ofChange Rows.fnWorldIdleSpec) :=
  OpenClaim.holds_of_wide 11 Tryz.f11 rfl rfl rfl rfl rfl rfl rfl ⟨rfl, rfl, rfl, rfl, rfl⟩ rfl rfl rfl rfl rfl (by kernel_rfl) Tryz.func11 (by kernel_rfl)
    (of_decide_eq_true (by kernel_rfl)) (by unfold Func.isWrapper; first | (rw [if_pos (by decide +kernel)]; kernel_rfl) | (rw [if_neg (by decide +kernel)]; exact ⟨rfl, rfl⟩))
    (fun os started H enc _ => lifted os started H enc)
end Go.Proofs.YtmdhfalfppkpeaaGreat.fnWorldIdle
namespace Go.Proofs.YtmdhfalfppkpeaaGreat
theorem fnWorldIdle_holds : Rows.FnWorldIdleSaid := fnWorldIdle.over
#print axioms fnWorldIdle_holds
end Go.Proofs.YtmdhfalfppkpeaaGreat
