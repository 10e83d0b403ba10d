/- The law FnWorldMost returns true at every input, and leaves its arguments as they were. No condition. -/
import Derived.Test.YtmdhfalfppkpeaaGreatM6
import Derived.Test.YtmdhfalfppkpeaaGreatRows
import Derived.WalkKit
import Derived.ProofKit
import Derived.OpenShut
import Derived.ShutString
import Derived.ChangeOld
import Derived.Below
import Derived.SizedLaws
import Derived.KernelRfl
/- A law: also what each node can show is agreed. -/
set_option linter.unusedVariables false
set_option linter.unusedSimpArgs false
namespace Go.Proofs.YtmdhfalfppkpeaaGreat
open Go Go.Wt
set_option maxHeartbeats 4000000 in
theorem FnWorldMost_ct (code : List UInt8) : CtP Tryz.prog 3 [.v code] (.v true) := by
  refine Ct.intro Tryz.func3 rfl rfl ?_
  all_goals first | refine awp_seq (awp_region (id := 0) ?_) | refine awp_seq (awp_seq (awp_region (id := 0) ?_)) | refine awp_region (id := 0) ?_ | refine awp_seq (awp_seq (awp_seq (awp_region (id := 0) ?_)))
  all_goals refine awpOps_cons (op_as rfl (Conv.of rfl) rfl) ?_
  all_goals refine awpOps_nil ?_
  all_goals first | refine awp_seq (awp_region (id := 1) ?_) | refine awp_seq (awp_seq (awp_region (id := 1) ?_)) | refine awp_region (id := 1) ?_ | refine awp_seq (awp_seq (awp_seq (awp_region (id := 1) ?_)))
  all_goals first | refine awpOps_cons (op_mv rfl (Conv.of rfl) rfl) ?_ | refine awpOps_cons (op_mvl rfl rfl rfl rfl) ?_ | refine awpOps_cons (op_mvo rfl rfl rfl rfl) ?_
  all_goals first | refine awpOps_cons (op_len sl22 rfl rfl) ?_ | refine awpOps_cons (op_lenA sl22 rfl rfl rfl) ?_
  all_goals refine awpOps_cons (op_gtr rfl rfl rfl) ?_
  all_goals refine awpOps_nil ?_
  first | refine awp_seq (awp_cond rfl (fun h => ?_) (fun h => ?_)) | refine awp_seq (awp_seq (awp_cond rfl (fun h => ?_) (fun h => ?_))) | refine awp_cond rfl (fun h => ?_) (fun h => ?_) | refine awp_seq (awp_seq (awp_seq (awp_cond rfl (fun h => ?_) (fun h => ?_))))
  · all_goals first | refine awp_seq (awp_region (id := 2) ?_) | refine awp_seq (awp_seq (awp_region (id := 2) ?_)) | refine awp_region (id := 2) ?_ | refine awp_seq (awp_seq (awp_seq (awp_region (id := 2) ?_)))
    all_goals refine awpOps_cons (op_as rfl (Conv.of rfl) rfl) ?_
    all_goals refine awpOps_nil ?_
    refine awp_ret ?_
    repeat first | refine rt_seq ?_ | refine rt_block ?_
    exact finP (.v rfl (Conv.of rfl)) rfl rfl
  refine awp_skip ?_
  all_goals first | refine awp_seq (awp_region (id := 3) ?_) | refine awp_seq (awp_seq (awp_region (id := 3) ?_)) | refine awp_region (id := 3) ?_ | refine awp_seq (awp_seq (awp_seq (awp_region (id := 3) ?_)))
  all_goals first | refine awpOps_cons (op_mv rfl (Conv.of rfl) rfl) ?_ | refine awpOps_cons (op_mvl rfl rfl rfl rfl) ?_ | refine awpOps_cons (op_mvo rfl rfl rfl rfl) ?_
  refine awpOps_callE (ι := Int × List Evt) [] (fun i => .tup [.v i.1, .v i.2]) (fun _ => []) (fun i => i.2.length ≤ 100) rfl fb15 (.cons rfl (Conv.of rfl) (.nil _)) (drawPlay_ct code) (fun r h' ⟨bad, evs, e1, e2, e3⟩ => ⟨(bad, evs), e1, e2, e3⟩) ols0 oks0 (argOk' rfl rfl argO0) rfl (fun _ => rfl) (fun _ => oks0) (fun _ o ho => by cases ho) ?_
  rintro ⟨bad, evs⟩ he
  simp only at he ⊢
  all_goals first | refine awpOps_cons (op_mv rfl (Conv.of rfl) rfl) ?_ | refine awpOps_cons (op_mvl rfl rfl rfl rfl) ?_ | refine awpOps_cons (op_mvo rfl rfl rfl rfl) ?_
  all_goals refine awpOps_cons (op_ext rfl rfl rfl) ?_
  all_goals refine awpOps_cons (op_ext rfl rfl rfl) ?_
  all_goals first | refine awpOps_cons (op_as rfl (Conv.of rfl) rfl) ?_ | refine awpOps_cons (op_asl rfl rfl rfl rfl) ?_ | refine awpOps_cons (op_aso rfl rfl rfl rfl) ?_
  all_goals first | refine awpOps_cons (op_as rfl (Conv.of rfl) rfl) ?_ | refine awpOps_cons (op_asl rfl rfl rfl rfl) ?_ | refine awpOps_cons (op_aso rfl rfl rfl rfl) ?_
  all_goals refine awpOps_nil ?_
  all_goals first | refine awp_seq (awp_region (id := 4) ?_) | refine awp_seq (awp_seq (awp_region (id := 4) ?_)) | refine awp_region (id := 4) ?_ | refine awp_seq (awp_seq (awp_seq (awp_region (id := 4) ?_)))
  all_goals first | refine awpOps_cons (op_mv rfl (Conv.of rfl) rfl) ?_ | refine awpOps_cons (op_mvl rfl rfl rfl rfl) ?_ | refine awpOps_cons (op_mvo rfl rfl rfl rfl) ?_
  all_goals first | refine awpOps_cons (op_mv rfl (Conv.of rfl) rfl) ?_ | refine awpOps_cons (op_mvl rfl rfl rfl rfl) ?_ | refine awpOps_cons (op_mvo rfl rfl rfl rfl) ?_
  all_goals refine awpOps_cons (op_call fb16 (.cons rfl (Conv.of rfl) (.cons rfl (Conv.of rfl) (.nil _))) (iPlay_ct bad evs) (argOk rfl rfl (argOk rfl rfl argOk0)) rfl rfl) ?_
  all_goals first | refine awpOps_cons (op_mv rfl (Conv.of rfl) rfl) ?_ | refine awpOps_cons (op_mvl rfl rfl rfl rfl) ?_ | refine awpOps_cons (op_mvo rfl rfl rfl rfl) ?_
  all_goals refine awpOps_cons (op_ext rfl rfl rfl) ?_
  all_goals refine awpOps_cons (op_ext rfl rfl rfl) ?_
  all_goals refine awpOps_cons (op_alloc (o := 0) z29 rfl rfl) ?_
  all_goals first | refine awpOps_cons (op_st ty29 rfl rfl (Conv.of rfl) rfl) ?_ | refine awpOps_cons (op_ste ty29 rfl rfl (Conv.of rfl) rfl (by assumption)) ?_ | refine awpOps_cons (op_stm ty29 rfl rfl rfl) ?_ | refine awpOps_cons (op_stme ty29 rfl rfl rfl (by assumption)) ?_
  all_goals first | refine awpOps_cons (op_as rfl (Conv.of rfl) rfl) ?_ | refine awpOps_cons (op_asl rfl rfl rfl rfl) ?_ | refine awpOps_cons (op_aso rfl rfl rfl rfl) ?_
  all_goals refine awpOps_nil ?_
  all_goals first | refine awp_seq (awp_region (id := 5) ?_) | refine awp_seq (awp_seq (awp_region (id := 5) ?_)) | refine awp_region (id := 5) ?_ | refine awp_seq (awp_seq (awp_seq (awp_region (id := 5) ?_)))
  all_goals first | refine awpOps_cons (op_mv rfl (Conv.of rfl) rfl) ?_ | refine awpOps_cons (op_mvl rfl rfl rfl rfl) ?_ | refine awpOps_cons (op_mvo rfl rfl rfl rfl) ?_
  all_goals first | refine awpOps_cons (op_mv rfl (Conv.of rfl) rfl) ?_ | refine awpOps_cons (op_mvl rfl rfl rfl rfl) ?_ | refine awpOps_cons (op_mvo rfl rfl rfl rfl) ?_
  all_goals refine awpOps_cons (op_call fb17 (.cons rfl (Conv.of rfl) (.cons rfl (Conv.of rfl) (.nil _))) (sPlayR_ct bad evs) (argOk rfl rfl (argOk rfl rfl argOk0)) rfl rfl) ?_
  all_goals first | refine awpOps_cons (op_mv rfl (Conv.of rfl) rfl) ?_ | refine awpOps_cons (op_mvl rfl rfl rfl rfl) ?_ | refine awpOps_cons (op_mvo rfl rfl rfl rfl) ?_
  all_goals refine awpOps_cons (op_ext rfl rfl rfl) ?_
  all_goals refine awpOps_cons (op_ext rfl rfl rfl) ?_
  all_goals refine awpOps_cons (op_alloc (o := 1) z29 rfl rfl) ?_
  all_goals first | refine awpOps_cons (op_st ty29 rfl rfl (Conv.of rfl) rfl) ?_ | refine awpOps_cons (op_ste ty29 rfl rfl (Conv.of rfl) rfl (by assumption)) ?_ | refine awpOps_cons (op_stm ty29 rfl rfl rfl) ?_ | refine awpOps_cons (op_stme ty29 rfl rfl rfl (by assumption)) ?_
  all_goals first | refine awpOps_cons (op_as rfl (Conv.of rfl) rfl) ?_ | refine awpOps_cons (op_asl rfl rfl rfl rfl) ?_ | refine awpOps_cons (op_aso rfl rfl rfl rfl) ?_
  all_goals refine awpOps_nil ?_
  first | refine awp_seq (awp_seq (awp_seq (awp_seq_to (s' := mkSt 123 [(3, .v bad), (4, .v evs), (5, .box 0 (IsLens.whole Wrld)), (6, .v (playR bad evs).2), (7, .box 1 (IsLens.whole Wrld)), (8, .v (playR bad evs).2), (47, .v (!(playR bad evs).2))] [(0, .cell (playR bad evs).1), (1, .cell (playR bad evs).1)]) ?_ ?_))) | refine awp_seq (awp_seq (awp_seq_to (s' := mkSt 123 [(3, .v bad), (4, .v evs), (5, .box 0 (IsLens.whole Wrld)), (6, .v (playR bad evs).2), (7, .box 1 (IsLens.whole Wrld)), (8, .v (playR bad evs).2), (47, .v (!(playR bad evs).2))] [(0, .cell (playR bad evs).1), (1, .cell (playR bad evs).1)]) ?_ ?_)) | refine awp_seq (awp_seq_to (s' := mkSt 123 [(3, .v bad), (4, .v evs), (5, .box 0 (IsLens.whole Wrld)), (6, .v (playR bad evs).2), (7, .box 1 (IsLens.whole Wrld)), (8, .v (playR bad evs).2), (47, .v (!(playR bad evs).2))] [(0, .cell (playR bad evs).1), (1, .cell (playR bad evs).1)]) ?_ ?_) | refine awp_seq_to (s' := mkSt 123 [(3, .v bad), (4, .v evs), (5, .box 0 (IsLens.whole Wrld)), (6, .v (playR bad evs).2), (7, .box 1 (IsLens.whole Wrld)), (8, .v (playR bad evs).2), (47, .v (!(playR bad evs).2))] [(0, .cell (playR bad evs).1), (1, .cell (playR bad evs).1)]) ?_ ?_ | refine awp_toB (s' := mkSt 123 [(3, .v bad), (4, .v evs), (5, .box 0 (IsLens.whole Wrld)), (6, .v (playR bad evs).2), (7, .box 1 (IsLens.whole Wrld)), (8, .v (playR bad evs).2), (47, .v (!(playR bad evs).2))] [(0, .cell (playR bad evs).1), (1, .cell (playR bad evs).1)]) ?_ ?_ | refine awp_to (s' := mkSt 123 [(3, .v bad), (4, .v evs), (5, .box 0 (IsLens.whole Wrld)), (6, .v (playR bad evs).2), (7, .box 1 (IsLens.whole Wrld)), (8, .v (playR bad evs).2), (47, .v (!(playR bad evs).2))] [(0, .cell (playR bad evs).1), (1, .cell (playR bad evs).1)]) ?_ ?_
  · all_goals first | refine awp_seq (awp_region (id := 6) ?_) | refine awp_seq (awp_seq (awp_region (id := 6) ?_)) | refine awp_region (id := 6) ?_ | refine awp_seq (awp_seq (awp_seq (awp_region (id := 6) ?_)))
    all_goals first | refine awpOps_cons (op_mv rfl (Conv.of rfl) rfl) ?_ | refine awpOps_cons (op_mvl rfl rfl rfl rfl) ?_ | refine awpOps_cons (op_mvo rfl rfl rfl rfl) ?_
    all_goals first | refine awpOps_cons (op_mv rfl (Conv.of rfl) rfl) ?_ | refine awpOps_cons (op_mvl rfl rfl rfl rfl) ?_ | refine awpOps_cons (op_mvo rfl rfl rfl rfl) ?_
    all_goals refine awpOps_cons (op_bneq ub4 rfl rfl rfl) ?_
    all_goals first | refine awpOps_cons (op_mv rfl (Conv.of rfl) rfl) ?_ | refine awpOps_cons (op_mvl rfl rfl rfl rfl) ?_ | refine awpOps_cons (op_mvo rfl rfl rfl rfl) ?_
    all_goals first | refine g_lit (t := 38) (b := true) rfl ?_ | refine g_lit (t := 38) (b := false) rfl ?_ | refine g_ulit (t := 38) rfl ?_ | refine g_split (t := 38) rfl (fun h => ?_) (fun h => ?_)
    all_goals first | refine awpOps_cons (g_off rfl rfl rfl rfl rfl) ?_ | refine awpOps_cons (g_und rfl rfl rfl) ?_ | refine awpOps_cons (g_on rfl rfl rfl (op_ld ty29 rfl rfl rfl)) ?_ | refine awpOps_cons (g_on rfl rfl rfl (op_ldr ty29 rfl rfl)) ?_ | refine awpOps_cons (g_on rfl rfl rfl (op_lde ty29 rfl rfl (by assumption) rfl)) ?_ | refine awpOps_cons (g_on rfl rfl rfl (op_ldl ty29 rfl rfl rfl)) ?_ | refine awpOps_cons (g_on rfl rfl rfl (op_ldd ty29 rfl rfl rfl)) ?_ | refine awpOps_cons (g_on rfl rfl rfl (op_ldde ty29 rfl rfl (by assumption) rfl)) ?_
    all_goals first | refine awpOps_cons (g_off rfl rfl rfl rfl rfl) ?_ | refine awpOps_cons (g_und rfl rfl rfl) ?_ | refine awpOps_cons (g_on rfl rfl rfl (op_ld ty29 rfl rfl rfl)) ?_ | refine awpOps_cons (g_on rfl rfl rfl (op_ldr ty29 rfl rfl)) ?_ | refine awpOps_cons (g_on rfl rfl rfl (op_lde ty29 rfl rfl (by assumption) rfl)) ?_ | refine awpOps_cons (g_on rfl rfl rfl (op_ldl ty29 rfl rfl rfl)) ?_ | refine awpOps_cons (g_on rfl rfl rfl (op_ldd ty29 rfl rfl rfl)) ?_ | refine awpOps_cons (g_on rfl rfl rfl (op_ldde ty29 rfl rfl (by assumption) rfl)) ?_
    all_goals first | refine awpOps_cons (g_off rfl rfl rfl rfl rfl) ?_ | refine awpOps_cons (g_und rfl rfl rfl) ?_ | refine awpOps_cons (g_on rfl rfl rfl (op_call fb18 (.cons rfl (Conv.of rfl) (.cons rfl (Conv.of rfl) (.nil _))) (lwWorld_ct _ _) (argOk rfl rfl (argOk rfl rfl argOk0)) rfl rfl)) ?_
    all_goals first | refine awpOps_cons (g_off rfl rfl rfl rfl rfl) ?_ | refine awpOps_cons (g_und rfl rfl rfl) ?_ | refine awpOps_cons (g_on rfl rfl rfl (op_not rfl rfl)) ?_
    all_goals refine awpOps_cons (op_pick rfl rfl rfl rfl) ?_
    all_goals first | refine awpOps_cons (op_mv rfl (Conv.of rfl) rfl) ?_ | refine awpOps_cons (op_mvl rfl rfl rfl rfl) ?_ | refine awpOps_cons (op_mvo rfl rfl rfl rfl) ?_
    all_goals first | refine g_lit (t := 44) (b := true) rfl ?_ | refine g_lit (t := 44) (b := false) rfl ?_ | refine g_ulit (t := 44) rfl ?_ | refine g_split (t := 44) rfl (fun h => ?_) (fun h => ?_)
    all_goals first | refine awpOps_cons (g_off rfl rfl rfl rfl rfl) ?_ | refine awpOps_cons (g_und rfl rfl rfl) ?_ | refine awpOps_cons (g_on rfl rfl rfl (op_mv rfl (Conv.of rfl) rfl)) ?_ | refine awpOps_cons (g_on rfl rfl rfl (op_mvl rfl rfl rfl rfl)) ?_ | refine awpOps_cons (g_on rfl rfl rfl (op_mvo rfl rfl rfl rfl)) ?_
    all_goals first | refine awpOps_cons (g_off rfl rfl rfl rfl rfl) ?_ | refine awpOps_cons (g_und rfl rfl rfl) ?_ | refine awpOps_cons (g_on rfl rfl rfl (op_not rfl rfl)) ?_
    all_goals refine awpOps_cons (op_pick rfl rfl rfl rfl) ?_
    all_goals refine awpOps_nil ?_
    all_goals exact Le.mk rfl (tle rfl (rfl) rfl (tle rfl (rfl) rfl (tlb rfl rfl rfl (tle rfl (rfl) rfl (tlb rfl rfl rfl (tle rfl (rfl) rfl (tle rfl (by first | rfl | (simp_all)) rfl tln))))))) (olk rfl (by first | exact obOk_cell | exact obOk_arr | exact obOkW rfl | exact obOkW0 | exact obOkN | exact obOkS rfl | exact obOkNs | exact obOkS0 | trivial) (olk rfl (by first | exact obOk_cell | exact obOk_arr | exact obOkW rfl | exact obOkW0 | exact obOkN | exact obOkS rfl | exact obOkNs | exact obOkS0 | trivial) oln)) noS
  first | refine awp_seq (awp_cond rfl (fun h => ?_) (fun h => ?_)) | refine awp_seq (awp_seq (awp_cond rfl (fun h => ?_) (fun h => ?_))) | refine awp_cond rfl (fun h => ?_) (fun h => ?_) | refine awp_seq (awp_seq (awp_seq (awp_cond rfl (fun h => ?_) (fun h => ?_))))
  · all_goals first | refine awp_seq (awp_region (id := 7) ?_) | refine awp_seq (awp_seq (awp_region (id := 7) ?_)) | refine awp_region (id := 7) ?_ | refine awp_seq (awp_seq (awp_seq (awp_region (id := 7) ?_)))
    all_goals first | refine awpOps_cons (op_mv rfl (Conv.of rfl) rfl) ?_ | refine awpOps_cons (op_mvl rfl rfl rfl rfl) ?_ | refine awpOps_cons (op_mvo rfl rfl rfl rfl) ?_
    all_goals first | refine awpOps_cons (op_mv rfl (Conv.of rfl) rfl) ?_ | refine awpOps_cons (op_mvl rfl rfl rfl rfl) ?_ | refine awpOps_cons (op_mvo rfl rfl rfl rfl) ?_
    all_goals refine awpOps_cons (op_beql ub4 rfl rfl rfl) ?_
    all_goals first | refine awpOps_cons (op_mv rfl (Conv.of rfl) rfl) ?_ | refine awpOps_cons (op_mvl rfl rfl rfl rfl) ?_ | refine awpOps_cons (op_mvo rfl rfl rfl rfl) ?_
    all_goals first | refine g_lit (t := 51) (b := true) rfl ?_ | refine g_lit (t := 51) (b := false) rfl ?_ | refine g_ulit (t := 51) rfl ?_ | refine g_split (t := 51) rfl (fun h => ?_) (fun h => ?_)
    all_goals first | refine awpOps_cons (g_off rfl rfl rfl rfl rfl) ?_ | refine awpOps_cons (g_und rfl rfl rfl) ?_ | refine awpOps_cons (g_on rfl rfl rfl (op_ld ty29 rfl rfl rfl)) ?_ | refine awpOps_cons (g_on rfl rfl rfl (op_ldr ty29 rfl rfl)) ?_ | refine awpOps_cons (g_on rfl rfl rfl (op_lde ty29 rfl rfl (by assumption) rfl)) ?_ | refine awpOps_cons (g_on rfl rfl rfl (op_ldl ty29 rfl rfl rfl)) ?_ | refine awpOps_cons (g_on rfl rfl rfl (op_ldd ty29 rfl rfl rfl)) ?_ | refine awpOps_cons (g_on rfl rfl rfl (op_ldde ty29 rfl rfl (by assumption) rfl)) ?_
    all_goals first | refine awpOps_cons (g_off rfl rfl rfl rfl rfl) ?_ | refine awpOps_cons (g_und rfl rfl rfl) ?_ | refine awpOps_cons (g_on rfl rfl rfl (op_ld ty29 rfl rfl rfl)) ?_ | refine awpOps_cons (g_on rfl rfl rfl (op_ldr ty29 rfl rfl)) ?_ | refine awpOps_cons (g_on rfl rfl rfl (op_lde ty29 rfl rfl (by assumption) rfl)) ?_ | refine awpOps_cons (g_on rfl rfl rfl (op_ldl ty29 rfl rfl rfl)) ?_ | refine awpOps_cons (g_on rfl rfl rfl (op_ldd ty29 rfl rfl rfl)) ?_ | refine awpOps_cons (g_on rfl rfl rfl (op_ldde ty29 rfl rfl (by assumption) rfl)) ?_
    all_goals first | refine awpOps_cons (g_off rfl rfl rfl rfl rfl) ?_ | refine awpOps_cons (g_und rfl rfl rfl) ?_ | refine awpOps_cons (g_on rfl rfl rfl (op_call fb18 (.cons rfl (Conv.of rfl) (.cons rfl (Conv.of rfl) (.nil _))) (lwWorld_ct _ _) (argOk rfl rfl (argOk rfl rfl argOk0)) rfl rfl)) ?_
    all_goals refine awpOps_cons (op_pick rfl rfl rfl rfl) ?_
    all_goals first | refine awpOps_cons (op_as rfl (Conv.of rfl) rfl) ?_ | refine awpOps_cons (op_asl rfl rfl rfl rfl) ?_ | refine awpOps_cons (op_aso rfl rfl rfl rfl) ?_
    all_goals refine awpOps_nil ?_
    all_goals refine awp_ret ?_
    all_goals refine finP (.v rfl (Conv.of rfl)) rfl ?_
    all_goals simp_all [FV.av]
  obtain ⟨hb, hl, hw⟩ := playR_ok (not_f h)
  rw [hw]
  have hI := Inv.play hb evs
  have hbad := play_bad bad evs
  generalize playF bad evs = w at hI hbad ⊢
  subst hbad
  refine awp_skip ?_
  have h4 := hI.ok.four
  have hwo := hI.worldOk
  all_goals first | refine awp_seq (awp_region (id := 8) ?_) | refine awp_seq (awp_seq (awp_region (id := 8) ?_)) | refine awp_region (id := 8) ?_ | refine awp_seq (awp_seq (awp_seq (awp_region (id := 8) ?_)))
  all_goals refine awpOps_cons (op_bsl sl33 z34 (.nil _) rfl (by decide) rfl) ?_
  all_goals first | refine awpOps_cons (op_as rfl (Conv.of rfl) rfl) ?_ | refine awpOps_cons (op_asl rfl rfl rfl rfl) ?_ | refine awpOps_cons (op_aso rfl rfl rfl rfl) ?_
  all_goals refine awpOps_nil ?_
  all_goals first | refine awp_seq (awp_region (id := 9) ?_) | refine awp_seq (awp_seq (awp_region (id := 9) ?_)) | refine awp_region (id := 9) ?_ | refine awp_seq (awp_seq (awp_seq (awp_region (id := 9) ?_)))
  all_goals refine awpOps_cons (op_as rfl (Conv.of rfl) rfl) ?_
  all_goals refine awpOps_nil ?_
  first | refine awp_seq (awp_block ?_) | refine awp_seq (awp_seq (awp_block ?_)) | refine awp_block ?_ | refine awp_seq (awp_seq (awp_seq (awp_block ?_)))
  first | refine awp_seq (awp_loop' (fun n_ s => ∃ (i : Nat), ∃ (sh : List (List Itm)), ∃ (hi : n_ + i = 4), ∃ (hsl : sh.length ≤ i), ∃ (hsh : ∀ g ∈ sh, ∃ (k : Nat) (b : Nod), w.nodes[k]? = some b ∧ (k : Int) + 1 ≠ w.bad ∧ g = finalOf b.seen), s = mkSt 123 [(3, .v w.bad), (5, .box 0 (IsLens.whole Wrld)), (9, .v (OList.mk sh true)), (10, .v (i : Int))] [(0, .cell w)]) (4) ⟨0, [], by omega, by simp, (fun g hg => by cases hg), rfl⟩ (Le.mk rfl (tle rfl (rfl) rfl (tlb rfl rfl rfl (tle rfl (rfl) rfl (tle rfl (rfl) rfl tln)))) (olk rfl (by first | exact obOk_cell | exact obOk_arr | exact obOkW rfl | exact obOkW0 | exact obOkN | exact obOkS rfl | exact obOkNs | exact obOkS0 | trivial) oln) noS) ?_) | refine awp_seq (awp_seq (awp_loop' (fun n_ s => ∃ (i : Nat), ∃ (sh : List (List Itm)), ∃ (hi : n_ + i = 4), ∃ (hsl : sh.length ≤ i), ∃ (hsh : ∀ g ∈ sh, ∃ (k : Nat) (b : Nod), w.nodes[k]? = some b ∧ (k : Int) + 1 ≠ w.bad ∧ g = finalOf b.seen), s = mkSt 123 [(3, .v w.bad), (5, .box 0 (IsLens.whole Wrld)), (9, .v (OList.mk sh true)), (10, .v (i : Int))] [(0, .cell w)]) (4) ⟨0, [], by omega, by simp, (fun g hg => by cases hg), rfl⟩ (Le.mk rfl (tle rfl (rfl) rfl (tlb rfl rfl rfl (tle rfl (rfl) rfl (tle rfl (rfl) rfl tln)))) (olk rfl (by first | exact obOk_cell | exact obOk_arr | exact obOkW rfl | exact obOkW0 | exact obOkN | exact obOkS rfl | exact obOkNs | exact obOkS0 | trivial) oln) noS) ?_)) | refine awp_loop' (fun n_ s => ∃ (i : Nat), ∃ (sh : List (List Itm)), ∃ (hi : n_ + i = 4), ∃ (hsl : sh.length ≤ i), ∃ (hsh : ∀ g ∈ sh, ∃ (k : Nat) (b : Nod), w.nodes[k]? = some b ∧ (k : Int) + 1 ≠ w.bad ∧ g = finalOf b.seen), s = mkSt 123 [(3, .v w.bad), (5, .box 0 (IsLens.whole Wrld)), (9, .v (OList.mk sh true)), (10, .v (i : Int))] [(0, .cell w)]) (4) ⟨0, [], by omega, by simp, (fun g hg => by cases hg), rfl⟩ (Le.mk rfl (tle rfl (rfl) rfl (tlb rfl rfl rfl (tle rfl (rfl) rfl (tle rfl (rfl) rfl tln)))) (olk rfl (by first | exact obOk_cell | exact obOk_arr | exact obOkW rfl | exact obOkW0 | exact obOkN | exact obOkS rfl | exact obOkNs | exact obOkS0 | trivial) oln) noS) ?_ | refine awp_seq (awp_seq (awp_seq (awp_loop' (fun n_ s => ∃ (i : Nat), ∃ (sh : List (List Itm)), ∃ (hi : n_ + i = 4), ∃ (hsl : sh.length ≤ i), ∃ (hsh : ∀ g ∈ sh, ∃ (k : Nat) (b : Nod), w.nodes[k]? = some b ∧ (k : Int) + 1 ≠ w.bad ∧ g = finalOf b.seen), s = mkSt 123 [(3, .v w.bad), (5, .box 0 (IsLens.whole Wrld)), (9, .v (OList.mk sh true)), (10, .v (i : Int))] [(0, .cell w)]) (4) ⟨0, [], by omega, by simp, (fun g hg => by cases hg), rfl⟩ (Le.mk rfl (tle rfl (rfl) rfl (tlb rfl rfl rfl (tle rfl (rfl) rfl (tle rfl (rfl) rfl tln)))) (olk rfl (by first | exact obOk_cell | exact obOk_arr | exact obOkW rfl | exact obOkW0 | exact obOkN | exact obOkS rfl | exact obOkNs | exact obOkS0 | trivial) oln) noS) ?_)))
  rintro n_ s ⟨i, sh, hi, hsl, hsh, rfl⟩
  all_goals first | refine awp_seq (awp_region (id := 10) ?_) | refine awp_seq (awp_seq (awp_region (id := 10) ?_)) | refine awp_region (id := 10) ?_ | refine awp_seq (awp_seq (awp_seq (awp_region (id := 10) ?_)))
  all_goals first | refine awpOps_cons (op_mv rfl (Conv.of rfl) rfl) ?_ | refine awpOps_cons (op_mvl rfl rfl rfl rfl) ?_ | refine awpOps_cons (op_mvo rfl rfl rfl rfl) ?_
  all_goals first | refine awpOps_cons (op_fab f29_1 rfl rfl) ?_ | refine awpOps_cons (op_far f29_1 rfl rfl) ?_ | refine awpOps_cons (op_fae f29_1 rfl rfl) ?_
  all_goals first | refine awpOps_cons (op_ld ty26 rfl rfl rfl) ?_ | refine awpOps_cons (op_ldr ty26 rfl rfl) ?_ | refine awpOps_cons (op_lde ty26 rfl rfl (by assumption) rfl) ?_ | refine awpOps_cons (op_ldl ty26 rfl rfl rfl) ?_ | refine awpOps_cons (op_ldd ty26 rfl rfl rfl) ?_ | refine awpOps_cons (op_ldde ty26 rfl rfl (by assumption) rfl) ?_
  all_goals first | refine awpOps_cons (op_len sl26 rfl rfl) ?_ | refine awpOps_cons (op_lenA sl26 rfl rfl rfl) ?_
  all_goals refine awpOps_cons (op_lss rfl rfl rfl) ?_
  all_goals refine awpOps_nil ?_
  first | refine awp_seq (awp_cond rfl (fun h => ?_) (fun h => ?_)) | refine awp_seq (awp_seq (awp_cond rfl (fun h => ?_) (fun h => ?_))) | refine awp_cond rfl (fun h => ?_) (fun h => ?_) | refine awp_seq (awp_seq (awp_seq (awp_cond rfl (fun h => ?_) (fun h => ?_))))
  · have hi2 : i < w.nodes.length := by simpa using h
    have hx : w.nodes[i]? = some w.nodes[i] := List.getElem?_eq_getElem hi2
    generalize w.nodes[i] = a at hx
    have hsa := nodeOk_seen (hI.ok.nodes a (List.mem_of_getElem? hx))
    have hN := hI.nodes i a hx
    refine awp_skip ?_
    first | refine awp_seq (awp_block ?_) | refine awp_seq (awp_seq (awp_block ?_)) | refine awp_block ?_ | refine awp_seq (awp_seq (awp_seq (awp_block ?_)))
    all_goals first | refine awp_seq (awp_region (id := 12) ?_) | refine awp_seq (awp_seq (awp_region (id := 12) ?_)) | refine awp_region (id := 12) ?_ | refine awp_seq (awp_seq (awp_seq (awp_region (id := 12) ?_)))
    all_goals first | refine awpOps_cons (op_mv rfl (Conv.of rfl) rfl) ?_ | refine awpOps_cons (op_mvl rfl rfl rfl rfl) ?_ | refine awpOps_cons (op_mvo rfl rfl rfl rfl) ?_
    all_goals refine awpOps_cons (op_add rfl rfl rfl (by omega)) ?_
    all_goals first | refine awpOps_cons (op_mv rfl (Conv.of rfl) rfl) ?_ | refine awpOps_cons (op_mvl rfl rfl rfl rfl) ?_ | refine awpOps_cons (op_mvo rfl rfl rfl rfl) ?_
    all_goals refine awpOps_cons (op_eql rfl rfl rfl) ?_
    all_goals refine awpOps_nil ?_
    first | refine awp_seq (awp_cond rfl (fun h2 => ?_) (fun h2 => ?_)) | refine awp_seq (awp_seq (awp_cond rfl (fun h2 => ?_) (fun h2 => ?_))) | refine awp_cond rfl (fun h2 => ?_) (fun h2 => ?_) | refine awp_seq (awp_seq (awp_seq (awp_cond rfl (fun h2 => ?_) (fun h2 => ?_))))
    · refine awp_exit ?_
      repeat refine ex_seq ?_
      refine ex_block ?_
      all_goals first | refine awp_seq (awp_region (id := 11) ?_) | refine awp_seq (awp_seq (awp_region (id := 11) ?_)) | refine awp_region (id := 11) ?_ | refine awp_seq (awp_seq (awp_seq (awp_region (id := 11) ?_)))
      all_goals first | refine awpOps_cons (op_mv rfl (Conv.of rfl) rfl) ?_ | refine awpOps_cons (op_mvl rfl rfl rfl rfl) ?_ | refine awpOps_cons (op_mvo rfl rfl rfl rfl) ?_
      all_goals refine awpOps_cons (op_add rfl rfl rfl (by omega)) ?_
      all_goals first | refine awpOps_cons (op_as rfl (Conv.of rfl) rfl) ?_ | refine awpOps_cons (op_asl rfl rfl rfl rfl) ?_ | refine awpOps_cons (op_aso rfl rfl rfl rfl) ?_
      all_goals refine awpOps_nil ?_
      repeat first | refine nx_seq ?_ | refine nx_block ?_
      exact ⟨n_ - 1, _, by omega, ⟨i + 1, sh, by omega, by omega, hsh, rfl⟩, Le.mk rfl (tle rfl (rfl) rfl (tlb rfl rfl rfl (tle rfl (rfl) rfl (tle rfl (rfl) rfl tln)))) (olk rfl (by first | exact obOk_cell | exact obOk_arr | exact obOkW rfl | exact obOkW0 | exact obOkN | exact obOkS rfl | exact obOkNs | exact obOkS0 | trivial) oln) noS⟩
    · have hib : (i : Int) + 1 ≠ w.bad := by simpa using h2
      have hsub := hN.sub (by rw [hN.id]; exact hib)
      have hfit : ∀ g ∈ sh, fitsB g (finalOf a.seen) = true := fun g hg => by
        obtain ⟨k, b, b1, b2, b3⟩ := hsh g hg
        rw [b3]; exact hI.agree b1 hx b2 hib
      have hcert := certOf_ct a.seen (by omega)
      have hc1 : (certOf a.seen).2 = true → certOk (certOf a.seen).1 = true ∧ certFinal (certOf a.seen).1 = finalOf a.seen := fun e => ⟨(certOf_ok e).2.1, (certOf_ok e).2.2.1⟩
      have hc2 : (certOf a.seen).2 = decide ((0 : Int) < ((finalOf a.seen).length : Int)) := by
        cases e : (certOf a.seen).2 with
        | false => have := certOf_no hsa.1 e; simp [this]
        | true =>
          by_cases hz : 0 < (finalOf a.seen).length
          · simp; omega
          · exfalso
            obtain ⟨_, c1, c2, _⟩ := certOf_ok e
            have := congrArg List.length c2
            unfold certFinal at this
            rw [if_pos c1] at this
            simp only [certOk, Bool.and_eq_true, decide_eq_true_eq] at c1
            rw [List.length_take] at this
            omega
      have hws : (certOf a.seen).2 = true → CtP Tryz.prog 21 [.v w, .v (certOf a.seen).1] (.v true) := fun e => by
        have := worldShown_ct w (certOf a.seen).1 hwo (hc1 e).1
        rwa [worldShown_of hI (fun v hv => .inr (hsub v hv)) e] at this
      have hcf : (certOf a.seen).2 = true → CtP Tryz.prog 23 [.v (certOf a.seen).1] (.v (CList.mk (finalOf a.seen))) := fun e => by
        have := certFinal_ct (certOf a.seen).1 (hc1 e).1
        rwa [(hc1 e).2] at this
      have hlw := lwSame_ct (finalOf a.seen) (finalOf a.seen)
      rw [show decide (finalOf a.seen = finalOf a.seen) = true from decide_eq_true rfl] at hlw
      have hfin := treeFinal_ct a.seen hsa.1 (by omega)
      have hsh' : ∀ g ∈ sh ++ [finalOf a.seen], ∃ (k : Nat) (b : Nod), w.nodes[k]? = some b ∧ (k : Int) + 1 ≠ w.bad ∧ g = finalOf b.seen := fun g hg => by
        rcases List.mem_append.1 hg with hg | hg
        · exact hsh g hg
        · simp at hg; exact ⟨i, a, hx, hib, hg⟩
      clear hc1
      generalize (certOf a.seen).2 = is at hcert hc2 hws hcf
      generalize (certOf a.seen).1 = cc at hcert hws hcf
      generalize finalOf a.seen = f at hfit hc2 hcf hlw hfin hsh'
      refine awp_skip ?_
      all_goals first | refine awp_seq (awp_region (id := 13) ?_) | refine awp_seq (awp_seq (awp_region (id := 13) ?_)) | refine awp_region (id := 13) ?_ | refine awp_seq (awp_seq (awp_seq (awp_region (id := 13) ?_)))
      all_goals first | refine awpOps_cons (op_fab f29_1 rfl rfl) ?_ | refine awpOps_cons (op_far f29_1 rfl rfl) ?_ | refine awpOps_cons (op_fae f29_1 rfl rfl) ?_
      all_goals first | refine awpOps_cons (op_ld ty26 rfl rfl rfl) ?_ | refine awpOps_cons (op_ldr ty26 rfl rfl) ?_ | refine awpOps_cons (op_lde ty26 rfl rfl (by assumption) rfl) ?_ | refine awpOps_cons (op_ldl ty26 rfl rfl rfl) ?_ | refine awpOps_cons (op_ldd ty26 rfl rfl rfl) ?_ | refine awpOps_cons (op_ldde ty26 rfl rfl (by assumption) rfl) ?_
      all_goals first | refine awpOps_cons (op_mv rfl (Conv.of rfl) rfl) ?_ | refine awpOps_cons (op_mvl rfl rfl rfl rfl) ?_ | refine awpOps_cons (op_mvo rfl rfl rfl rfl) ?_
      all_goals first | refine awpOps_cons (op_ix sl26 rfl rfl rfl (by omega) hx) ?_ | refine awpOps_cons (op_ixA sl26 rfl rfl rfl rfl (by omega)) ?_
      all_goals first | refine awpOps_cons (op_fab f41_3 rfl rfl) ?_ | refine awpOps_cons (op_far f41_3 rfl rfl) ?_ | refine awpOps_cons (op_fae f41_3 rfl rfl) ?_
      all_goals first | refine awpOps_cons (op_ld ty27 rfl rfl rfl) ?_ | refine awpOps_cons (op_ldr ty27 rfl rfl) ?_ | refine awpOps_cons (op_lde ty27 rfl rfl (by assumption) rfl) ?_ | refine awpOps_cons (op_ldl ty27 rfl rfl rfl) ?_ | refine awpOps_cons (op_ldd ty27 rfl rfl rfl) ?_ | refine awpOps_cons (op_ldde ty27 rfl rfl (by assumption) rfl) ?_
      all_goals refine awpOps_cons (op_call fb19 (.cons rfl (Conv.of rfl) (.nil _)) (hcert) (argOk rfl rfl argOk0) rfl rfl) ?_
      all_goals first | refine awpOps_cons (op_mv rfl (Conv.of rfl) rfl) ?_ | refine awpOps_cons (op_mvl rfl rfl rfl rfl) ?_ | refine awpOps_cons (op_mvo rfl rfl rfl rfl) ?_
      all_goals refine awpOps_cons (op_ext rfl rfl rfl) ?_
      all_goals refine awpOps_cons (op_ext rfl rfl rfl) ?_
      all_goals refine awpOps_cons (op_alloc (o := 2) z37 rfl rfl) ?_
      all_goals first | refine awpOps_cons (op_st ty37 rfl rfl (Conv.of rfl) rfl) ?_ | refine awpOps_cons (op_ste ty37 rfl rfl (Conv.of rfl) rfl (by assumption)) ?_ | refine awpOps_cons (op_stm ty37 rfl rfl rfl) ?_ | refine awpOps_cons (op_stme ty37 rfl rfl rfl (by assumption)) ?_
      all_goals first | refine awpOps_cons (op_as rfl (Conv.of rfl) rfl) ?_ | refine awpOps_cons (op_asl rfl rfl rfl rfl) ?_ | refine awpOps_cons (op_aso rfl rfl rfl rfl) ?_
      all_goals refine awpOps_nil ?_
      all_goals first | refine awp_seq (awp_region (id := 14) ?_) | refine awp_seq (awp_seq (awp_region (id := 14) ?_)) | refine awp_region (id := 14) ?_ | refine awp_seq (awp_seq (awp_seq (awp_region (id := 14) ?_)))
      all_goals first | refine awpOps_cons (op_fab f29_1 rfl rfl) ?_ | refine awpOps_cons (op_far f29_1 rfl rfl) ?_ | refine awpOps_cons (op_fae f29_1 rfl rfl) ?_
      all_goals first | refine awpOps_cons (op_ld ty26 rfl rfl rfl) ?_ | refine awpOps_cons (op_ldr ty26 rfl rfl) ?_ | refine awpOps_cons (op_lde ty26 rfl rfl (by assumption) rfl) ?_ | refine awpOps_cons (op_ldl ty26 rfl rfl rfl) ?_ | refine awpOps_cons (op_ldd ty26 rfl rfl rfl) ?_ | refine awpOps_cons (op_ldde ty26 rfl rfl (by assumption) rfl) ?_
      all_goals first | refine awpOps_cons (op_mv rfl (Conv.of rfl) rfl) ?_ | refine awpOps_cons (op_mvl rfl rfl rfl rfl) ?_ | refine awpOps_cons (op_mvo rfl rfl rfl rfl) ?_
      all_goals first | refine awpOps_cons (op_ix sl26 rfl rfl rfl (by omega) hx) ?_ | refine awpOps_cons (op_ixA sl26 rfl rfl rfl rfl (by omega)) ?_
      all_goals first | refine awpOps_cons (op_fab f41_3 rfl rfl) ?_ | refine awpOps_cons (op_far f41_3 rfl rfl) ?_ | refine awpOps_cons (op_fae f41_3 rfl rfl) ?_
      all_goals first | refine awpOps_cons (op_ld ty27 rfl rfl rfl) ?_ | refine awpOps_cons (op_ldr ty27 rfl rfl) ?_ | refine awpOps_cons (op_lde ty27 rfl rfl (by assumption) rfl) ?_ | refine awpOps_cons (op_ldl ty27 rfl rfl rfl) ?_ | refine awpOps_cons (op_ldd ty27 rfl rfl rfl) ?_ | refine awpOps_cons (op_ldde ty27 rfl rfl (by assumption) rfl) ?_
      all_goals refine awpOps_cons (op_call fb20 (.cons rfl (Conv.of rfl) (.nil _)) (hfin) (argOk rfl rfl argOk0) rfl rfl) ?_
      all_goals first | refine awpOps_cons (op_as rfl (Conv.of rfl) rfl) ?_ | refine awpOps_cons (op_asl rfl rfl rfl rfl) ?_ | refine awpOps_cons (op_aso rfl rfl rfl rfl) ?_
      all_goals refine awpOps_nil ?_
      first | refine awp_seq (awp_seq (awp_seq (awp_seq_to (s' := mkSt 123 [(3, .v w.bad), (5, .box 0 (IsLens.whole Wrld)), (9, .v (OList.mk sh true)), (10, .v (i : Int)), (13, .v (CList.mk f)), (105, .v false)] [(0, .cell w)]) ?_ ?_))) | refine awp_seq (awp_seq (awp_seq_to (s' := mkSt 123 [(3, .v w.bad), (5, .box 0 (IsLens.whole Wrld)), (9, .v (OList.mk sh true)), (10, .v (i : Int)), (13, .v (CList.mk f)), (105, .v false)] [(0, .cell w)]) ?_ ?_)) | refine awp_seq (awp_seq_to (s' := mkSt 123 [(3, .v w.bad), (5, .box 0 (IsLens.whole Wrld)), (9, .v (OList.mk sh true)), (10, .v (i : Int)), (13, .v (CList.mk f)), (105, .v false)] [(0, .cell w)]) ?_ ?_) | refine awp_seq_to (s' := mkSt 123 [(3, .v w.bad), (5, .box 0 (IsLens.whole Wrld)), (9, .v (OList.mk sh true)), (10, .v (i : Int)), (13, .v (CList.mk f)), (105, .v false)] [(0, .cell w)]) ?_ ?_ | refine awp_toB (s' := mkSt 123 [(3, .v w.bad), (5, .box 0 (IsLens.whole Wrld)), (9, .v (OList.mk sh true)), (10, .v (i : Int)), (13, .v (CList.mk f)), (105, .v false)] [(0, .cell w)]) ?_ ?_ | refine awp_to (s' := mkSt 123 [(3, .v w.bad), (5, .box 0 (IsLens.whole Wrld)), (9, .v (OList.mk sh true)), (10, .v (i : Int)), (13, .v (CList.mk f)), (105, .v false)] [(0, .cell w)]) ?_ ?_
      · all_goals first | refine awp_seq (awp_region (id := 15) ?_) | refine awp_seq (awp_seq (awp_region (id := 15) ?_)) | refine awp_region (id := 15) ?_ | refine awp_seq (awp_seq (awp_seq (awp_region (id := 15) ?_)))
        all_goals first | refine awpOps_cons (op_mv rfl (Conv.of rfl) rfl) ?_ | refine awpOps_cons (op_mvl rfl rfl rfl rfl) ?_ | refine awpOps_cons (op_mvo rfl rfl rfl rfl) ?_
        all_goals first | refine awpOps_cons (op_mv rfl (Conv.of rfl) rfl) ?_ | refine awpOps_cons (op_mvl rfl rfl rfl rfl) ?_ | refine awpOps_cons (op_mvo rfl rfl rfl rfl) ?_
        all_goals first | refine awpOps_cons (op_len sl34 rfl rfl) ?_ | refine awpOps_cons (op_lenA sl34 rfl rfl rfl) ?_
        all_goals refine awpOps_cons (op_gtr rfl rfl rfl) ?_
        all_goals refine awpOps_cons (op_bneq ub4 rfl rfl rfl) ?_
        all_goals first | refine awpOps_cons (op_mv rfl (Conv.of rfl) rfl) ?_ | refine awpOps_cons (op_mvl rfl rfl rfl rfl) ?_ | refine awpOps_cons (op_mvo rfl rfl rfl rfl) ?_
        all_goals first | refine g_lit (t := 90) (b := true) rfl ?_ | refine g_lit (t := 90) (b := false) rfl ?_ | refine g_ulit (t := 90) rfl ?_ | refine g_split (t := 90) rfl (fun h => ?_) (fun h => ?_)
        all_goals first | refine awpOps_cons (g_off rfl rfl rfl rfl rfl) ?_ | refine awpOps_cons (g_und rfl rfl rfl) ?_ | refine awpOps_cons (g_on rfl rfl rfl (op_mv rfl (Conv.of rfl) rfl)) ?_ | refine awpOps_cons (g_on rfl rfl rfl (op_mvl rfl rfl rfl rfl)) ?_ | refine awpOps_cons (g_on rfl rfl rfl (op_mvo rfl rfl rfl rfl)) ?_
        all_goals first | refine awpOps_cons (g_off rfl rfl rfl rfl rfl) ?_ | refine awpOps_cons (g_und rfl rfl rfl) ?_ | refine awpOps_cons (g_on rfl rfl rfl (op_mv rfl (Conv.of rfl) rfl)) ?_ | refine awpOps_cons (g_on rfl rfl rfl (op_mvl rfl rfl rfl rfl)) ?_ | refine awpOps_cons (g_on rfl rfl rfl (op_mvo rfl rfl rfl rfl)) ?_
        all_goals first | refine g_lit (t := 92) (b := true) rfl ?_ | refine g_lit (t := 92) (b := false) rfl ?_ | refine g_ulit (t := 92) rfl ?_ | refine g_split (t := 92) rfl (fun h => ?_) (fun h => ?_)
        all_goals first | refine awpOps_cons (g_off rfl rfl rfl rfl rfl) ?_ | refine awpOps_cons (g_und rfl rfl rfl) ?_ | refine awpOps_cons (g_on rfl rfl rfl (op_ld ty29 rfl rfl rfl)) ?_ | refine awpOps_cons (g_on rfl rfl rfl (op_ldr ty29 rfl rfl)) ?_ | refine awpOps_cons (g_on rfl rfl rfl (op_lde ty29 rfl rfl (by assumption) rfl)) ?_ | refine awpOps_cons (g_on rfl rfl rfl (op_ldl ty29 rfl rfl rfl)) ?_ | refine awpOps_cons (g_on rfl rfl rfl (op_ldd ty29 rfl rfl rfl)) ?_ | refine awpOps_cons (g_on rfl rfl rfl (op_ldde ty29 rfl rfl (by assumption) rfl)) ?_
        all_goals first | refine awpOps_cons (g_off rfl rfl rfl rfl rfl) ?_ | refine awpOps_cons (g_und rfl rfl rfl) ?_ | refine awpOps_cons (g_on rfl rfl rfl (op_ld ty37 rfl rfl rfl)) ?_ | refine awpOps_cons (g_on rfl rfl rfl (op_ldr ty37 rfl rfl)) ?_ | refine awpOps_cons (g_on rfl rfl rfl (op_lde ty37 rfl rfl (by assumption) rfl)) ?_ | refine awpOps_cons (g_on rfl rfl rfl (op_ldl ty37 rfl rfl rfl)) ?_ | refine awpOps_cons (g_on rfl rfl rfl (op_ldd ty37 rfl rfl rfl)) ?_ | refine awpOps_cons (g_on rfl rfl rfl (op_ldde ty37 rfl rfl (by assumption) rfl)) ?_
        all_goals first | refine awpOps_cons (g_off rfl rfl rfl rfl rfl) ?_ | refine awpOps_cons (g_und rfl rfl rfl) ?_ | refine awpOps_cons (g_on rfl rfl rfl (op_call fb21 (.cons rfl (Conv.of rfl) (.cons rfl (Conv.of rfl) (.nil _))) (hws (by assumption)) (argOk rfl rfl (argOk rfl rfl argOk0)) rfl rfl)) ?_
        all_goals first | refine awpOps_cons (g_off rfl rfl rfl rfl rfl) ?_ | refine awpOps_cons (g_und rfl rfl rfl) ?_ | refine awpOps_cons (g_on rfl rfl rfl (op_not rfl rfl)) ?_
        all_goals first | refine awpOps_cons (g_off rfl rfl rfl rfl rfl) ?_ | refine awpOps_cons (g_und rfl rfl rfl) ?_ | refine awpOps_cons (g_on rfl rfl rfl (op_mv rfl (Conv.of rfl) rfl)) ?_ | refine awpOps_cons (g_on rfl rfl rfl (op_mvl rfl rfl rfl rfl)) ?_ | refine awpOps_cons (g_on rfl rfl rfl (op_mvo rfl rfl rfl rfl)) ?_
        all_goals first | refine g_lit (t := 97) (b := true) rfl ?_ | refine g_lit (t := 97) (b := false) rfl ?_ | refine g_ulit (t := 97) rfl ?_ | refine g_split (t := 97) rfl (fun h => ?_) (fun h => ?_)
        all_goals first | refine awpOps_cons (g_off rfl rfl rfl rfl rfl) ?_ | refine awpOps_cons (g_und rfl rfl rfl) ?_ | refine awpOps_cons (g_on rfl rfl rfl (op_ld ty37 rfl rfl rfl)) ?_ | refine awpOps_cons (g_on rfl rfl rfl (op_ldr ty37 rfl rfl)) ?_ | refine awpOps_cons (g_on rfl rfl rfl (op_lde ty37 rfl rfl (by assumption) rfl)) ?_ | refine awpOps_cons (g_on rfl rfl rfl (op_ldl ty37 rfl rfl rfl)) ?_ | refine awpOps_cons (g_on rfl rfl rfl (op_ldd ty37 rfl rfl rfl)) ?_ | refine awpOps_cons (g_on rfl rfl rfl (op_ldde ty37 rfl rfl (by assumption) rfl)) ?_
        all_goals first | refine awpOps_cons (g_off rfl rfl rfl rfl rfl) ?_ | refine awpOps_cons (g_und rfl rfl rfl) ?_ | refine awpOps_cons (g_on rfl rfl rfl (op_call fb23 (.cons rfl (Conv.of rfl) (.nil _)) (hcf (by assumption)) (argOk rfl rfl argOk0) rfl rfl)) ?_
        all_goals first | refine awpOps_cons (g_off rfl rfl rfl rfl rfl) ?_ | refine awpOps_cons (g_und rfl rfl rfl) ?_ | refine awpOps_cons (g_on rfl rfl rfl (op_mv rfl (Conv.of rfl) rfl)) ?_ | refine awpOps_cons (g_on rfl rfl rfl (op_mvl rfl rfl rfl rfl)) ?_ | refine awpOps_cons (g_on rfl rfl rfl (op_mvo rfl rfl rfl rfl)) ?_
        all_goals first | refine awpOps_cons (g_off rfl rfl rfl rfl rfl) ?_ | refine awpOps_cons (g_und rfl rfl rfl) ?_ | refine awpOps_cons (g_on rfl rfl rfl (op_call fb22 (.cons rfl (Conv.cl) (.cons rfl (Conv.cl) (.nil _))) (hlw) (argOk rfl rfl (argOk rfl rfl argOk0)) rfl rfl)) ?_
        all_goals first | refine awpOps_cons (g_off rfl rfl rfl rfl rfl) ?_ | refine awpOps_cons (g_und rfl rfl rfl) ?_ | refine awpOps_cons (g_on rfl rfl rfl (op_not rfl rfl)) ?_
        all_goals first | refine awpOps_cons (g_off rfl rfl rfl rfl rfl) ?_ | refine awpOps_cons (g_und rfl rfl rfl) ?_ | refine awpOps_cons (g_on rfl rfl rfl (op_pick rfl rfl rfl rfl)) ?_
        all_goals first | refine awpOps_cons (g_off rfl rfl rfl rfl rfl) ?_ | refine awpOps_cons (g_und rfl rfl rfl) ?_ | refine awpOps_cons (g_on rfl rfl rfl (op_pick rfl rfl rfl rfl)) ?_
        all_goals refine awpOps_cons (op_pick rfl rfl rfl rfl) ?_
        all_goals refine awpOps_nil ?_
        all_goals exact Le.mk rfl (tle rfl (rfl) rfl (tlb rfl rfl rfl (tle rfl (rfl) rfl (tle rfl (rfl) rfl (tle rfl (rfl) rfl (tle rfl (by first | rfl | (have e1 : ∀ b : Bool, Enc.dis b = b := fun _ => rfl; show AV.v _ = AV.v _; simp_all)) rfl tln)))))) (olk rfl (by first | exact obOk_cell | exact obOk_arr | exact obOkW rfl | exact obOkW0 | exact obOkN | exact obOkS rfl | exact obOkNs | exact obOkS0 | trivial) oln) noS
      first | refine awp_seq (awp_cond rfl (fun h3 => absurd h3 (by decide)) (fun h3 => ?_)) | refine awp_seq (awp_seq (awp_cond rfl (fun h3 => absurd h3 (by decide)) (fun h3 => ?_))) | refine awp_cond rfl (fun h3 => absurd h3 (by decide)) (fun h3 => ?_) | refine awp_seq (awp_seq (awp_seq (awp_cond rfl (fun h3 => absurd h3 (by decide)) (fun h3 => ?_))))
      refine awp_skip ?_
      all_goals first | refine awp_seq (awp_region (id := 17) ?_) | refine awp_seq (awp_seq (awp_region (id := 17) ?_)) | refine awp_region (id := 17) ?_ | refine awp_seq (awp_seq (awp_seq (awp_region (id := 17) ?_)))
      all_goals refine awpOps_cons (op_as rfl (Conv.of rfl) rfl) ?_
      all_goals refine awpOps_nil ?_
      first | refine awp_seq (awp_seq (awp_seq (awp_seq_to (s' := mkSt 123 [(3, .v w.bad), (5, .box 0 (IsLens.whole Wrld)), (9, .v (OList.mk sh true)), (10, .v (i : Int)), (13, .v (CList.mk f))] [(0, .cell w)]) ?_ ?_))) | refine awp_seq (awp_seq (awp_seq_to (s' := mkSt 123 [(3, .v w.bad), (5, .box 0 (IsLens.whole Wrld)), (9, .v (OList.mk sh true)), (10, .v (i : Int)), (13, .v (CList.mk f))] [(0, .cell w)]) ?_ ?_)) | refine awp_seq (awp_seq_to (s' := mkSt 123 [(3, .v w.bad), (5, .box 0 (IsLens.whole Wrld)), (9, .v (OList.mk sh true)), (10, .v (i : Int)), (13, .v (CList.mk f))] [(0, .cell w)]) ?_ ?_) | refine awp_seq_to (s' := mkSt 123 [(3, .v w.bad), (5, .box 0 (IsLens.whole Wrld)), (9, .v (OList.mk sh true)), (10, .v (i : Int)), (13, .v (CList.mk f))] [(0, .cell w)]) ?_ ?_ | refine awp_toB (s' := mkSt 123 [(3, .v w.bad), (5, .box 0 (IsLens.whole Wrld)), (9, .v (OList.mk sh true)), (10, .v (i : Int)), (13, .v (CList.mk f))] [(0, .cell w)]) ?_ ?_ | refine awp_to (s' := mkSt 123 [(3, .v w.bad), (5, .box 0 (IsLens.whole Wrld)), (9, .v (OList.mk sh true)), (10, .v (i : Int)), (13, .v (CList.mk f))] [(0, .cell w)]) ?_ ?_
      · first | refine awp_seq (awp_block ?_) | refine awp_seq (awp_seq (awp_block ?_)) | refine awp_block ?_ | refine awp_seq (awp_seq (awp_seq (awp_block ?_)))
        first | refine awp_seq (awp_loop' (fun n_ s => ∃ (k : Nat), ∃ (hk : n_ + k = sh.length), s = mkSt 123 [(3, .v w.bad), (5, .box 0 (IsLens.whole Wrld)), (9, .v (OList.mk sh true)), (10, .v (i : Int)), (13, .v (CList.mk f)), (14, .v (k : Int))] [(0, .cell w)]) (sh.length) ⟨0, by omega, rfl⟩ (Le.mk rfl (tle rfl (rfl) rfl (tlb rfl rfl rfl (tle rfl (rfl) rfl (tle rfl (rfl) rfl (tle rfl (rfl) rfl (tle rfl (rfl) rfl tln)))))) (olk rfl (by first | exact obOk_cell | exact obOk_arr | exact obOkW rfl | exact obOkW0 | exact obOkN | exact obOkS rfl | exact obOkNs | exact obOkS0 | trivial) oln) noS) ?_) | refine awp_seq (awp_seq (awp_loop' (fun n_ s => ∃ (k : Nat), ∃ (hk : n_ + k = sh.length), s = mkSt 123 [(3, .v w.bad), (5, .box 0 (IsLens.whole Wrld)), (9, .v (OList.mk sh true)), (10, .v (i : Int)), (13, .v (CList.mk f)), (14, .v (k : Int))] [(0, .cell w)]) (sh.length) ⟨0, by omega, rfl⟩ (Le.mk rfl (tle rfl (rfl) rfl (tlb rfl rfl rfl (tle rfl (rfl) rfl (tle rfl (rfl) rfl (tle rfl (rfl) rfl (tle rfl (rfl) rfl tln)))))) (olk rfl (by first | exact obOk_cell | exact obOk_arr | exact obOkW rfl | exact obOkW0 | exact obOkN | exact obOkS rfl | exact obOkNs | exact obOkS0 | trivial) oln) noS) ?_)) | refine awp_loop' (fun n_ s => ∃ (k : Nat), ∃ (hk : n_ + k = sh.length), s = mkSt 123 [(3, .v w.bad), (5, .box 0 (IsLens.whole Wrld)), (9, .v (OList.mk sh true)), (10, .v (i : Int)), (13, .v (CList.mk f)), (14, .v (k : Int))] [(0, .cell w)]) (sh.length) ⟨0, by omega, rfl⟩ (Le.mk rfl (tle rfl (rfl) rfl (tlb rfl rfl rfl (tle rfl (rfl) rfl (tle rfl (rfl) rfl (tle rfl (rfl) rfl (tle rfl (rfl) rfl tln)))))) (olk rfl (by first | exact obOk_cell | exact obOk_arr | exact obOkW rfl | exact obOkW0 | exact obOkN | exact obOkS rfl | exact obOkNs | exact obOkS0 | trivial) oln) noS) ?_ | refine awp_seq (awp_seq (awp_seq (awp_loop' (fun n_ s => ∃ (k : Nat), ∃ (hk : n_ + k = sh.length), s = mkSt 123 [(3, .v w.bad), (5, .box 0 (IsLens.whole Wrld)), (9, .v (OList.mk sh true)), (10, .v (i : Int)), (13, .v (CList.mk f)), (14, .v (k : Int))] [(0, .cell w)]) (sh.length) ⟨0, by omega, rfl⟩ (Le.mk rfl (tle rfl (rfl) rfl (tlb rfl rfl rfl (tle rfl (rfl) rfl (tle rfl (rfl) rfl (tle rfl (rfl) rfl (tle rfl (rfl) rfl tln)))))) (olk rfl (by first | exact obOk_cell | exact obOk_arr | exact obOkW rfl | exact obOkW0 | exact obOkN | exact obOkS rfl | exact obOkNs | exact obOkS0 | trivial) oln) noS) ?_)))
        rintro n_ s ⟨k, hk, rfl⟩
        all_goals first | refine awp_seq (awp_region (id := 18) ?_) | refine awp_seq (awp_seq (awp_region (id := 18) ?_)) | refine awp_region (id := 18) ?_ | refine awp_seq (awp_seq (awp_seq (awp_region (id := 18) ?_)))
        all_goals first | refine awpOps_cons (op_mv rfl (Conv.of rfl) rfl) ?_ | refine awpOps_cons (op_mvl rfl rfl rfl rfl) ?_ | refine awpOps_cons (op_mvo rfl rfl rfl rfl) ?_
        all_goals refine awpOps_cons (op_mv rfl Conv.ol rfl) ?_
        all_goals first | refine awpOps_cons (op_len sl33 rfl rfl) ?_ | refine awpOps_cons (op_lenA sl33 rfl rfl rfl) ?_
        all_goals refine awpOps_cons (op_lss rfl rfl rfl) ?_
        all_goals refine awpOps_nil ?_
        first | refine awp_seq (awp_cond rfl (fun h4 => ?_) (fun h4 => ?_)) | refine awp_seq (awp_seq (awp_cond rfl (fun h4 => ?_) (fun h4 => ?_))) | refine awp_cond rfl (fun h4 => ?_) (fun h4 => ?_) | refine awp_seq (awp_seq (awp_seq (awp_cond rfl (fun h4 => ?_) (fun h4 => ?_))))
        · have hk2 : k < sh.length := by simpa using h4
          have hy : sh[k]? = some sh[k] := List.getElem?_eq_getElem hk2
          have hfk := lwFits_ct sh[k] f
          rw [hfit _ (List.getElem_mem hk2)] at hfk
          generalize sh[k] = g at hy hfk
          refine awp_skip ?_
          first | refine awp_seq (awp_block ?_) | refine awp_seq (awp_seq (awp_block ?_)) | refine awp_block ?_ | refine awp_seq (awp_seq (awp_seq (awp_block ?_)))
          all_goals first | refine awp_seq (awp_region (id := 20) ?_) | refine awp_seq (awp_seq (awp_region (id := 20) ?_)) | refine awp_region (id := 20) ?_ | refine awp_seq (awp_seq (awp_seq (awp_region (id := 20) ?_)))
          all_goals refine awpOps_cons (op_mv rfl Conv.ol rfl) ?_
          all_goals first | refine awpOps_cons (op_mv rfl (Conv.of rfl) rfl) ?_ | refine awpOps_cons (op_mvl rfl rfl rfl rfl) ?_ | refine awpOps_cons (op_mvo rfl rfl rfl rfl) ?_
          all_goals first | refine awpOps_cons (op_ix sl33 rfl rfl rfl (by omega) hy) ?_ | refine awpOps_cons (op_ixA sl33 rfl rfl rfl rfl (by omega)) ?_
          all_goals first | refine awpOps_cons (op_ld ty34 rfl rfl rfl) ?_ | refine awpOps_cons (op_ldr ty34 rfl rfl) ?_ | refine awpOps_cons (op_lde ty34 rfl rfl (by assumption) rfl) ?_ | refine awpOps_cons (op_ldl ty34 rfl rfl rfl) ?_ | refine awpOps_cons (op_ldd ty34 rfl rfl rfl) ?_ | refine awpOps_cons (op_ldde ty34 rfl rfl (by assumption) rfl) ?_
          all_goals first | refine awpOps_cons (op_mv rfl (Conv.of rfl) rfl) ?_ | refine awpOps_cons (op_mvl rfl rfl rfl rfl) ?_ | refine awpOps_cons (op_mvo rfl rfl rfl rfl) ?_
          all_goals refine awpOps_cons (op_call fb24 (.cons rfl (Conv.of rfl) (.cons rfl (Conv.cl) (.nil _))) (hfk) (argOk rfl rfl (argOk rfl rfl argOk0)) rfl rfl) ?_
          all_goals refine awpOps_cons (op_not rfl rfl) ?_
          all_goals refine awpOps_nil ?_
          first | refine awp_seq (awp_cond rfl (fun h5 => absurd h5 (by decide)) (fun h5 => ?_)) | refine awp_seq (awp_seq (awp_cond rfl (fun h5 => absurd h5 (by decide)) (fun h5 => ?_))) | refine awp_cond rfl (fun h5 => absurd h5 (by decide)) (fun h5 => ?_) | refine awp_seq (awp_seq (awp_seq (awp_cond rfl (fun h5 => absurd h5 (by decide)) (fun h5 => ?_))))
          refine awp_skip ?_
          all_goals first | refine awp_seq (awp_region (id := 19) ?_) | refine awp_seq (awp_seq (awp_region (id := 19) ?_)) | refine awp_region (id := 19) ?_ | refine awp_seq (awp_seq (awp_seq (awp_region (id := 19) ?_)))
          all_goals first | refine awpOps_cons (op_mv rfl (Conv.of rfl) rfl) ?_ | refine awpOps_cons (op_mvl rfl rfl rfl rfl) ?_ | refine awpOps_cons (op_mvo rfl rfl rfl rfl) ?_
          all_goals refine awpOps_cons (op_add rfl rfl rfl (by omega)) ?_
          all_goals first | refine awpOps_cons (op_as rfl (Conv.of rfl) rfl) ?_ | refine awpOps_cons (op_asl rfl rfl rfl rfl) ?_ | refine awpOps_cons (op_aso rfl rfl rfl rfl) ?_
          all_goals refine awpOps_nil ?_
          repeat first | refine nx_seq ?_ | refine nx_block ?_
          exact ⟨n_ - 1, _, by omega, ⟨k + 1, by omega, rfl⟩, Le.mk rfl (tle rfl (rfl) rfl (tlb rfl rfl rfl (tle rfl (rfl) rfl (tle rfl (rfl) rfl (tle rfl (rfl) rfl (tle rfl (rfl) rfl tln)))))) (olk rfl (by first | exact obOk_cell | exact obOk_arr | exact obOkW rfl | exact obOkW0 | exact obOkN | exact obOkS rfl | exact obOkNs | exact obOkS0 | trivial) oln) noS⟩
        · refine awp_exit ?_
          repeat refine ex_seq ?_
          refine ex_block ?_
          all_goals exact Le.mk rfl (tle rfl (rfl) rfl (tlb rfl rfl rfl (tle rfl (rfl) rfl (tle rfl (rfl) rfl (tle rfl (rfl) rfl tln))))) (olk rfl (by first | exact obOk_cell | exact obOk_arr | exact obOkW rfl | exact obOkW0 | exact obOkN | exact obOkS rfl | exact obOkNs | exact obOkS0 | trivial) oln) noS
      · all_goals first | refine awp_seq (awp_region (id := 22) ?_) | refine awp_seq (awp_seq (awp_region (id := 22) ?_)) | refine awp_region (id := 22) ?_ | refine awp_seq (awp_seq (awp_seq (awp_region (id := 22) ?_)))
        all_goals first | refine awpOps_cons (op_mv rfl (Conv.of rfl) rfl) ?_ | refine awpOps_cons (op_mvl rfl rfl rfl rfl) ?_ | refine awpOps_cons (op_mvo rfl rfl rfl rfl) ?_
        all_goals first | refine awpOps_cons (op_mv rfl (Conv.of rfl) rfl) ?_ | refine awpOps_cons (op_mvl rfl rfl rfl rfl) ?_ | refine awpOps_cons (op_mvo rfl rfl rfl rfl) ?_
        all_goals refine awpOps_cons (op_bsl sl33 z34 (.cons rfl (Conv.cl) (.nil _)) rfl (by decide) rfl) ?_
        all_goals refine awpOps_cons (op_app sl33 z34 ul33 rfl rfl rfl (by (simp; omega)) (by (simp; omega)) rfl rfl) ?_
        all_goals first | refine awpOps_cons (op_as rfl (Conv.of rfl) rfl) ?_ | refine awpOps_cons (op_asl rfl rfl rfl rfl) ?_ | refine awpOps_cons (op_aso rfl rfl rfl rfl) ?_
        all_goals refine awpOps_nil ?_
        all_goals first | refine awp_seq (awp_region (id := 11) ?_) | refine awp_seq (awp_seq (awp_region (id := 11) ?_)) | refine awp_region (id := 11) ?_ | refine awp_seq (awp_seq (awp_seq (awp_region (id := 11) ?_)))
        all_goals first | refine awpOps_cons (op_mv rfl (Conv.of rfl) rfl) ?_ | refine awpOps_cons (op_mvl rfl rfl rfl rfl) ?_ | refine awpOps_cons (op_mvo rfl rfl rfl rfl) ?_
        all_goals refine awpOps_cons (op_add rfl rfl rfl (by omega)) ?_
        all_goals first | refine awpOps_cons (op_as rfl (Conv.of rfl) rfl) ?_ | refine awpOps_cons (op_asl rfl rfl rfl rfl) ?_ | refine awpOps_cons (op_aso rfl rfl rfl rfl) ?_
        all_goals refine awpOps_nil ?_
        repeat first | refine nx_seq ?_ | refine nx_block ?_
        exact ⟨n_ - 1, _, by omega, ⟨i + 1, sh ++ [f], by omega, by simp; omega, hsh', rfl⟩, Le.mk rfl (tle rfl (rfl) rfl (tlb rfl rfl rfl (tle rfl (rfl) rfl (tle rfl (rfl) rfl tln)))) (olk rfl (by first | exact obOk_cell | exact obOk_arr | exact obOkW rfl | exact obOkW0 | exact obOkN | exact obOkS rfl | exact obOkNs | exact obOkS0 | trivial) oln) noS⟩
  · refine awp_exit ?_
    repeat refine ex_seq ?_
    refine ex_block ?_
    all_goals first | refine awp_seq (awp_region (id := 23) ?_) | refine awp_seq (awp_seq (awp_region (id := 23) ?_)) | refine awp_region (id := 23) ?_ | refine awp_seq (awp_seq (awp_seq (awp_region (id := 23) ?_)))
    all_goals refine awpOps_cons (op_as rfl (Conv.of rfl) rfl) ?_
    all_goals refine awpOps_nil ?_
    refine awp_ret ?_
    repeat first | refine rt_seq ?_ | refine rt_block ?_
    exact finP (.v rfl (Conv.of rfl)) rfl rfl
end Go.Proofs.YtmdhfalfppkpeaaGreat

/- The law FnWorldMost returns true at every input, and leaves its arguments as they were. No condition. -/
set_option linter.unusedVariables false
namespace Go.Proofs.YtmdhfalfppkpeaaGreat.fnWorldMost
open Go Go.ChangeShapes Go.WideShapes Go.ChangeAt Go.RowKit
theorem own : ownKnob Tryz.prog.godebug = none := by kernel_rfl
theorem laidOut : laidOutB Tryz.prog = true := by kernel_rfl
set_option maxRecDepth 100000 in
theorem lifted (os : Os) (started : os.Started) (H : Type) (enc : TypeId × Value → H) :
    ReturnsInHanded {} Tryz.checked os 3 .any (Rows.fnWorldMostSpec.pre6 enc Tryz.prog Tryz.f3 Rows.fnWorldMostRow.domain false) (Rows.fnWorldMostSpec.post enc Tryz.prog Tryz.f3 false true false false) := by
  refine returnsInHanded_of_change_sized (C := Tryz.checked) own started (by kernel_rfl) Tryz.func3
    (ChangeSpec.witness6 (enc := enc) (C := Tryz.checked) false ⟨#[], #[.slice none 0 0], []⟩ 8 (by kernel_rfl) (by kernel_rfl) (by kernel_rfl) (by kernel_rfl)) ?_
  intro W base args ds gs before hval0 hW hcnd hsz0 _
  have hsz : (DataW.weightsEach Tryz.prog (Tryz.f3.params.toList ++ Rows.fnWorldMostSpec.plain.varTypes Tryz.prog) (ds ++ gs)).all (· ≤ reachBytes) = true := hsz0
  have hval : ∀ (j : Nat) t v, Tryz.f3.params[j]? = some t → args[j]? = some v → Value.okWide Tryz.prog W .any base t v := hval0
  have hW' := hW
  obtain ⟨p, q, hA0, hV, rfl, hfz, hnd⟩ := hW
  have hA : DataW.TrodAll enc Tryz.prog W 0 (fun _ => true) true Tryz.f3.params.toList args.toList ds p := hA0
  rw [Tryz.params3] at hA hval hsz
  obtain ⟨v0, vs0, d0, ds0, p0, q0, hargs, rfl, rfl, h0, r0⟩ := trodAll_cons hA
  obtain ⟨rfl, rfl, rfl⟩ := trodAll_nil r0
  obtain rfl : args = #[v0] := by cases args; simp_all
  obtain ⟨rfl, rfl⟩ := trodVars_none hV
  obtain ⟨a0, len0, cap0, rfl⟩ := okWide_slice Tryz.underlying22 (hval 0 22 v0 rfl rfl)
  have k0 := h0
  have lt0 : ∀ x ∈ p0, x.block < W.heap.size := by obtain ⟨m, hm⟩ := k0; exact DataW.trod_lt m _ _ _ hm
  obtain ⟨z0, w0⟩ := Go.Wt.rowOf (fun _ => rfl) Tryz.underlying22 Tryz.underlying5 (by kernel_rfl) h0
  have y0 := Go.Wt.lenOf hsz (j := 0) (t := 22) rfl rfl Tryz.underlying22 Tryz.underlying5 (by kernel_rfl) (by kernel_rfl) h0
  clear hA0 hval0 hsz0 hsz
  refine (Go.Wt.row1 FnWorldMost_ct W w0 y0).mono fun e W' ⟨he, bel⟩ => ?_
  subst he
  exact ⟨_, rfl, _, _, _, [], _, [], hW', trodAll_mk1 (shut_bool Tryz.underlying4 _), (trodAll_cons_mk (Below.trod laidOut (by kernel_rfl) (of_decide_eq_true (by kernel_rfl)) k0 bel lt0) trodAll_mk0), rfl, bel.frame _, fun h => by cases h⟩
theorem over : Rows.fnWorldMostRow.holds Tryz.pinned (OpenSpec.ofChange Rows.fnWorldMostSpec) :=
  OpenClaim.holds_of_wide 3 Tryz.f3 rfl rfl rfl rfl rfl rfl rfl ⟨rfl, rfl, rfl, rfl, rfl⟩ rfl rfl rfl rfl rfl (by kernel_rfl) Tryz.func3 (by kernel_rfl)
    (of_decide_eq_true (by kernel_rfl)) (by unfold Func.isWrapper; first | (rw [if_pos (by decide +kernel)]; kernel_rfl) | (rw [if_neg (by decide +kernel)]; exact ⟨rfl, rfl⟩))
    (fun os started H enc _ => lifted os started H enc)
end Go.Proofs.YtmdhfalfppkpeaaGreat.fnWorldMost
namespace Go.Proofs.YtmdhfalfppkpeaaGreat
theorem fnWorldMost_holds : Rows.FnWorldMostSaid := fnWorldMost.over
#print axioms fnWorldMost_holds
end Go.Proofs.YtmdhfalfppkpeaaGreat
