/- The law FnWorldShown returns true at every input, and leaves its arguments as they were. No condition. -/
import Derived.Test.YtmdhfalfppkpeaaGreatM6
import Derived.Test.YtmdhfalfppkpeaaGreatRows
import Derived.WalkKit
import Derived.ProofKit
import Derived.OpenShut
import Derived.ShutString
import Derived.ChangeOld
import Derived.Below
import Derived.SizedLaws
import Derived.KernelRfl
/- A law: what a stranger is shown is what all hold. -/
set_option linter.unusedVariables false
set_option linter.unusedSimpArgs false
namespace Go.Proofs.YtmdhfalfppkpeaaGreat
open Go Go.Wt
set_option maxHeartbeats 4000000 in
theorem FnWorldShown_ct (code more : List UInt8) : CtP Tryz.prog 4 [.v code, .v more] (.v true) := by
  refine Ct.intro Tryz.func4 rfl rfl ?_
  refine awp_bigL 1 rfl (fun hmore => ?_)
  all_goals first | refine awp_seq (awp_region (id := 0) ?_) | refine awp_seq (awp_seq (awp_region (id := 0) ?_)) | refine awp_region (id := 0) ?_ | refine awp_seq (awp_seq (awp_seq (awp_region (id := 0) ?_)))
  all_goals refine awpOps_cons (op_as rfl (Conv.of rfl) rfl) ?_
  all_goals refine awpOps_nil ?_
  first | refine awp_seq (awp_seq (awp_seq (awp_seq_to (s' := mkSt 134 [(0, .v code), (1, .v more), (25, .v (decide ((code.length : Int) > 1048576) || decide ((more.length : Int) > 1048576)))] []) ?_ ?_))) | refine awp_seq (awp_seq (awp_seq_to (s' := mkSt 134 [(0, .v code), (1, .v more), (25, .v (decide ((code.length : Int) > 1048576) || decide ((more.length : Int) > 1048576)))] []) ?_ ?_)) | refine awp_seq (awp_seq_to (s' := mkSt 134 [(0, .v code), (1, .v more), (25, .v (decide ((code.length : Int) > 1048576) || decide ((more.length : Int) > 1048576)))] []) ?_ ?_) | refine awp_seq_to (s' := mkSt 134 [(0, .v code), (1, .v more), (25, .v (decide ((code.length : Int) > 1048576) || decide ((more.length : Int) > 1048576)))] []) ?_ ?_ | refine awp_toB (s' := mkSt 134 [(0, .v code), (1, .v more), (25, .v (decide ((code.length : Int) > 1048576) || decide ((more.length : Int) > 1048576)))] []) ?_ ?_ | refine awp_to (s' := mkSt 134 [(0, .v code), (1, .v more), (25, .v (decide ((code.length : Int) > 1048576) || decide ((more.length : Int) > 1048576)))] []) ?_ ?_
  · all_goals first | refine awp_seq (awp_region (id := 1) ?_) | refine awp_seq (awp_seq (awp_region (id := 1) ?_)) | refine awp_region (id := 1) ?_ | refine awp_seq (awp_seq (awp_seq (awp_region (id := 1) ?_)))
    all_goals first | refine awpOps_cons (op_mv rfl (Conv.of rfl) rfl) ?_ | refine awpOps_cons (op_mvl rfl rfl rfl rfl) ?_ | refine awpOps_cons (op_mvo rfl rfl rfl rfl) ?_
    all_goals first | refine awpOps_cons (op_len sl22 rfl rfl) ?_ | refine awpOps_cons (op_lenA sl22 rfl rfl rfl) ?_
    all_goals refine awpOps_cons (op_gtr rfl rfl rfl) ?_
    all_goals first | refine awpOps_cons (op_mv rfl (Conv.of rfl) rfl) ?_ | refine awpOps_cons (op_mvl rfl rfl rfl rfl) ?_ | refine awpOps_cons (op_mvo rfl rfl rfl rfl) ?_
    all_goals first | refine g_lit (t := 21) (b := true) rfl ?_ | refine g_lit (t := 21) (b := false) rfl ?_ | refine g_ulit (t := 21) rfl ?_ | refine g_split (t := 21) rfl (fun h => ?_) (fun h => ?_)
    all_goals first | refine awpOps_cons (g_off rfl rfl rfl rfl rfl) ?_ | refine awpOps_cons (g_und rfl rfl rfl) ?_ | refine awpOps_cons (g_on rfl rfl rfl (op_mv rfl (Conv.of rfl) rfl)) ?_ | refine awpOps_cons (g_on rfl rfl rfl (op_mvl rfl rfl rfl rfl)) ?_ | refine awpOps_cons (g_on rfl rfl rfl (op_mvo rfl rfl rfl rfl)) ?_
    all_goals first | refine awpOps_cons (g_off rfl rfl rfl rfl rfl) ?_ | refine awpOps_cons (g_und rfl rfl rfl) ?_ | refine awpOps_cons (g_on rfl rfl rfl (op_len sl22 rfl rfl)) ?_ | refine awpOps_cons (g_on rfl rfl rfl (op_lenA sl22 rfl rfl rfl)) ?_
    all_goals first | refine awpOps_cons (g_off rfl rfl rfl rfl rfl) ?_ | refine awpOps_cons (g_und rfl rfl rfl) ?_ | refine awpOps_cons (g_on rfl rfl rfl (op_gtr rfl rfl rfl)) ?_
    all_goals refine awpOps_cons (op_pick rfl rfl rfl rfl) ?_
    all_goals refine awpOps_nil ?_
    all_goals exact Le.mk rfl (tle rfl (rfl) rfl (tle rfl (rfl) rfl (tle rfl (by first | rfl | (simp_all; try omega)) rfl tln))) oln noS
  first | refine awp_seq (awp_cond rfl (fun h => ?_) (fun h => ?_)) | refine awp_seq (awp_seq (awp_cond rfl (fun h => ?_) (fun h => ?_))) | refine awp_cond rfl (fun h => ?_) (fun h => ?_) | refine awp_seq (awp_seq (awp_seq (awp_cond rfl (fun h => ?_) (fun h => ?_))))
  · all_goals first | refine awp_seq (awp_region (id := 2) ?_) | refine awp_seq (awp_seq (awp_region (id := 2) ?_)) | refine awp_region (id := 2) ?_ | refine awp_seq (awp_seq (awp_seq (awp_region (id := 2) ?_)))
    all_goals refine awpOps_cons (op_as rfl (Conv.of rfl) rfl) ?_
    all_goals refine awpOps_nil ?_
    refine awp_ret ?_
    repeat first | refine rt_seq ?_ | refine rt_block ?_
    exact finP (.v rfl (Conv.of rfl)) rfl rfl
  refine awp_skip ?_
  all_goals first | refine awp_seq (awp_region (id := 3) ?_) | refine awp_seq (awp_seq (awp_region (id := 3) ?_)) | refine awp_region (id := 3) ?_ | refine awp_seq (awp_seq (awp_seq (awp_region (id := 3) ?_)))
  all_goals first | refine awpOps_cons (op_mv rfl (Conv.of rfl) rfl) ?_ | refine awpOps_cons (op_mvl rfl rfl rfl rfl) ?_ | refine awpOps_cons (op_mvo rfl rfl rfl rfl) ?_
  refine awpOps_callE (ι := Int × List Evt) [] (fun i => .tup [.v i.1, .v i.2]) (fun _ => []) (fun i => i.2.length ≤ 100) rfl fb15 (.cons rfl (Conv.of rfl) (.nil _)) (drawPlay_ct code) (fun r h' ⟨bad, evs, e1, e2, e3⟩ => ⟨(bad, evs), e1, e2, e3⟩) ols0 oks0 (argOk' rfl rfl argO0) rfl (fun _ => rfl) (fun _ => oks0) (fun _ o ho => by cases ho) ?_
  rintro ⟨bad, evs⟩ he
  simp only at he ⊢
  all_goals first | refine awpOps_cons (op_mv rfl (Conv.of rfl) rfl) ?_ | refine awpOps_cons (op_mvl rfl rfl rfl rfl) ?_ | refine awpOps_cons (op_mvo rfl rfl rfl rfl) ?_
  all_goals refine awpOps_cons (op_ext rfl rfl rfl) ?_
  all_goals refine awpOps_cons (op_ext rfl rfl rfl) ?_
  all_goals first | refine awpOps_cons (op_as rfl (Conv.of rfl) rfl) ?_ | refine awpOps_cons (op_asl rfl rfl rfl rfl) ?_ | refine awpOps_cons (op_aso rfl rfl rfl rfl) ?_
  all_goals first | refine awpOps_cons (op_as rfl (Conv.of rfl) rfl) ?_ | refine awpOps_cons (op_asl rfl rfl rfl rfl) ?_ | refine awpOps_cons (op_aso rfl rfl rfl rfl) ?_
  all_goals refine awpOps_nil ?_
  all_goals first | refine awp_seq (awp_region (id := 4) ?_) | refine awp_seq (awp_seq (awp_region (id := 4) ?_)) | refine awp_region (id := 4) ?_ | refine awp_seq (awp_seq (awp_seq (awp_region (id := 4) ?_)))
  all_goals first | refine awpOps_cons (op_mv rfl (Conv.of rfl) rfl) ?_ | refine awpOps_cons (op_mvl rfl rfl rfl rfl) ?_ | refine awpOps_cons (op_mvo rfl rfl rfl rfl) ?_
  all_goals first | refine awpOps_cons (op_mv rfl (Conv.of rfl) rfl) ?_ | refine awpOps_cons (op_mvl rfl rfl rfl rfl) ?_ | refine awpOps_cons (op_mvo rfl rfl rfl rfl) ?_
  all_goals refine awpOps_cons (op_call fb16 (.cons rfl (Conv.of rfl) (.cons rfl (Conv.of rfl) (.nil _))) (iPlay_ct bad evs) (argOk rfl rfl (argOk rfl rfl argOk0)) rfl rfl) ?_
  all_goals first | refine awpOps_cons (op_mv rfl (Conv.of rfl) rfl) ?_ | refine awpOps_cons (op_mvl rfl rfl rfl rfl) ?_ | refine awpOps_cons (op_mvo rfl rfl rfl rfl) ?_
  all_goals refine awpOps_cons (op_ext rfl rfl rfl) ?_
  all_goals refine awpOps_cons (op_ext rfl rfl rfl) ?_
  all_goals refine awpOps_cons (op_alloc (o := 0) z29 rfl rfl) ?_
  all_goals first | refine awpOps_cons (op_st ty29 rfl rfl (Conv.of rfl) rfl) ?_ | refine awpOps_cons (op_ste ty29 rfl rfl (Conv.of rfl) rfl (by assumption)) ?_ | refine awpOps_cons (op_stm ty29 rfl rfl rfl) ?_ | refine awpOps_cons (op_stme ty29 rfl rfl rfl (by assumption)) ?_
  all_goals first | refine awpOps_cons (op_as rfl (Conv.of rfl) rfl) ?_ | refine awpOps_cons (op_asl rfl rfl rfl rfl) ?_ | refine awpOps_cons (op_aso rfl rfl rfl rfl) ?_
  all_goals refine awpOps_nil ?_
  all_goals first | refine awp_seq (awp_region (id := 5) ?_) | refine awp_seq (awp_seq (awp_region (id := 5) ?_)) | refine awp_region (id := 5) ?_ | refine awp_seq (awp_seq (awp_seq (awp_region (id := 5) ?_)))
  all_goals first | refine awpOps_cons (op_mv rfl (Conv.of rfl) rfl) ?_ | refine awpOps_cons (op_mvl rfl rfl rfl rfl) ?_ | refine awpOps_cons (op_mvo rfl rfl rfl rfl) ?_
  all_goals first | refine awpOps_cons (op_mv rfl (Conv.of rfl) rfl) ?_ | refine awpOps_cons (op_mvl rfl rfl rfl rfl) ?_ | refine awpOps_cons (op_mvo rfl rfl rfl rfl) ?_
  all_goals refine awpOps_cons (op_call fb17 (.cons rfl (Conv.of rfl) (.cons rfl (Conv.of rfl) (.nil _))) (sPlayR_ct bad evs) (argOk rfl rfl (argOk rfl rfl argOk0)) rfl rfl) ?_
  all_goals first | refine awpOps_cons (op_mv rfl (Conv.of rfl) rfl) ?_ | refine awpOps_cons (op_mvl rfl rfl rfl rfl) ?_ | refine awpOps_cons (op_mvo rfl rfl rfl rfl) ?_
  all_goals refine awpOps_cons (op_ext rfl rfl rfl) ?_
  all_goals refine awpOps_cons (op_ext rfl rfl rfl) ?_
  all_goals refine awpOps_cons (op_alloc (o := 1) z29 rfl rfl) ?_
  all_goals first | refine awpOps_cons (op_st ty29 rfl rfl (Conv.of rfl) rfl) ?_ | refine awpOps_cons (op_ste ty29 rfl rfl (Conv.of rfl) rfl (by assumption)) ?_ | refine awpOps_cons (op_stm ty29 rfl rfl rfl) ?_ | refine awpOps_cons (op_stme ty29 rfl rfl rfl (by assumption)) ?_
  all_goals first | refine awpOps_cons (op_as rfl (Conv.of rfl) rfl) ?_ | refine awpOps_cons (op_asl rfl rfl rfl rfl) ?_ | refine awpOps_cons (op_aso rfl rfl rfl rfl) ?_
  all_goals refine awpOps_nil ?_
  first | refine awp_seq (awp_seq (awp_seq (awp_seq_to (s' := mkSt 134 [(1, .v more), (5, .v bad), (6, .v evs), (7, .box 0 (IsLens.whole Wrld)), (8, .v (playR bad evs).2), (9, .box 1 (IsLens.whole Wrld)), (10, .v (playR bad evs).2), (55, .v (!(playR bad evs).2))] [(0, .cell (playR bad evs).1), (1, .cell (playR bad evs).1)]) ?_ ?_))) | refine awp_seq (awp_seq (awp_seq_to (s' := mkSt 134 [(1, .v more), (5, .v bad), (6, .v evs), (7, .box 0 (IsLens.whole Wrld)), (8, .v (playR bad evs).2), (9, .box 1 (IsLens.whole Wrld)), (10, .v (playR bad evs).2), (55, .v (!(playR bad evs).2))] [(0, .cell (playR bad evs).1), (1, .cell (playR bad evs).1)]) ?_ ?_)) | refine awp_seq (awp_seq_to (s' := mkSt 134 [(1, .v more), (5, .v bad), (6, .v evs), (7, .box 0 (IsLens.whole Wrld)), (8, .v (playR bad evs).2), (9, .box 1 (IsLens.whole Wrld)), (10, .v (playR bad evs).2), (55, .v (!(playR bad evs).2))] [(0, .cell (playR bad evs).1), (1, .cell (playR bad evs).1)]) ?_ ?_) | refine awp_seq_to (s' := mkSt 134 [(1, .v more), (5, .v bad), (6, .v evs), (7, .box 0 (IsLens.whole Wrld)), (8, .v (playR bad evs).2), (9, .box 1 (IsLens.whole Wrld)), (10, .v (playR bad evs).2), (55, .v (!(playR bad evs).2))] [(0, .cell (playR bad evs).1), (1, .cell (playR bad evs).1)]) ?_ ?_ | refine awp_toB (s' := mkSt 134 [(1, .v more), (5, .v bad), (6, .v evs), (7, .box 0 (IsLens.whole Wrld)), (8, .v (playR bad evs).2), (9, .box 1 (IsLens.whole Wrld)), (10, .v (playR bad evs).2), (55, .v (!(playR bad evs).2))] [(0, .cell (playR bad evs).1), (1, .cell (playR bad evs).1)]) ?_ ?_ | refine awp_to (s' := mkSt 134 [(1, .v more), (5, .v bad), (6, .v evs), (7, .box 0 (IsLens.whole Wrld)), (8, .v (playR bad evs).2), (9, .box 1 (IsLens.whole Wrld)), (10, .v (playR bad evs).2), (55, .v (!(playR bad evs).2))] [(0, .cell (playR bad evs).1), (1, .cell (playR bad evs).1)]) ?_ ?_
  · all_goals first | refine awp_seq (awp_region (id := 6) ?_) | refine awp_seq (awp_seq (awp_region (id := 6) ?_)) | refine awp_region (id := 6) ?_ | refine awp_seq (awp_seq (awp_seq (awp_region (id := 6) ?_)))
    all_goals first | refine awpOps_cons (op_mv rfl (Conv.of rfl) rfl) ?_ | refine awpOps_cons (op_mvl rfl rfl rfl rfl) ?_ | refine awpOps_cons (op_mvo rfl rfl rfl rfl) ?_
    all_goals first | refine awpOps_cons (op_mv rfl (Conv.of rfl) rfl) ?_ | refine awpOps_cons (op_mvl rfl rfl rfl rfl) ?_ | refine awpOps_cons (op_mvo rfl rfl rfl rfl) ?_
    all_goals refine awpOps_cons (op_bneq ub4 rfl rfl rfl) ?_
    all_goals first | refine awpOps_cons (op_mv rfl (Conv.of rfl) rfl) ?_ | refine awpOps_cons (op_mvl rfl rfl rfl rfl) ?_ | refine awpOps_cons (op_mvo rfl rfl rfl rfl) ?_
    all_goals first | refine g_lit (t := 46) (b := true) rfl ?_ | refine g_lit (t := 46) (b := false) rfl ?_ | refine g_ulit (t := 46) rfl ?_ | refine g_split (t := 46) rfl (fun h => ?_) (fun h => ?_)
    all_goals first | refine awpOps_cons (g_off rfl rfl rfl rfl rfl) ?_ | refine awpOps_cons (g_und rfl rfl rfl) ?_ | refine awpOps_cons (g_on rfl rfl rfl (op_ld ty29 rfl rfl rfl)) ?_ | refine awpOps_cons (g_on rfl rfl rfl (op_ldr ty29 rfl rfl)) ?_ | refine awpOps_cons (g_on rfl rfl rfl (op_lde ty29 rfl rfl (by assumption) rfl)) ?_ | refine awpOps_cons (g_on rfl rfl rfl (op_ldl ty29 rfl rfl rfl)) ?_ | refine awpOps_cons (g_on rfl rfl rfl (op_ldd ty29 rfl rfl rfl)) ?_ | refine awpOps_cons (g_on rfl rfl rfl (op_ldde ty29 rfl rfl (by assumption) rfl)) ?_
    all_goals first | refine awpOps_cons (g_off rfl rfl rfl rfl rfl) ?_ | refine awpOps_cons (g_und rfl rfl rfl) ?_ | refine awpOps_cons (g_on rfl rfl rfl (op_ld ty29 rfl rfl rfl)) ?_ | refine awpOps_cons (g_on rfl rfl rfl (op_ldr ty29 rfl rfl)) ?_ | refine awpOps_cons (g_on rfl rfl rfl (op_lde ty29 rfl rfl (by assumption) rfl)) ?_ | refine awpOps_cons (g_on rfl rfl rfl (op_ldl ty29 rfl rfl rfl)) ?_ | refine awpOps_cons (g_on rfl rfl rfl (op_ldd ty29 rfl rfl rfl)) ?_ | refine awpOps_cons (g_on rfl rfl rfl (op_ldde ty29 rfl rfl (by assumption) rfl)) ?_
    all_goals first | refine awpOps_cons (g_off rfl rfl rfl rfl rfl) ?_ | refine awpOps_cons (g_und rfl rfl rfl) ?_ | refine awpOps_cons (g_on rfl rfl rfl (op_call fb18 (.cons rfl (Conv.of rfl) (.cons rfl (Conv.of rfl) (.nil _))) (lwWorld_ct _ _) (argOk rfl rfl (argOk rfl rfl argOk0)) rfl rfl)) ?_
    all_goals first | refine awpOps_cons (g_off rfl rfl rfl rfl rfl) ?_ | refine awpOps_cons (g_und rfl rfl rfl) ?_ | refine awpOps_cons (g_on rfl rfl rfl (op_not rfl rfl)) ?_
    all_goals refine awpOps_cons (op_pick rfl rfl rfl rfl) ?_
    all_goals first | refine awpOps_cons (op_mv rfl (Conv.of rfl) rfl) ?_ | refine awpOps_cons (op_mvl rfl rfl rfl rfl) ?_ | refine awpOps_cons (op_mvo rfl rfl rfl rfl) ?_
    all_goals first | refine g_lit (t := 52) (b := true) rfl ?_ | refine g_lit (t := 52) (b := false) rfl ?_ | refine g_ulit (t := 52) rfl ?_ | refine g_split (t := 52) rfl (fun h => ?_) (fun h => ?_)
    all_goals first | refine awpOps_cons (g_off rfl rfl rfl rfl rfl) ?_ | refine awpOps_cons (g_und rfl rfl rfl) ?_ | refine awpOps_cons (g_on rfl rfl rfl (op_mv rfl (Conv.of rfl) rfl)) ?_ | refine awpOps_cons (g_on rfl rfl rfl (op_mvl rfl rfl rfl rfl)) ?_ | refine awpOps_cons (g_on rfl rfl rfl (op_mvo rfl rfl rfl rfl)) ?_
    all_goals first | refine awpOps_cons (g_off rfl rfl rfl rfl rfl) ?_ | refine awpOps_cons (g_und rfl rfl rfl) ?_ | refine awpOps_cons (g_on rfl rfl rfl (op_not rfl rfl)) ?_
    all_goals refine awpOps_cons (op_pick rfl rfl rfl rfl) ?_
    all_goals refine awpOps_nil ?_
    all_goals exact Le.mk rfl (tle rfl (rfl) rfl (tle rfl (rfl) rfl (tle rfl (rfl) rfl (tlb rfl rfl rfl (tle rfl (rfl) rfl (tlb rfl rfl rfl (tle rfl (rfl) rfl (tle rfl (by first | rfl | (simp_all)) rfl tln)))))))) (olk rfl (by first | exact obOk_cell | exact obOk_arr | exact obOkW rfl | exact obOkW0 | exact obOkN | exact obOkS rfl | exact obOkNs | exact obOkS0 | trivial) (olk rfl (by first | exact obOk_cell | exact obOk_arr | exact obOkW rfl | exact obOkW0 | exact obOkN | exact obOkS rfl | exact obOkNs | exact obOkS0 | trivial) oln)) noS
  first | refine awp_seq (awp_cond rfl (fun h => ?_) (fun h => ?_)) | refine awp_seq (awp_seq (awp_cond rfl (fun h => ?_) (fun h => ?_))) | refine awp_cond rfl (fun h => ?_) (fun h => ?_) | refine awp_seq (awp_seq (awp_seq (awp_cond rfl (fun h => ?_) (fun h => ?_))))
  · all_goals first | refine awp_seq (awp_region (id := 7) ?_) | refine awp_seq (awp_seq (awp_region (id := 7) ?_)) | refine awp_region (id := 7) ?_ | refine awp_seq (awp_seq (awp_seq (awp_region (id := 7) ?_)))
    all_goals first | refine awpOps_cons (op_mv rfl (Conv.of rfl) rfl) ?_ | refine awpOps_cons (op_mvl rfl rfl rfl rfl) ?_ | refine awpOps_cons (op_mvo rfl rfl rfl rfl) ?_
    all_goals first | refine awpOps_cons (op_mv rfl (Conv.of rfl) rfl) ?_ | refine awpOps_cons (op_mvl rfl rfl rfl rfl) ?_ | refine awpOps_cons (op_mvo rfl rfl rfl rfl) ?_
    all_goals refine awpOps_cons (op_beql ub4 rfl rfl rfl) ?_
    all_goals first | refine awpOps_cons (op_mv rfl (Conv.of rfl) rfl) ?_ | refine awpOps_cons (op_mvl rfl rfl rfl rfl) ?_ | refine awpOps_cons (op_mvo rfl rfl rfl rfl) ?_
    all_goals first | refine g_lit (t := 59) (b := true) rfl ?_ | refine g_lit (t := 59) (b := false) rfl ?_ | refine g_ulit (t := 59) rfl ?_ | refine g_split (t := 59) rfl (fun h => ?_) (fun h => ?_)
    all_goals first | refine awpOps_cons (g_off rfl rfl rfl rfl rfl) ?_ | refine awpOps_cons (g_und rfl rfl rfl) ?_ | refine awpOps_cons (g_on rfl rfl rfl (op_ld ty29 rfl rfl rfl)) ?_ | refine awpOps_cons (g_on rfl rfl rfl (op_ldr ty29 rfl rfl)) ?_ | refine awpOps_cons (g_on rfl rfl rfl (op_lde ty29 rfl rfl (by assumption) rfl)) ?_ | refine awpOps_cons (g_on rfl rfl rfl (op_ldl ty29 rfl rfl rfl)) ?_ | refine awpOps_cons (g_on rfl rfl rfl (op_ldd ty29 rfl rfl rfl)) ?_ | refine awpOps_cons (g_on rfl rfl rfl (op_ldde ty29 rfl rfl (by assumption) rfl)) ?_
    all_goals first | refine awpOps_cons (g_off rfl rfl rfl rfl rfl) ?_ | refine awpOps_cons (g_und rfl rfl rfl) ?_ | refine awpOps_cons (g_on rfl rfl rfl (op_ld ty29 rfl rfl rfl)) ?_ | refine awpOps_cons (g_on rfl rfl rfl (op_ldr ty29 rfl rfl)) ?_ | refine awpOps_cons (g_on rfl rfl rfl (op_lde ty29 rfl rfl (by assumption) rfl)) ?_ | refine awpOps_cons (g_on rfl rfl rfl (op_ldl ty29 rfl rfl rfl)) ?_ | refine awpOps_cons (g_on rfl rfl rfl (op_ldd ty29 rfl rfl rfl)) ?_ | refine awpOps_cons (g_on rfl rfl rfl (op_ldde ty29 rfl rfl (by assumption) rfl)) ?_
    all_goals first | refine awpOps_cons (g_off rfl rfl rfl rfl rfl) ?_ | refine awpOps_cons (g_und rfl rfl rfl) ?_ | refine awpOps_cons (g_on rfl rfl rfl (op_call fb18 (.cons rfl (Conv.of rfl) (.cons rfl (Conv.of rfl) (.nil _))) (lwWorld_ct _ _) (argOk rfl rfl (argOk rfl rfl argOk0)) rfl rfl)) ?_
    all_goals refine awpOps_cons (op_pick rfl rfl rfl rfl) ?_
    all_goals first | refine awpOps_cons (op_as rfl (Conv.of rfl) rfl) ?_ | refine awpOps_cons (op_asl rfl rfl rfl rfl) ?_ | refine awpOps_cons (op_aso rfl rfl rfl rfl) ?_
    all_goals refine awpOps_nil ?_
    all_goals refine awp_ret ?_
    all_goals refine finP (.v rfl (Conv.of rfl)) rfl ?_
    all_goals simp_all [FV.av]
  obtain ⟨hb, hl, hw⟩ := playR_ok (not_f h)
  rw [hw]
  have hI := Inv.play hb evs
  have hbad := play_bad bad evs
  generalize playF bad evs = w at hI hbad ⊢
  subst hbad
  refine awp_skip ?_
  have h4 := hI.ok.four
  have hwo := hI.worldOk
  have hlo := hI.ok.log
  have hll := hI.ok.ll
  have hbnd := hI.bad
  simp only [within, Bool.and_eq_true, decide_eq_true_eq] at hbnd
  all_goals first | refine awp_seq (awp_region (id := 8) ?_) | refine awp_seq (awp_seq (awp_region (id := 8) ?_)) | refine awp_region (id := 8) ?_ | refine awp_seq (awp_seq (awp_seq (awp_region (id := 8) ?_)))
  all_goals refine awpOps_cons (op_bsl sl27 z48 (.nil _) rfl (by decide) rfl) ?_
  all_goals first | refine awpOps_cons (op_fab f29_2 rfl rfl) ?_ | refine awpOps_cons (op_far f29_2 rfl rfl) ?_ | refine awpOps_cons (op_fae f29_2 rfl rfl) ?_
  all_goals first | refine awpOps_cons (op_ld ty27 rfl rfl rfl) ?_ | refine awpOps_cons (op_ldr ty27 rfl rfl) ?_ | refine awpOps_cons (op_lde ty27 rfl rfl (by assumption) rfl) ?_ | refine awpOps_cons (op_ldl ty27 rfl rfl rfl) ?_ | refine awpOps_cons (op_ldd ty27 rfl rfl rfl) ?_ | refine awpOps_cons (op_ldde ty27 rfl rfl (by assumption) rfl) ?_
  all_goals refine awpOps_cons (op_app sl27 z48 ul27 rfl rfl rfl (by (simp; omega)) (by (simp; omega)) rfl rfl) ?_
  all_goals first | refine awpOps_cons (op_as rfl (Conv.of rfl) rfl) ?_ | refine awpOps_cons (op_asl rfl rfl rfl rfl) ?_ | refine awpOps_cons (op_aso rfl rfl rfl rfl) ?_
  all_goals refine awpOps_nil ?_
  all_goals first | refine awp_seq (awp_region (id := 9) ?_) | refine awp_seq (awp_seq (awp_region (id := 9) ?_)) | refine awp_region (id := 9) ?_ | refine awp_seq (awp_seq (awp_seq (awp_region (id := 9) ?_)))
  all_goals refine awpOps_cons (op_as rfl (Conv.of rfl) rfl) ?_
  all_goals refine awpOps_nil ?_
  first | refine awp_seq_ex (ι := List Vote) (fun L => mkSt 134 [(5, .v w.bad), (7, .box 0 (IsLens.whole Wrld)), (11, .v (OList.mk L true))] [(0, .cell w)]) (fun L => votesOk L = true ∧ L.length ≤ 200 ∧ (∀ v ∈ L, v ∈ w.log ∨ v.by_ = w.bad) ∧ ∀ v ∈ w.log, v ∈ L) ?_ ?_ | refine nx_seq (awp_to_ex (ι := List Vote) (fun L => mkSt 134 [(5, .v w.bad), (7, .box 0 (IsLens.whole Wrld)), (11, .v (OList.mk L true))] [(0, .cell w)]) (fun L => votesOk L = true ∧ L.length ≤ 200 ∧ (∀ v ∈ L, v ∈ w.log ∨ v.by_ = w.bad) ∧ ∀ v ∈ w.log, v ∈ L) ?_ ?_) | refine awp_to_ex (ι := List Vote) (fun L => mkSt 134 [(5, .v w.bad), (7, .box 0 (IsLens.whole Wrld)), (11, .v (OList.mk L true))] [(0, .cell w)]) (fun L => votesOk L = true ∧ L.length ≤ 200 ∧ (∀ v ∈ L, v ∈ w.log ∨ v.by_ = w.bad) ∧ ∀ v ∈ w.log, v ∈ L) ?_ ?_
  · first | refine awp_seq (awp_block ?_) | refine awp_seq (awp_seq (awp_block ?_)) | refine awp_block ?_ | refine awp_seq (awp_seq (awp_seq (awp_block ?_)))
    first | refine awp_seq (awp_loop' (fun n_ s => ∃ (i : Nat), ∃ (L : List Vote), ∃ (hi : n_ + i = w.log.length), ∃ (hLo : votesOk L = true), ∃ (hLl : L.length ≤ w.log.length + i), ∃ (hL1 : ∀ v ∈ L, v ∈ w.log ∨ v.by_ = w.bad), ∃ (hL2 : ∀ v ∈ w.log, v ∈ L), s = mkSt 134 [(5, .v w.bad), (7, .box 0 (IsLens.whole Wrld)), (11, .v (OList.mk L true)), (12, .v (i : Int))] [(0, .cell w)]) (w.log.length) ⟨0, w.log, by omega, hlo, by omega, (fun v hv => .inl hv), (fun v hv => hv), rfl⟩ (Le.mk rfl (tle rfl (rfl) rfl (tlb rfl rfl rfl (tle rfl (rfl) rfl (tle rfl (rfl) rfl tln)))) (olk rfl (by first | exact obOk_cell | exact obOk_arr | exact obOkW rfl | exact obOkW0 | exact obOkN | exact obOkS rfl | exact obOkNs | exact obOkS0 | trivial) oln) noS) ?_) | refine awp_seq (awp_seq (awp_loop' (fun n_ s => ∃ (i : Nat), ∃ (L : List Vote), ∃ (hi : n_ + i = w.log.length), ∃ (hLo : votesOk L = true), ∃ (hLl : L.length ≤ w.log.length + i), ∃ (hL1 : ∀ v ∈ L, v ∈ w.log ∨ v.by_ = w.bad), ∃ (hL2 : ∀ v ∈ w.log, v ∈ L), s = mkSt 134 [(5, .v w.bad), (7, .box 0 (IsLens.whole Wrld)), (11, .v (OList.mk L true)), (12, .v (i : Int))] [(0, .cell w)]) (w.log.length) ⟨0, w.log, by omega, hlo, by omega, (fun v hv => .inl hv), (fun v hv => hv), rfl⟩ (Le.mk rfl (tle rfl (rfl) rfl (tlb rfl rfl rfl (tle rfl (rfl) rfl (tle rfl (rfl) rfl tln)))) (olk rfl (by first | exact obOk_cell | exact obOk_arr | exact obOkW rfl | exact obOkW0 | exact obOkN | exact obOkS rfl | exact obOkNs | exact obOkS0 | trivial) oln) noS) ?_)) | refine awp_loop' (fun n_ s => ∃ (i : Nat), ∃ (L : List Vote), ∃ (hi : n_ + i = w.log.length), ∃ (hLo : votesOk L = true), ∃ (hLl : L.length ≤ w.log.length + i), ∃ (hL1 : ∀ v ∈ L, v ∈ w.log ∨ v.by_ = w.bad), ∃ (hL2 : ∀ v ∈ w.log, v ∈ L), s = mkSt 134 [(5, .v w.bad), (7, .box 0 (IsLens.whole Wrld)), (11, .v (OList.mk L true)), (12, .v (i : Int))] [(0, .cell w)]) (w.log.length) ⟨0, w.log, by omega, hlo, by omega, (fun v hv => .inl hv), (fun v hv => hv), rfl⟩ (Le.mk rfl (tle rfl (rfl) rfl (tlb rfl rfl rfl (tle rfl (rfl) rfl (tle rfl (rfl) rfl tln)))) (olk rfl (by first | exact obOk_cell | exact obOk_arr | exact obOkW rfl | exact obOkW0 | exact obOkN | exact obOkS rfl | exact obOkNs | exact obOkS0 | trivial) oln) noS) ?_ | refine awp_seq (awp_seq (awp_seq (awp_loop' (fun n_ s => ∃ (i : Nat), ∃ (L : List Vote), ∃ (hi : n_ + i = w.log.length), ∃ (hLo : votesOk L = true), ∃ (hLl : L.length ≤ w.log.length + i), ∃ (hL1 : ∀ v ∈ L, v ∈ w.log ∨ v.by_ = w.bad), ∃ (hL2 : ∀ v ∈ w.log, v ∈ L), s = mkSt 134 [(5, .v w.bad), (7, .box 0 (IsLens.whole Wrld)), (11, .v (OList.mk L true)), (12, .v (i : Int))] [(0, .cell w)]) (w.log.length) ⟨0, w.log, by omega, hlo, by omega, (fun v hv => .inl hv), (fun v hv => hv), rfl⟩ (Le.mk rfl (tle rfl (rfl) rfl (tlb rfl rfl rfl (tle rfl (rfl) rfl (tle rfl (rfl) rfl tln)))) (olk rfl (by first | exact obOk_cell | exact obOk_arr | exact obOkW rfl | exact obOkW0 | exact obOkN | exact obOkS rfl | exact obOkNs | exact obOkS0 | trivial) oln) noS) ?_)))
    rintro n_ s ⟨i, L, hi, hLo, hLl, hL1, hL2, rfl⟩
    first | refine awp_seq (awp_seq (awp_seq (awp_seq_to (s' := mkSt 134 [(5, .v w.bad), (7, .box 0 (IsLens.whole Wrld)), (11, .v (OList.mk L true)), (12, .v (i : Int)), (76, .v (decide (i < w.log.length) && decide (0 < w.bad)))] [(0, .cell w)]) ?_ ?_))) | refine awp_seq (awp_seq (awp_seq_to (s' := mkSt 134 [(5, .v w.bad), (7, .box 0 (IsLens.whole Wrld)), (11, .v (OList.mk L true)), (12, .v (i : Int)), (76, .v (decide (i < w.log.length) && decide (0 < w.bad)))] [(0, .cell w)]) ?_ ?_)) | refine awp_seq (awp_seq_to (s' := mkSt 134 [(5, .v w.bad), (7, .box 0 (IsLens.whole Wrld)), (11, .v (OList.mk L true)), (12, .v (i : Int)), (76, .v (decide (i < w.log.length) && decide (0 < w.bad)))] [(0, .cell w)]) ?_ ?_) | refine awp_seq_to (s' := mkSt 134 [(5, .v w.bad), (7, .box 0 (IsLens.whole Wrld)), (11, .v (OList.mk L true)), (12, .v (i : Int)), (76, .v (decide (i < w.log.length) && decide (0 < w.bad)))] [(0, .cell w)]) ?_ ?_ | refine awp_toB (s' := mkSt 134 [(5, .v w.bad), (7, .box 0 (IsLens.whole Wrld)), (11, .v (OList.mk L true)), (12, .v (i : Int)), (76, .v (decide (i < w.log.length) && decide (0 < w.bad)))] [(0, .cell w)]) ?_ ?_ | refine awp_to (s' := mkSt 134 [(5, .v w.bad), (7, .box 0 (IsLens.whole Wrld)), (11, .v (OList.mk L true)), (12, .v (i : Int)), (76, .v (decide (i < w.log.length) && decide (0 < w.bad)))] [(0, .cell w)]) ?_ ?_
    · all_goals first | refine awp_seq (awp_region (id := 10) ?_) | refine awp_seq (awp_seq (awp_region (id := 10) ?_)) | refine awp_region (id := 10) ?_ | refine awp_seq (awp_seq (awp_seq (awp_region (id := 10) ?_)))
      all_goals first | refine awpOps_cons (op_mv rfl (Conv.of rfl) rfl) ?_ | refine awpOps_cons (op_mvl rfl rfl rfl rfl) ?_ | refine awpOps_cons (op_mvo rfl rfl rfl rfl) ?_
      all_goals first | refine awpOps_cons (op_fab f29_2 rfl rfl) ?_ | refine awpOps_cons (op_far f29_2 rfl rfl) ?_ | refine awpOps_cons (op_fae f29_2 rfl rfl) ?_
      all_goals first | refine awpOps_cons (op_ld ty27 rfl rfl rfl) ?_ | refine awpOps_cons (op_ldr ty27 rfl rfl) ?_ | refine awpOps_cons (op_lde ty27 rfl rfl (by assumption) rfl) ?_ | refine awpOps_cons (op_ldl ty27 rfl rfl rfl) ?_ | refine awpOps_cons (op_ldd ty27 rfl rfl rfl) ?_ | refine awpOps_cons (op_ldde ty27 rfl rfl (by assumption) rfl) ?_
      all_goals first | refine awpOps_cons (op_len sl27 rfl rfl) ?_ | refine awpOps_cons (op_lenA sl27 rfl rfl rfl) ?_
      all_goals refine awpOps_cons (op_lss rfl rfl rfl) ?_
      all_goals first | refine awpOps_cons (op_mv rfl (Conv.of rfl) rfl) ?_ | refine awpOps_cons (op_mvl rfl rfl rfl rfl) ?_ | refine awpOps_cons (op_mvo rfl rfl rfl rfl) ?_
      all_goals first | refine g_lit (t := 73) (b := true) rfl ?_ | refine g_lit (t := 73) (b := false) rfl ?_ | refine g_ulit (t := 73) rfl ?_ | refine g_split (t := 73) rfl (fun h => ?_) (fun h => ?_)
      all_goals first | refine awpOps_cons (g_off rfl rfl rfl rfl rfl) ?_ | refine awpOps_cons (g_und rfl rfl rfl) ?_ | refine awpOps_cons (g_on rfl rfl rfl (op_mv rfl (Conv.of rfl) rfl)) ?_ | refine awpOps_cons (g_on rfl rfl rfl (op_mvl rfl rfl rfl rfl)) ?_ | refine awpOps_cons (g_on rfl rfl rfl (op_mvo rfl rfl rfl rfl)) ?_
      all_goals first | refine awpOps_cons (g_off rfl rfl rfl rfl rfl) ?_ | refine awpOps_cons (g_und rfl rfl rfl) ?_ | refine awpOps_cons (g_on rfl rfl rfl (op_gtr rfl rfl rfl)) ?_
      all_goals refine awpOps_cons (op_pick rfl rfl rfl rfl) ?_
      all_goals refine awpOps_nil ?_
      all_goals exact Le.mk rfl (tle rfl (rfl) rfl (tlb rfl rfl rfl (tle rfl (rfl) rfl (tle rfl (rfl) rfl (tle rfl (by first | rfl | (show AV.v _ = AV.v _; simp_all; try (intros; omega))) rfl tln))))) (olk rfl (by first | exact obOk_cell | exact obOk_arr | exact obOkW rfl | exact obOkW0 | exact obOkN | exact obOkS rfl | exact obOkNs | exact obOkS0 | trivial) oln) noS
    first | refine awp_seq (awp_cond rfl (fun h => ?_) (fun h => ?_)) | refine awp_seq (awp_seq (awp_cond rfl (fun h => ?_) (fun h => ?_))) | refine awp_cond rfl (fun h => ?_) (fun h => ?_) | refine awp_seq (awp_seq (awp_seq (awp_cond rfl (fun h => ?_) (fun h => ?_))))
    · simp only [Bool.and_eq_true, decide_eq_true_eq] at h
      obtain ⟨hi2, hb0⟩ := h
      have hx : w.log[i]? = some w.log[i] := List.getElem?_eq_getElem hi2
      generalize w.log[i] = u at hx
      have hum := List.mem_of_getElem? hx
      have huo := votesOk_mem hlo u hum
      have hvo : voteOk ⟨w.bad, u.chain⟩ = true := by
        simp only [voteOk, Bool.and_eq_true, decide_eq_true_eq] at huo ⊢
        exact ⟨⟨by simp [within]; omega, huo.1.2⟩, huo.2⟩
      refine awp_skip ?_
      first | refine awp_seq (awp_block ?_) | refine awp_seq (awp_seq (awp_block ?_)) | refine awp_block ?_ | refine awp_seq (awp_seq (awp_seq (awp_block ?_)))
      all_goals first | refine awp_seq (awp_region (id := 12) ?_) | refine awp_seq (awp_seq (awp_region (id := 12) ?_)) | refine awp_region (id := 12) ?_ | refine awp_seq (awp_seq (awp_seq (awp_region (id := 12) ?_)))
      all_goals first | refine awpOps_cons (op_mv rfl (Conv.of rfl) rfl) ?_ | refine awpOps_cons (op_mvl rfl rfl rfl rfl) ?_ | refine awpOps_cons (op_mvo rfl rfl rfl rfl) ?_
      all_goals first | refine awpOps_cons (op_fab f29_2 rfl rfl) ?_ | refine awpOps_cons (op_far f29_2 rfl rfl) ?_ | refine awpOps_cons (op_fae f29_2 rfl rfl) ?_
      all_goals first | refine awpOps_cons (op_ld ty27 rfl rfl rfl) ?_ | refine awpOps_cons (op_ldr ty27 rfl rfl) ?_ | refine awpOps_cons (op_lde ty27 rfl rfl (by assumption) rfl) ?_ | refine awpOps_cons (op_ldl ty27 rfl rfl rfl) ?_ | refine awpOps_cons (op_ldd ty27 rfl rfl rfl) ?_ | refine awpOps_cons (op_ldde ty27 rfl rfl (by assumption) rfl) ?_
      all_goals first | refine awpOps_cons (op_mv rfl (Conv.of rfl) rfl) ?_ | refine awpOps_cons (op_mvl rfl rfl rfl rfl) ?_ | refine awpOps_cons (op_mvo rfl rfl rfl rfl) ?_
      all_goals first | refine awpOps_cons (op_ix sl27 rfl rfl rfl (by omega) hx) ?_ | refine awpOps_cons (op_ixA sl27 rfl rfl rfl rfl (by omega)) ?_
      all_goals first | refine awpOps_cons (op_fab f48_1 rfl rfl) ?_ | refine awpOps_cons (op_far f48_1 rfl rfl) ?_ | refine awpOps_cons (op_fae f48_1 rfl rfl) ?_
      all_goals first | refine awpOps_cons (op_ld ty34 rfl rfl rfl) ?_ | refine awpOps_cons (op_ldr ty34 rfl rfl) ?_ | refine awpOps_cons (op_lde ty34 rfl rfl (by assumption) rfl) ?_ | refine awpOps_cons (op_ldl ty34 rfl rfl rfl) ?_ | refine awpOps_cons (op_ldd ty34 rfl rfl rfl) ?_ | refine awpOps_cons (op_ldde ty34 rfl rfl (by assumption) rfl) ?_
      all_goals refine awpOps_cons (op_build (.cons f48_0 rfl (Conv.of rfl) (.cons f48_1 rfl (Conv.of rfl) (.nil _))) z48 rfl pl48 rfl) ?_
      all_goals refine awpOps_cons (op_alloc (o := 2) z48 rfl rfl) ?_
      all_goals first | refine awpOps_cons (op_st ty48 rfl rfl (Conv.of rfl) rfl) ?_ | refine awpOps_cons (op_ste ty48 rfl rfl (Conv.of rfl) rfl (by assumption)) ?_ | refine awpOps_cons (op_stm ty48 rfl rfl rfl) ?_ | refine awpOps_cons (op_stme ty48 rfl rfl rfl (by assumption)) ?_
      all_goals refine awpOps_nil ?_
      all_goals first | refine awp_seq (awp_region (id := 13) ?_) | refine awp_seq (awp_seq (awp_region (id := 13) ?_)) | refine awp_region (id := 13) ?_ | refine awp_seq (awp_seq (awp_seq (awp_region (id := 13) ?_)))
      all_goals refine awpOps_cons (op_mv rfl Conv.ol rfl) ?_
      all_goals first | refine awpOps_cons (op_ld ty48 rfl rfl rfl) ?_ | refine awpOps_cons (op_ldr ty48 rfl rfl) ?_ | refine awpOps_cons (op_lde ty48 rfl rfl (by assumption) rfl) ?_ | refine awpOps_cons (op_ldl ty48 rfl rfl rfl) ?_ | refine awpOps_cons (op_ldd ty48 rfl rfl rfl) ?_ | refine awpOps_cons (op_ldde ty48 rfl rfl (by assumption) rfl) ?_
      all_goals refine awpOps_cons (op_call fb25 (.cons rfl (Conv.of rfl) (.cons rfl (Conv.of rfl) (.nil _))) (lwHas_ct _ _) (argOk rfl rfl (argOk rfl rfl argOk0)) rfl rfl) ?_
      all_goals refine awpOps_cons (op_not rfl rfl) ?_
      all_goals refine awpOps_nil ?_
      first | refine awp_seq (awp_cond rfl (fun h2 => ?_) (fun h2 => ?_)) | refine awp_seq (awp_seq (awp_cond rfl (fun h2 => ?_) (fun h2 => ?_))) | refine awp_cond rfl (fun h2 => ?_) (fun h2 => ?_) | refine awp_seq (awp_seq (awp_seq (awp_cond rfl (fun h2 => ?_) (fun h2 => ?_))))
      · have hnm : Vote.mk w.bad u.chain ∉ L := by simpa using h2
        all_goals first | refine awp_seq (awp_region (id := 14) ?_) | refine awp_seq (awp_seq (awp_region (id := 14) ?_)) | refine awp_region (id := 14) ?_ | refine awp_seq (awp_seq (awp_seq (awp_region (id := 14) ?_)))
        all_goals first | refine awpOps_cons (op_mv rfl (Conv.of rfl) rfl) ?_ | refine awpOps_cons (op_mvl rfl rfl rfl rfl) ?_ | refine awpOps_cons (op_mvo rfl rfl rfl rfl) ?_
        all_goals first | refine awpOps_cons (op_ld ty48 rfl rfl rfl) ?_ | refine awpOps_cons (op_ldr ty48 rfl rfl) ?_ | refine awpOps_cons (op_lde ty48 rfl rfl (by assumption) rfl) ?_ | refine awpOps_cons (op_ldl ty48 rfl rfl rfl) ?_ | refine awpOps_cons (op_ldd ty48 rfl rfl rfl) ?_ | refine awpOps_cons (op_ldde ty48 rfl rfl (by assumption) rfl) ?_
        all_goals refine awpOps_cons (op_bsl sl27 z48 (.cons rfl (Conv.of rfl) (.nil _)) rfl (by decide) rfl) ?_
        all_goals refine awpOps_cons (op_app sl27 z48 ul27 rfl rfl rfl (by (simp; omega)) (by (simp; omega)) rfl rfl) ?_
        all_goals first | refine awpOps_cons (op_as rfl (Conv.of rfl) rfl) ?_ | refine awpOps_cons (op_asl rfl rfl rfl rfl) ?_ | refine awpOps_cons (op_aso rfl rfl rfl rfl) ?_
        all_goals refine awpOps_nil ?_
        repeat first | refine nx_seq ?_ | refine nx_block ?_
        all_goals first | refine awp_seq (awp_region (id := 11) ?_) | refine awp_seq (awp_seq (awp_region (id := 11) ?_)) | refine awp_region (id := 11) ?_ | refine awp_seq (awp_seq (awp_seq (awp_region (id := 11) ?_)))
        all_goals first | refine awpOps_cons (op_mv rfl (Conv.of rfl) rfl) ?_ | refine awpOps_cons (op_mvl rfl rfl rfl rfl) ?_ | refine awpOps_cons (op_mvo rfl rfl rfl rfl) ?_
        all_goals refine awpOps_cons (op_add rfl rfl rfl (by omega)) ?_
        all_goals first | refine awpOps_cons (op_as rfl (Conv.of rfl) rfl) ?_ | refine awpOps_cons (op_asl rfl rfl rfl rfl) ?_ | refine awpOps_cons (op_aso rfl rfl rfl rfl) ?_
        all_goals refine awpOps_nil ?_
        repeat first | refine nx_seq ?_ | refine nx_block ?_
        exact ⟨n_ - 1, _, by omega, ⟨i + 1, L ++ [⟨w.bad, u.chain⟩], by omega, votesOk_snoc hLo hvo hnm, by simp; omega, (fun v hv => by rcases List.mem_append.1 hv with hv | hv <;> first | exact hL1 v hv | (simp at hv; subst hv; exact .inr rfl)), (fun v hv => List.mem_append_left _ (hL2 v hv)), rfl⟩, Le.mk rfl (tle rfl (rfl) rfl (tlb rfl rfl rfl (tle rfl (rfl) rfl (tle rfl (rfl) rfl tln)))) (olk rfl (by first | exact obOk_cell | exact obOk_arr | exact obOkW rfl | exact obOkW0 | exact obOkN | exact obOkS rfl | exact obOkNs | exact obOkS0 | trivial) oln) noS⟩
      · refine awp_skip ?_
        repeat first | refine nx_seq ?_ | refine nx_block ?_
        all_goals first | refine awp_seq (awp_region (id := 11) ?_) | refine awp_seq (awp_seq (awp_region (id := 11) ?_)) | refine awp_region (id := 11) ?_ | refine awp_seq (awp_seq (awp_seq (awp_region (id := 11) ?_)))
        all_goals first | refine awpOps_cons (op_mv rfl (Conv.of rfl) rfl) ?_ | refine awpOps_cons (op_mvl rfl rfl rfl rfl) ?_ | refine awpOps_cons (op_mvo rfl rfl rfl rfl) ?_
        all_goals refine awpOps_cons (op_add rfl rfl rfl (by omega)) ?_
        all_goals first | refine awpOps_cons (op_as rfl (Conv.of rfl) rfl) ?_ | refine awpOps_cons (op_asl rfl rfl rfl rfl) ?_ | refine awpOps_cons (op_aso rfl rfl rfl rfl) ?_
        all_goals refine awpOps_nil ?_
        repeat first | refine nx_seq ?_ | refine nx_block ?_
        exact ⟨n_ - 1, _, by omega, ⟨i + 1, L, by omega, hLo, by omega, hL1, hL2, rfl⟩, Le.mk rfl (tle rfl (rfl) rfl (tlb rfl rfl rfl (tle rfl (rfl) rfl (tle rfl (rfl) rfl tln)))) (olk rfl (by first | exact obOk_cell | exact obOk_arr | exact obOkW rfl | exact obOkW0 | exact obOkN | exact obOkS rfl | exact obOkNs | exact obOkS0 | trivial) oln) noS⟩
    · refine awp_exit ?_
      repeat refine ex_seq ?_
      refine ex_block ?_
      exact nx_seq ⟨L, ⟨hLo, by omega, hL1, hL2⟩, Le.mk rfl (tle rfl (rfl) rfl (tlb rfl rfl rfl (tle rfl (rfl) rfl tln))) (olk rfl (by first | exact obOk_cell | exact obOk_arr | exact obOkW rfl | exact obOkW0 | exact obOkN | exact obOkS rfl | exact obOkNs | exact obOkS0 | trivial) oln) noS⟩
  · rintro L ⟨hLo, hLl, hL1, hL2⟩
    have hcert := certOf_ct L (by omega)
    have hsafe := hI.safe.bad hL1
    all_goals first | refine awp_seq (awp_region (id := 15) ?_) | refine awp_seq (awp_seq (awp_region (id := 15) ?_)) | refine awp_region (id := 15) ?_ | refine awp_seq (awp_seq (awp_seq (awp_region (id := 15) ?_)))
    all_goals refine awpOps_cons (op_mv rfl Conv.ol rfl) ?_
    all_goals refine awpOps_cons (op_call fb19 (.cons rfl (Conv.of rfl) (.nil _)) (hcert) (argOk rfl rfl argOk0) rfl rfl) ?_
    all_goals first | refine awpOps_cons (op_mv rfl (Conv.of rfl) rfl) ?_ | refine awpOps_cons (op_mvl rfl rfl rfl rfl) ?_ | refine awpOps_cons (op_mvo rfl rfl rfl rfl) ?_
    all_goals refine awpOps_cons (op_ext rfl rfl rfl) ?_
    all_goals refine awpOps_cons (op_ext rfl rfl rfl) ?_
    all_goals refine awpOps_cons (op_alloc (o := 2) z37 rfl rfl) ?_
    all_goals first | refine awpOps_cons (op_st ty37 rfl rfl (Conv.of rfl) rfl) ?_ | refine awpOps_cons (op_ste ty37 rfl rfl (Conv.of rfl) rfl (by assumption)) ?_ | refine awpOps_cons (op_stm ty37 rfl rfl rfl) ?_ | refine awpOps_cons (op_stme ty37 rfl rfl rfl (by assumption)) ?_
    all_goals first | refine awpOps_cons (op_as rfl (Conv.of rfl) rfl) ?_ | refine awpOps_cons (op_asl rfl rfl rfl rfl) ?_ | refine awpOps_cons (op_aso rfl rfl rfl rfl) ?_
    all_goals refine awpOps_nil ?_
    all_goals first | refine awp_seq (awp_region (id := 16) ?_) | refine awp_seq (awp_seq (awp_region (id := 16) ?_)) | refine awp_region (id := 16) ?_ | refine awp_seq (awp_seq (awp_seq (awp_region (id := 16) ?_)))
    all_goals first | refine awpOps_cons (op_mv rfl (Conv.of rfl) rfl) ?_ | refine awpOps_cons (op_mvl rfl rfl rfl rfl) ?_ | refine awpOps_cons (op_mvo rfl rfl rfl rfl) ?_
    all_goals refine awpOps_cons (op_not rfl rfl) ?_
    all_goals refine awpOps_nil ?_
    first | refine awp_seq (awp_cond rfl (fun h => ?_) (fun h => ?_)) | refine awp_seq (awp_seq (awp_cond rfl (fun h => ?_) (fun h => ?_))) | refine awp_cond rfl (fun h => ?_) (fun h => ?_) | refine awp_seq (awp_seq (awp_seq (awp_cond rfl (fun h => ?_) (fun h => ?_))))
    · have h0 := certOf_no hLo (not_t h)
      all_goals first | refine awp_seq (awp_region (id := 17) ?_) | refine awp_seq (awp_seq (awp_region (id := 17) ?_)) | refine awp_region (id := 17) ?_ | refine awp_seq (awp_seq (awp_seq (awp_region (id := 17) ?_)))
      all_goals refine awpOps_cons (op_mv rfl Conv.ol rfl) ?_
      all_goals refine awpOps_cons (op_call fb20 (.cons rfl (Conv.of rfl) (.nil _)) (treeFinal_ct L hLo (by omega)) (argOk rfl rfl argOk0) rfl rfl) ?_
      all_goals first | refine awpOps_cons (op_len sl34 rfl rfl) ?_ | refine awpOps_cons (op_lenA sl34 rfl rfl rfl) ?_
      all_goals refine awpOps_cons (op_eql rfl rfl rfl) ?_
      all_goals first | refine awpOps_cons (op_as rfl (Conv.of rfl) rfl) ?_ | refine awpOps_cons (op_asl rfl rfl rfl rfl) ?_ | refine awpOps_cons (op_aso rfl rfl rfl rfl) ?_
      all_goals refine awpOps_nil ?_
      refine awp_ret ?_
      repeat first | refine rt_seq ?_ | refine rt_block ?_
      refine finP (.v rfl (Conv.of rfl)) rfl ?_
      show AV.v (decide _) = AV.v true
      congr 1
      have h0' : (CList.mk (finalOf L)).l.length = 0 := h0
      simp [h0']
    · have hy := not_f h
      have hok := certOf_ok hy
      have hshown := worldShown_ct w (certOf L).1 hwo hok.2.1
      rw [worldShown_of hI (fun v hv => (hL1 v hv).symm) hy] at hshown
      have hcf := certFinal_ct (certOf L).1 hok.2.1
      rw [hok.2.2.1] at hcf
      generalize (certOf L).1 = cc at hshown hcf ⊢
      refine awp_skip ?_
      all_goals first | refine awp_seq (awp_region (id := 18) ?_) | refine awp_seq (awp_seq (awp_region (id := 18) ?_)) | refine awp_region (id := 18) ?_ | refine awp_seq (awp_seq (awp_seq (awp_region (id := 18) ?_)))
      all_goals first | refine awpOps_cons (op_ld ty37 rfl rfl rfl) ?_ | refine awpOps_cons (op_ldr ty37 rfl rfl) ?_ | refine awpOps_cons (op_lde ty37 rfl rfl (by assumption) rfl) ?_ | refine awpOps_cons (op_ldl ty37 rfl rfl rfl) ?_ | refine awpOps_cons (op_ldd ty37 rfl rfl rfl) ?_ | refine awpOps_cons (op_ldde ty37 rfl rfl (by assumption) rfl) ?_
      all_goals refine awpOps_cons (op_call fb23 (.cons rfl (Conv.of rfl) (.nil _)) (hcf) (argOk rfl rfl argOk0) rfl rfl) ?_
      all_goals first | refine awpOps_cons (op_as rfl (Conv.of rfl) rfl) ?_ | refine awpOps_cons (op_asl rfl rfl rfl rfl) ?_ | refine awpOps_cons (op_aso rfl rfl rfl rfl) ?_
      all_goals refine awpOps_nil ?_
      all_goals first | refine awp_seq (awp_region (id := 19) ?_) | refine awp_seq (awp_seq (awp_region (id := 19) ?_)) | refine awp_region (id := 19) ?_ | refine awp_seq (awp_seq (awp_seq (awp_region (id := 19) ?_)))
      all_goals refine awpOps_cons (op_as rfl (Conv.of rfl) rfl) ?_
      all_goals refine awpOps_nil ?_
      first | refine awp_seq (awp_seq (awp_seq (awp_seq_to (s' := mkSt 134 [(5, .v w.bad), (7, .box 0 (IsLens.whole Wrld)), (14, .box 2 (IsLens.whole Cert))] [(0, .cell w), (2, .cell cc)]) ?_ ?_))) | refine awp_seq (awp_seq (awp_seq_to (s' := mkSt 134 [(5, .v w.bad), (7, .box 0 (IsLens.whole Wrld)), (14, .box 2 (IsLens.whole Cert))] [(0, .cell w), (2, .cell cc)]) ?_ ?_)) | refine awp_seq (awp_seq_to (s' := mkSt 134 [(5, .v w.bad), (7, .box 0 (IsLens.whole Wrld)), (14, .box 2 (IsLens.whole Cert))] [(0, .cell w), (2, .cell cc)]) ?_ ?_) | refine awp_seq_to (s' := mkSt 134 [(5, .v w.bad), (7, .box 0 (IsLens.whole Wrld)), (14, .box 2 (IsLens.whole Cert))] [(0, .cell w), (2, .cell cc)]) ?_ ?_ | refine awp_toB (s' := mkSt 134 [(5, .v w.bad), (7, .box 0 (IsLens.whole Wrld)), (14, .box 2 (IsLens.whole Cert))] [(0, .cell w), (2, .cell cc)]) ?_ ?_ | refine awp_to (s' := mkSt 134 [(5, .v w.bad), (7, .box 0 (IsLens.whole Wrld)), (14, .box 2 (IsLens.whole Cert))] [(0, .cell w), (2, .cell cc)]) ?_ ?_
      · first | refine awp_seq (awp_block ?_) | refine awp_seq (awp_seq (awp_block ?_)) | refine awp_block ?_ | refine awp_seq (awp_seq (awp_seq (awp_block ?_)))
        first | refine awp_seq (awp_loop' (fun n_ s => ∃ (i : Nat), ∃ (hi : n_ + i = 4), s = mkSt 134 [(5, .v w.bad), (7, .box 0 (IsLens.whole Wrld)), (14, .box 2 (IsLens.whole Cert)), (16, .v (CList.mk (finalOf L))), (17, .v (i : Int))] [(0, .cell w), (2, .cell cc)]) (4) ⟨0, by omega, rfl⟩ (Le.mk rfl (tle rfl (rfl) rfl (tlb rfl rfl rfl (tlb rfl rfl rfl (tle rfl (rfl) rfl (tle rfl (rfl) rfl tln))))) (olk rfl (by first | exact obOk_cell | exact obOk_arr | exact obOkW rfl | exact obOkW0 | exact obOkN | exact obOkS rfl | exact obOkNs | exact obOkS0 | trivial) (olk rfl (by first | exact obOk_cell | exact obOk_arr | exact obOkW rfl | exact obOkW0 | exact obOkN | exact obOkS rfl | exact obOkNs | exact obOkS0 | trivial) oln)) noS) ?_) | refine awp_seq (awp_seq (awp_loop' (fun n_ s => ∃ (i : Nat), ∃ (hi : n_ + i = 4), s = mkSt 134 [(5, .v w.bad), (7, .box 0 (IsLens.whole Wrld)), (14, .box 2 (IsLens.whole Cert)), (16, .v (CList.mk (finalOf L))), (17, .v (i : Int))] [(0, .cell w), (2, .cell cc)]) (4) ⟨0, by omega, rfl⟩ (Le.mk rfl (tle rfl (rfl) rfl (tlb rfl rfl rfl (tlb rfl rfl rfl (tle rfl (rfl) rfl (tle rfl (rfl) rfl tln))))) (olk rfl (by first | exact obOk_cell | exact obOk_arr | exact obOkW rfl | exact obOkW0 | exact obOkN | exact obOkS rfl | exact obOkNs | exact obOkS0 | trivial) (olk rfl (by first | exact obOk_cell | exact obOk_arr | exact obOkW rfl | exact obOkW0 | exact obOkN | exact obOkS rfl | exact obOkNs | exact obOkS0 | trivial) oln)) noS) ?_)) | refine awp_loop' (fun n_ s => ∃ (i : Nat), ∃ (hi : n_ + i = 4), s = mkSt 134 [(5, .v w.bad), (7, .box 0 (IsLens.whole Wrld)), (14, .box 2 (IsLens.whole Cert)), (16, .v (CList.mk (finalOf L))), (17, .v (i : Int))] [(0, .cell w), (2, .cell cc)]) (4) ⟨0, by omega, rfl⟩ (Le.mk rfl (tle rfl (rfl) rfl (tlb rfl rfl rfl (tlb rfl rfl rfl (tle rfl (rfl) rfl (tle rfl (rfl) rfl tln))))) (olk rfl (by first | exact obOk_cell | exact obOk_arr | exact obOkW rfl | exact obOkW0 | exact obOkN | exact obOkS rfl | exact obOkNs | exact obOkS0 | trivial) (olk rfl (by first | exact obOk_cell | exact obOk_arr | exact obOkW rfl | exact obOkW0 | exact obOkN | exact obOkS rfl | exact obOkNs | exact obOkS0 | trivial) oln)) noS) ?_ | refine awp_seq (awp_seq (awp_seq (awp_loop' (fun n_ s => ∃ (i : Nat), ∃ (hi : n_ + i = 4), s = mkSt 134 [(5, .v w.bad), (7, .box 0 (IsLens.whole Wrld)), (14, .box 2 (IsLens.whole Cert)), (16, .v (CList.mk (finalOf L))), (17, .v (i : Int))] [(0, .cell w), (2, .cell cc)]) (4) ⟨0, by omega, rfl⟩ (Le.mk rfl (tle rfl (rfl) rfl (tlb rfl rfl rfl (tlb rfl rfl rfl (tle rfl (rfl) rfl (tle rfl (rfl) rfl tln))))) (olk rfl (by first | exact obOk_cell | exact obOk_arr | exact obOkW rfl | exact obOkW0 | exact obOkN | exact obOkS rfl | exact obOkNs | exact obOkS0 | trivial) (olk rfl (by first | exact obOk_cell | exact obOk_arr | exact obOkW rfl | exact obOkW0 | exact obOkN | exact obOkS rfl | exact obOkNs | exact obOkS0 | trivial) oln)) noS) ?_)))
        rintro n_ s ⟨i, hi, rfl⟩
        all_goals first | refine awp_seq (awp_region (id := 20) ?_) | refine awp_seq (awp_seq (awp_region (id := 20) ?_)) | refine awp_region (id := 20) ?_ | refine awp_seq (awp_seq (awp_seq (awp_region (id := 20) ?_)))
        all_goals first | refine awpOps_cons (op_mv rfl (Conv.of rfl) rfl) ?_ | refine awpOps_cons (op_mvl rfl rfl rfl rfl) ?_ | refine awpOps_cons (op_mvo rfl rfl rfl rfl) ?_
        all_goals first | refine awpOps_cons (op_fab f29_1 rfl rfl) ?_ | refine awpOps_cons (op_far f29_1 rfl rfl) ?_ | refine awpOps_cons (op_fae f29_1 rfl rfl) ?_
        all_goals first | refine awpOps_cons (op_ld ty26 rfl rfl rfl) ?_ | refine awpOps_cons (op_ldr ty26 rfl rfl) ?_ | refine awpOps_cons (op_lde ty26 rfl rfl (by assumption) rfl) ?_ | refine awpOps_cons (op_ldl ty26 rfl rfl rfl) ?_ | refine awpOps_cons (op_ldd ty26 rfl rfl rfl) ?_ | refine awpOps_cons (op_ldde ty26 rfl rfl (by assumption) rfl) ?_
        all_goals first | refine awpOps_cons (op_len sl26 rfl rfl) ?_ | refine awpOps_cons (op_lenA sl26 rfl rfl rfl) ?_
        all_goals refine awpOps_cons (op_lss rfl rfl rfl) ?_
        all_goals refine awpOps_nil ?_
        first | refine awp_seq (awp_cond rfl (fun h2 => ?_) (fun h2 => ?_)) | refine awp_seq (awp_seq (awp_cond rfl (fun h2 => ?_) (fun h2 => ?_))) | refine awp_cond rfl (fun h2 => ?_) (fun h2 => ?_) | refine awp_seq (awp_seq (awp_seq (awp_cond rfl (fun h2 => ?_) (fun h2 => ?_))))
        · have hi2 : i < w.nodes.length := by simpa using h2
          have hx : w.nodes[i]? = some w.nodes[i] := List.getElem?_eq_getElem hi2
          generalize w.nodes[i] = a at hx
          have hsa := nodeOk_seen (hI.ok.nodes a (List.mem_of_getElem? hx))
          have hN := hI.nodes i a hx
          have hfit : (i : Int) + 1 ≠ w.bad → CtP Tryz.prog 24 [.v (finalOf L), .v (finalOf a.seen)] (.v true) := fun e => by
            have := lwFits_ct (finalOf L) (finalOf a.seen)
            rwa [fits_of (final_chainOk (votesOk_mem hLo)) (final_chainOk (votesOk_mem hsa.1)) (hsafe.fits (fun v hv => hv) (fun v hv => hL2 v (hN.sub (by rw [hN.id]; exact e) v hv)))] at this
          refine awp_skip ?_
          first | refine awp_seq (awp_block ?_) | refine awp_seq (awp_seq (awp_block ?_)) | refine awp_block ?_ | refine awp_seq (awp_seq (awp_seq (awp_block ?_)))
          first | refine awp_seq (awp_seq (awp_seq (awp_seq_to (s' := mkSt 134 [(5, .v w.bad), (7, .box 0 (IsLens.whole Wrld)), (14, .box 2 (IsLens.whole Cert)), (16, .v (CList.mk (finalOf L))), (17, .v (i : Int)), (130, .v false)] [(0, .cell w), (2, .cell cc)]) ?_ ?_))) | refine awp_seq (awp_seq (awp_seq_to (s' := mkSt 134 [(5, .v w.bad), (7, .box 0 (IsLens.whole Wrld)), (14, .box 2 (IsLens.whole Cert)), (16, .v (CList.mk (finalOf L))), (17, .v (i : Int)), (130, .v false)] [(0, .cell w), (2, .cell cc)]) ?_ ?_)) | refine awp_seq (awp_seq_to (s' := mkSt 134 [(5, .v w.bad), (7, .box 0 (IsLens.whole Wrld)), (14, .box 2 (IsLens.whole Cert)), (16, .v (CList.mk (finalOf L))), (17, .v (i : Int)), (130, .v false)] [(0, .cell w), (2, .cell cc)]) ?_ ?_) | refine awp_seq_to (s' := mkSt 134 [(5, .v w.bad), (7, .box 0 (IsLens.whole Wrld)), (14, .box 2 (IsLens.whole Cert)), (16, .v (CList.mk (finalOf L))), (17, .v (i : Int)), (130, .v false)] [(0, .cell w), (2, .cell cc)]) ?_ ?_ | refine awp_toB (s' := mkSt 134 [(5, .v w.bad), (7, .box 0 (IsLens.whole Wrld)), (14, .box 2 (IsLens.whole Cert)), (16, .v (CList.mk (finalOf L))), (17, .v (i : Int)), (130, .v false)] [(0, .cell w), (2, .cell cc)]) ?_ ?_ | refine awp_to (s' := mkSt 134 [(5, .v w.bad), (7, .box 0 (IsLens.whole Wrld)), (14, .box 2 (IsLens.whole Cert)), (16, .v (CList.mk (finalOf L))), (17, .v (i : Int)), (130, .v false)] [(0, .cell w), (2, .cell cc)]) ?_ ?_
          · all_goals first | refine awp_seq (awp_region (id := 22) ?_) | refine awp_seq (awp_seq (awp_region (id := 22) ?_)) | refine awp_region (id := 22) ?_ | refine awp_seq (awp_seq (awp_seq (awp_region (id := 22) ?_)))
            all_goals first | refine awpOps_cons (op_mv rfl (Conv.of rfl) rfl) ?_ | refine awpOps_cons (op_mvl rfl rfl rfl rfl) ?_ | refine awpOps_cons (op_mvo rfl rfl rfl rfl) ?_
            all_goals refine awpOps_cons (op_add rfl rfl rfl (by omega)) ?_
            all_goals first | refine awpOps_cons (op_mv rfl (Conv.of rfl) rfl) ?_ | refine awpOps_cons (op_mvl rfl rfl rfl rfl) ?_ | refine awpOps_cons (op_mvo rfl rfl rfl rfl) ?_
            all_goals refine awpOps_cons (op_neq rfl rfl rfl) ?_
            all_goals first | refine awpOps_cons (op_mv rfl (Conv.of rfl) rfl) ?_ | refine awpOps_cons (op_mvl rfl rfl rfl rfl) ?_ | refine awpOps_cons (op_mvo rfl rfl rfl rfl) ?_
            all_goals first | refine g_lit (t := 119) (b := true) rfl ?_ | refine g_lit (t := 119) (b := false) rfl ?_ | refine g_ulit (t := 119) rfl ?_ | refine g_split (t := 119) rfl (fun h => ?_) (fun h => ?_)
            all_goals first | refine awpOps_cons (g_off rfl rfl rfl rfl rfl) ?_ | refine awpOps_cons (g_und rfl rfl rfl) ?_ | refine awpOps_cons (g_on rfl rfl rfl (op_mv rfl (Conv.of rfl) rfl)) ?_ | refine awpOps_cons (g_on rfl rfl rfl (op_mvl rfl rfl rfl rfl)) ?_ | refine awpOps_cons (g_on rfl rfl rfl (op_mvo rfl rfl rfl rfl)) ?_
            all_goals first | refine awpOps_cons (g_off rfl rfl rfl rfl rfl) ?_ | refine awpOps_cons (g_und rfl rfl rfl) ?_ | refine awpOps_cons (g_on rfl rfl rfl (op_fab f29_1 rfl rfl)) ?_ | refine awpOps_cons (g_on rfl rfl rfl (op_far f29_1 rfl rfl)) ?_ | refine awpOps_cons (g_on rfl rfl rfl (op_fae f29_1 rfl rfl)) ?_
            all_goals first | refine awpOps_cons (g_off rfl rfl rfl rfl rfl) ?_ | refine awpOps_cons (g_und rfl rfl rfl) ?_ | refine awpOps_cons (g_on rfl rfl rfl (op_ld ty26 rfl rfl rfl)) ?_ | refine awpOps_cons (g_on rfl rfl rfl (op_ldr ty26 rfl rfl)) ?_ | refine awpOps_cons (g_on rfl rfl rfl (op_lde ty26 rfl rfl (by assumption) rfl)) ?_ | refine awpOps_cons (g_on rfl rfl rfl (op_ldl ty26 rfl rfl rfl)) ?_ | refine awpOps_cons (g_on rfl rfl rfl (op_ldd ty26 rfl rfl rfl)) ?_ | refine awpOps_cons (g_on rfl rfl rfl (op_ldde ty26 rfl rfl (by assumption) rfl)) ?_
            all_goals first | refine awpOps_cons (g_off rfl rfl rfl rfl rfl) ?_ | refine awpOps_cons (g_und rfl rfl rfl) ?_ | refine awpOps_cons (g_on rfl rfl rfl (op_mv rfl (Conv.of rfl) rfl)) ?_ | refine awpOps_cons (g_on rfl rfl rfl (op_mvl rfl rfl rfl rfl)) ?_ | refine awpOps_cons (g_on rfl rfl rfl (op_mvo rfl rfl rfl rfl)) ?_
            all_goals first | refine awpOps_cons (g_off rfl rfl rfl rfl rfl) ?_ | refine awpOps_cons (g_und rfl rfl rfl) ?_ | refine awpOps_cons (g_on rfl rfl rfl (op_ix sl26 rfl rfl rfl (by omega) hx)) ?_ | refine awpOps_cons (g_on rfl rfl rfl (op_ixA sl26 rfl rfl rfl rfl (by omega))) ?_
            all_goals first | refine awpOps_cons (g_off rfl rfl rfl rfl rfl) ?_ | refine awpOps_cons (g_und rfl rfl rfl) ?_ | refine awpOps_cons (g_on rfl rfl rfl (op_fab f41_3 rfl rfl)) ?_ | refine awpOps_cons (g_on rfl rfl rfl (op_far f41_3 rfl rfl)) ?_ | refine awpOps_cons (g_on rfl rfl rfl (op_fae f41_3 rfl rfl)) ?_
            all_goals first | refine awpOps_cons (g_off rfl rfl rfl rfl rfl) ?_ | refine awpOps_cons (g_und rfl rfl rfl) ?_ | refine awpOps_cons (g_on rfl rfl rfl (op_ld ty27 rfl rfl rfl)) ?_ | refine awpOps_cons (g_on rfl rfl rfl (op_ldr ty27 rfl rfl)) ?_ | refine awpOps_cons (g_on rfl rfl rfl (op_lde ty27 rfl rfl (by assumption) rfl)) ?_ | refine awpOps_cons (g_on rfl rfl rfl (op_ldl ty27 rfl rfl rfl)) ?_ | refine awpOps_cons (g_on rfl rfl rfl (op_ldd ty27 rfl rfl rfl)) ?_ | refine awpOps_cons (g_on rfl rfl rfl (op_ldde ty27 rfl rfl (by assumption) rfl)) ?_
            all_goals first | refine awpOps_cons (g_off rfl rfl rfl rfl rfl) ?_ | refine awpOps_cons (g_und rfl rfl rfl) ?_ | refine awpOps_cons (g_on rfl rfl rfl (op_call fb20 (.cons rfl (Conv.of rfl) (.nil _)) (treeFinal_ct _ hsa.1 (by omega)) (argOk rfl rfl argOk0) rfl rfl)) ?_
            all_goals first | refine awpOps_cons (g_off rfl rfl rfl rfl rfl) ?_ | refine awpOps_cons (g_und rfl rfl rfl) ?_ | refine awpOps_cons (g_on rfl rfl rfl (op_call fb24 (.cons rfl (Conv.cl) (.cons rfl (Conv.cl) (.nil _))) (hfit (by simpa using h)) (argOk rfl rfl (argOk rfl rfl argOk0)) rfl rfl)) ?_
            all_goals first | refine awpOps_cons (g_off rfl rfl rfl rfl rfl) ?_ | refine awpOps_cons (g_und rfl rfl rfl) ?_ | refine awpOps_cons (g_on rfl rfl rfl (op_not rfl rfl)) ?_
            all_goals refine awpOps_cons (op_pick rfl rfl rfl rfl) ?_
            all_goals refine awpOps_nil ?_
            all_goals exact Le.mk rfl (tle rfl (rfl) rfl (tlb rfl rfl rfl (tlb rfl rfl rfl (tle rfl (rfl) rfl (tle rfl (rfl) rfl (tle rfl (by first | rfl | (show AV.v _ = AV.v _; simp_all)) rfl tln)))))) (olk rfl (by first | exact obOk_cell | exact obOk_arr | exact obOkW rfl | exact obOkW0 | exact obOkN | exact obOkS rfl | exact obOkNs | exact obOkS0 | trivial) (olk rfl (by first | exact obOk_cell | exact obOk_arr | exact obOkW rfl | exact obOkW0 | exact obOkN | exact obOkS rfl | exact obOkNs | exact obOkS0 | trivial) oln)) noS
          first | refine awp_seq (awp_cond rfl (fun h3 => absurd h3 (by decide)) (fun h3 => ?_)) | refine awp_seq (awp_seq (awp_cond rfl (fun h3 => absurd h3 (by decide)) (fun h3 => ?_))) | refine awp_cond rfl (fun h3 => absurd h3 (by decide)) (fun h3 => ?_) | refine awp_seq (awp_seq (awp_seq (awp_cond rfl (fun h3 => absurd h3 (by decide)) (fun h3 => ?_))))
          refine awp_skip ?_
          all_goals first | refine awp_seq (awp_region (id := 21) ?_) | refine awp_seq (awp_seq (awp_region (id := 21) ?_)) | refine awp_region (id := 21) ?_ | refine awp_seq (awp_seq (awp_seq (awp_region (id := 21) ?_)))
          all_goals first | refine awpOps_cons (op_mv rfl (Conv.of rfl) rfl) ?_ | refine awpOps_cons (op_mvl rfl rfl rfl rfl) ?_ | refine awpOps_cons (op_mvo rfl rfl rfl rfl) ?_
          all_goals refine awpOps_cons (op_add rfl rfl rfl (by omega)) ?_
          all_goals first | refine awpOps_cons (op_as rfl (Conv.of rfl) rfl) ?_ | refine awpOps_cons (op_asl rfl rfl rfl rfl) ?_ | refine awpOps_cons (op_aso rfl rfl rfl rfl) ?_
          all_goals refine awpOps_nil ?_
          repeat first | refine nx_seq ?_ | refine nx_block ?_
          exact ⟨n_ - 1, _, by omega, ⟨i + 1, by omega, rfl⟩, Le.mk rfl (tle rfl (rfl) rfl (tlb rfl rfl rfl (tlb rfl rfl rfl (tle rfl (rfl) rfl (tle rfl (rfl) rfl tln))))) (olk rfl (by first | exact obOk_cell | exact obOk_arr | exact obOkW rfl | exact obOkW0 | exact obOkN | exact obOkS rfl | exact obOkNs | exact obOkS0 | trivial) (olk rfl (by first | exact obOk_cell | exact obOk_arr | exact obOkW rfl | exact obOkW0 | exact obOkN | exact obOkS rfl | exact obOkNs | exact obOkS0 | trivial) oln)) noS⟩
        · refine awp_exit ?_
          repeat refine ex_seq ?_
          refine ex_block ?_
          all_goals exact Le.mk rfl (tle rfl (rfl) rfl (tlb rfl rfl rfl (tlb rfl rfl rfl tln))) (olk rfl (by first | exact obOk_cell | exact obOk_arr | exact obOkW rfl | exact obOkW0 | exact obOkN | exact obOkS rfl | exact obOkNs | exact obOkS0 | trivial) (olk rfl (by first | exact obOk_cell | exact obOk_arr | exact obOkW rfl | exact obOkW0 | exact obOkN | exact obOkS rfl | exact obOkNs | exact obOkS0 | trivial) oln)) noS
      · all_goals first | refine awp_seq (awp_region (id := 24) ?_) | refine awp_seq (awp_seq (awp_region (id := 24) ?_)) | refine awp_region (id := 24) ?_ | refine awp_seq (awp_seq (awp_seq (awp_region (id := 24) ?_)))
        all_goals first | refine awpOps_cons (op_ld ty29 rfl rfl rfl) ?_ | refine awpOps_cons (op_ldr ty29 rfl rfl) ?_ | refine awpOps_cons (op_lde ty29 rfl rfl (by assumption) rfl) ?_ | refine awpOps_cons (op_ldl ty29 rfl rfl rfl) ?_ | refine awpOps_cons (op_ldd ty29 rfl rfl rfl) ?_ | refine awpOps_cons (op_ldde ty29 rfl rfl (by assumption) rfl) ?_
        all_goals first | refine awpOps_cons (op_ld ty37 rfl rfl rfl) ?_ | refine awpOps_cons (op_ldr ty37 rfl rfl) ?_ | refine awpOps_cons (op_lde ty37 rfl rfl (by assumption) rfl) ?_ | refine awpOps_cons (op_ldl ty37 rfl rfl rfl) ?_ | refine awpOps_cons (op_ldd ty37 rfl rfl rfl) ?_ | refine awpOps_cons (op_ldde ty37 rfl rfl (by assumption) rfl) ?_
        all_goals refine awpOps_cons (op_call fb21 (.cons rfl (Conv.of rfl) (.cons rfl (Conv.of rfl) (.nil _))) (hshown) (argOk rfl rfl (argOk rfl rfl argOk0)) rfl rfl) ?_
        all_goals first | refine awpOps_cons (op_as rfl (Conv.of rfl) rfl) ?_ | refine awpOps_cons (op_asl rfl rfl rfl rfl) ?_ | refine awpOps_cons (op_aso rfl rfl rfl rfl) ?_
        all_goals refine awpOps_nil ?_
        refine awp_ret ?_
        repeat first | refine rt_seq ?_ | refine rt_block ?_
        exact finP (.v rfl (Conv.of rfl)) rfl rfl
end Go.Proofs.YtmdhfalfppkpeaaGreat

/- The law FnWorldShown returns true at every input, and leaves its arguments as they were. No condition. -/
set_option linter.unusedVariables false
namespace Go.Proofs.YtmdhfalfppkpeaaGreat.fnWorldShown
open Go Go.ChangeShapes Go.WideShapes Go.ChangeAt Go.RowKit
theorem own : ownKnob Tryz.prog.godebug = none := by kernel_rfl
theorem laidOut : laidOutB Tryz.prog = true := by kernel_rfl
set_option maxRecDepth 100000 in
theorem lifted (os : Os) (started : os.Started) (H : Type) (enc : TypeId × Value → H) :
    ReturnsInHanded {} Tryz.checked os 4 .any (Rows.fnWorldShownSpec.pre6 enc Tryz.prog Tryz.f4 Rows.fnWorldShownRow.domain false) (Rows.fnWorldShownSpec.post enc Tryz.prog Tryz.f4 false true false false) := by
  refine returnsInHanded_of_change_sized (C := Tryz.checked) own started (by kernel_rfl) Tryz.func4
    (ChangeSpec.witness6 (enc := enc) (C := Tryz.checked) false ⟨#[], #[.slice none 0 0, .slice none 0 0], []⟩ 8 (by kernel_rfl) (by kernel_rfl) (by kernel_rfl) (by kernel_rfl)) ?_
  intro W base args ds gs before hval0 hW hcnd hsz0 _
  have hsz : (DataW.weightsEach Tryz.prog (Tryz.f4.params.toList ++ Rows.fnWorldShownSpec.plain.varTypes Tryz.prog) (ds ++ gs)).all (· ≤ reachBytes) = true := hsz0
  have hval : ∀ (j : Nat) t v, Tryz.f4.params[j]? = some t → args[j]? = some v → Value.okWide Tryz.prog W .any base t v := hval0
  have hW' := hW
  obtain ⟨p, q, hA0, hV, rfl, hfz, hnd⟩ := hW
  have hA : DataW.TrodAll enc Tryz.prog W 0 (fun _ => true) true Tryz.f4.params.toList args.toList ds p := hA0
  rw [Tryz.params4] at hA hval hsz
  obtain ⟨v0, vs0, d0, ds0, p0, q0, hargs, rfl, rfl, h0, r0⟩ := trodAll_cons hA
  obtain ⟨v1, vs1, d1, ds1, p1, q1, rfl, rfl, rfl, h1, r1⟩ := trodAll_cons r0
  obtain ⟨rfl, rfl, rfl⟩ := trodAll_nil r1
  obtain rfl : args = #[v0, v1] := by cases args; simp_all
  obtain ⟨rfl, rfl⟩ := trodVars_none hV
  obtain ⟨a0, len0, cap0, rfl⟩ := okWide_slice Tryz.underlying22 (hval 0 22 v0 rfl rfl)
  have k0 := h0
  have lt0 : ∀ x ∈ p0, x.block < W.heap.size := by obtain ⟨m, hm⟩ := k0; exact DataW.trod_lt m _ _ _ hm
  obtain ⟨z0, w0⟩ := Go.Wt.rowOf (fun _ => rfl) Tryz.underlying22 Tryz.underlying5 (by kernel_rfl) h0
  have y0 := Go.Wt.lenOf hsz (j := 0) (t := 22) rfl rfl Tryz.underlying22 Tryz.underlying5 (by kernel_rfl) (by kernel_rfl) h0
  obtain ⟨a1, len1, cap1, rfl⟩ := okWide_slice Tryz.underlying22 (hval 1 22 v1 rfl rfl)
  have k1 := h1
  have lt1 : ∀ x ∈ p1, x.block < W.heap.size := by obtain ⟨m, hm⟩ := k1; exact DataW.trod_lt m _ _ _ hm
  obtain ⟨z1, w1⟩ := Go.Wt.rowOf (fun _ => rfl) Tryz.underlying22 Tryz.underlying5 (by kernel_rfl) h1
  have y1 := Go.Wt.lenOf hsz (j := 1) (t := 22) rfl rfl Tryz.underlying22 Tryz.underlying5 (by kernel_rfl) (by kernel_rfl) h1
  clear hA0 hval0 hsz0 hsz
  refine (Go.Wt.row2 FnWorldShown_ct W w0 y0 w1 y1).mono fun e W' ⟨he, bel⟩ => ?_
  subst he
  exact ⟨_, rfl, _, _, _, [], _, [], hW', trodAll_mk1 (shut_bool Tryz.underlying4 _), (trodAll_cons_mk (Below.trod laidOut (by kernel_rfl) (of_decide_eq_true (by kernel_rfl)) k0 bel lt0) (trodAll_cons_mk (Below.trod laidOut (by kernel_rfl) (of_decide_eq_true (by kernel_rfl)) k1 bel lt1) trodAll_mk0)), rfl, bel.frame _, fun h => by cases h⟩
theorem over : Rows.fnWorldShownRow.holds Tryz.pinned (OpenSpec.ofChange Rows.fnWorldShownSpec) :=
  OpenClaim.holds_of_wide 4 Tryz.f4 rfl rfl rfl rfl rfl rfl rfl ⟨rfl, rfl, rfl, rfl, rfl⟩ rfl rfl rfl rfl rfl (by kernel_rfl) Tryz.func4 (by kernel_rfl)
    (of_decide_eq_true (by kernel_rfl)) (by unfold Func.isWrapper; first | (rw [if_pos (by decide +kernel)]; kernel_rfl) | (rw [if_neg (by decide +kernel)]; exact ⟨rfl, rfl⟩))
    (fun os started H enc _ => lifted os started H enc)
end Go.Proofs.YtmdhfalfppkpeaaGreat.fnWorldShown
namespace Go.Proofs.YtmdhfalfppkpeaaGreat
theorem fnWorldShown_holds : Rows.FnWorldShownSaid := fnWorldShown.over
#print axioms fnWorldShown_holds
end Go.Proofs.YtmdhfalfppkpeaaGreat
