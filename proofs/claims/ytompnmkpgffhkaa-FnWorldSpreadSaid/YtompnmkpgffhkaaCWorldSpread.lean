/- The law FnWorldSpread returns true at every input, and leaves its arguments as they were. No condition. -/
import Derived.Test.YtompnmkpgffhkaaM5
import Derived.Test.YtompnmkpgffhkaaRows
import Derived.WalkKit
import Derived.ProofKit
import Derived.OpenShut
import Derived.ShutString
import Derived.ChangeOld
import Derived.Below
import Derived.SizedLaws
import Derived.KernelRfl
/- A law: behind a calm epoch all have seen the same. -/
set_option linter.unusedVariables false
set_option linter.unusedSimpArgs false
namespace Go.Proofs.Ytompnmkpgffhkaa
open Go Go.Wt
set_option maxHeartbeats 2000000 in
theorem FnWorldSpread_ct (code : List UInt8) : CtP Try.prog 3 [.v code] (.v true) := by
  refine Ct.intro Try.func3 rfl rfl ?_
  all_goals first | refine awp_seq (awp_region (id := 0) ?_) | refine awp_seq (awp_seq (awp_region (id := 0) ?_)) | refine awp_region (id := 0) ?_ | refine awp_seq (awp_seq (awp_seq (awp_region (id := 0) ?_)))
  all_goals refine awpOps_cons (op_as rfl (Conv.of rfl) rfl) ?_
  all_goals refine awpOps_nil ?_
  all_goals first | refine awp_seq (awp_region (id := 1) ?_) | refine awp_seq (awp_seq (awp_region (id := 1) ?_)) | refine awp_region (id := 1) ?_ | refine awp_seq (awp_seq (awp_seq (awp_region (id := 1) ?_)))
  all_goals first | refine awpOps_cons (op_mv rfl (Conv.of rfl) rfl) ?_ | refine awpOps_cons (op_mvl rfl rfl rfl rfl) ?_ | refine awpOps_cons (op_mvo rfl rfl rfl rfl) ?_
  all_goals first | refine awpOps_cons (op_len sl22 rfl rfl) ?_ | refine awpOps_cons (op_lenA sl22 rfl rfl rfl) ?_
  all_goals refine awpOps_cons (op_gtr rfl rfl rfl) ?_
  all_goals refine awpOps_nil ?_
  first | refine awp_seq (awp_cond rfl (fun h => ?_) (fun h => ?_)) | refine awp_seq (awp_seq (awp_cond rfl (fun h => ?_) (fun h => ?_))) | refine awp_cond rfl (fun h => ?_) (fun h => ?_) | refine awp_seq (awp_seq (awp_seq (awp_cond rfl (fun h => ?_) (fun h => ?_))))
  · all_goals first | refine awp_seq (awp_region (id := 2) ?_) | refine awp_seq (awp_seq (awp_region (id := 2) ?_)) | refine awp_region (id := 2) ?_ | refine awp_seq (awp_seq (awp_seq (awp_region (id := 2) ?_)))
    all_goals refine awpOps_cons (op_as rfl (Conv.of rfl) rfl) ?_
    all_goals refine awpOps_nil ?_
    refine awp_ret ?_
    repeat first | refine rt_seq ?_ | refine rt_block ?_
    exact finP (.v rfl (Conv.of rfl)) rfl rfl
  refine awp_skip ?_
  all_goals first | refine awp_seq (awp_region (id := 3) ?_) | refine awp_seq (awp_seq (awp_region (id := 3) ?_)) | refine awp_region (id := 3) ?_ | refine awp_seq (awp_seq (awp_seq (awp_region (id := 3) ?_)))
  all_goals first | refine awpOps_cons (op_mv rfl (Conv.of rfl) rfl) ?_ | refine awpOps_cons (op_mvl rfl rfl rfl rfl) ?_ | refine awpOps_cons (op_mvo rfl rfl rfl rfl) ?_
  refine awpOps_callE (ι := Int × List Evt) [] (fun i => .tup [.v i.1, .v i.2]) (fun _ => []) (fun i => i.2.length ≤ 100) rfl fb4 (.cons rfl (Conv.of rfl) (.nil _)) (drawPlay_ct code) (fun r h' ⟨bad, evs, e1, e2, e3⟩ => ⟨(bad, evs), e1, e2, e3⟩) ols0 oks0 (argOk' rfl rfl argO0) rfl (fun _ => rfl) (fun _ => oks0) (fun _ o ho => by cases ho) ?_
  rintro ⟨bad, evs⟩ he
  simp only at he ⊢
  all_goals first | refine awpOps_cons (op_mv rfl (Conv.of rfl) rfl) ?_ | refine awpOps_cons (op_mvl rfl rfl rfl rfl) ?_ | refine awpOps_cons (op_mvo rfl rfl rfl rfl) ?_
  all_goals refine awpOps_cons (op_ext rfl rfl rfl) ?_
  all_goals refine awpOps_cons (op_ext rfl rfl rfl) ?_
  all_goals first | refine awpOps_cons (op_as rfl (Conv.of rfl) rfl) ?_ | refine awpOps_cons (op_asl rfl rfl rfl rfl) ?_ | refine awpOps_cons (op_aso rfl rfl rfl rfl) ?_
  all_goals first | refine awpOps_cons (op_as rfl (Conv.of rfl) rfl) ?_ | refine awpOps_cons (op_asl rfl rfl rfl rfl) ?_ | refine awpOps_cons (op_aso rfl rfl rfl rfl) ?_
  all_goals refine awpOps_nil ?_
  all_goals first | refine awp_seq (awp_region (id := 4) ?_) | refine awp_seq (awp_seq (awp_region (id := 4) ?_)) | refine awp_region (id := 4) ?_ | refine awp_seq (awp_seq (awp_seq (awp_region (id := 4) ?_)))
  all_goals first | refine awpOps_cons (op_mv rfl (Conv.of rfl) rfl) ?_ | refine awpOps_cons (op_mvl rfl rfl rfl rfl) ?_ | refine awpOps_cons (op_mvo rfl rfl rfl rfl) ?_
  all_goals first | refine awpOps_cons (op_mv rfl (Conv.of rfl) rfl) ?_ | refine awpOps_cons (op_mvl rfl rfl rfl rfl) ?_ | refine awpOps_cons (op_mvo rfl rfl rfl rfl) ?_
  all_goals refine awpOps_cons (op_call fb5 (.cons rfl (Conv.of rfl) (.cons rfl (Conv.of rfl) (.nil _))) (iPlay_ct bad evs) (argOk rfl rfl (argOk rfl rfl argOk0)) rfl rfl) ?_
  all_goals first | refine awpOps_cons (op_mv rfl (Conv.of rfl) rfl) ?_ | refine awpOps_cons (op_mvl rfl rfl rfl rfl) ?_ | refine awpOps_cons (op_mvo rfl rfl rfl rfl) ?_
  all_goals refine awpOps_cons (op_ext rfl rfl rfl) ?_
  all_goals refine awpOps_cons (op_ext rfl rfl rfl) ?_
  all_goals refine awpOps_cons (op_alloc (o := 0) z29 rfl rfl) ?_
  all_goals first | refine awpOps_cons (op_st ty29 rfl rfl (Conv.of rfl) rfl) ?_ | refine awpOps_cons (op_ste ty29 rfl rfl (Conv.of rfl) rfl (by assumption)) ?_ | refine awpOps_cons (op_stm ty29 rfl rfl rfl) ?_ | refine awpOps_cons (op_stme ty29 rfl rfl rfl (by assumption)) ?_
  all_goals first | refine awpOps_cons (op_as rfl (Conv.of rfl) rfl) ?_ | refine awpOps_cons (op_asl rfl rfl rfl rfl) ?_ | refine awpOps_cons (op_aso rfl rfl rfl rfl) ?_
  all_goals refine awpOps_nil ?_
  all_goals first | refine awp_seq (awp_region (id := 5) ?_) | refine awp_seq (awp_seq (awp_region (id := 5) ?_)) | refine awp_region (id := 5) ?_ | refine awp_seq (awp_seq (awp_seq (awp_region (id := 5) ?_)))
  all_goals first | refine awpOps_cons (op_mv rfl (Conv.of rfl) rfl) ?_ | refine awpOps_cons (op_mvl rfl rfl rfl rfl) ?_ | refine awpOps_cons (op_mvo rfl rfl rfl rfl) ?_
  all_goals first | refine awpOps_cons (op_mv rfl (Conv.of rfl) rfl) ?_ | refine awpOps_cons (op_mvl rfl rfl rfl rfl) ?_ | refine awpOps_cons (op_mvo rfl rfl rfl rfl) ?_
  all_goals refine awpOps_cons (op_call fb6 (.cons rfl (Conv.of rfl) (.cons rfl (Conv.of rfl) (.nil _))) (sPlayR_ct bad evs) (argOk rfl rfl (argOk rfl rfl argOk0)) rfl rfl) ?_
  all_goals first | refine awpOps_cons (op_mv rfl (Conv.of rfl) rfl) ?_ | refine awpOps_cons (op_mvl rfl rfl rfl rfl) ?_ | refine awpOps_cons (op_mvo rfl rfl rfl rfl) ?_
  all_goals refine awpOps_cons (op_ext rfl rfl rfl) ?_
  all_goals refine awpOps_cons (op_ext rfl rfl rfl) ?_
  all_goals refine awpOps_cons (op_alloc (o := 1) z29 rfl rfl) ?_
  all_goals first | refine awpOps_cons (op_st ty29 rfl rfl (Conv.of rfl) rfl) ?_ | refine awpOps_cons (op_ste ty29 rfl rfl (Conv.of rfl) rfl (by assumption)) ?_ | refine awpOps_cons (op_stm ty29 rfl rfl rfl) ?_ | refine awpOps_cons (op_stme ty29 rfl rfl rfl (by assumption)) ?_
  all_goals first | refine awpOps_cons (op_as rfl (Conv.of rfl) rfl) ?_ | refine awpOps_cons (op_asl rfl rfl rfl rfl) ?_ | refine awpOps_cons (op_aso rfl rfl rfl rfl) ?_
  all_goals refine awpOps_nil ?_
  first | refine awp_seq (awp_seq (awp_seq (awp_seq_to (s' := mkSt 110 [(3, .v bad), (4, .v evs), (5, .box 0 (IsLens.whole Wrld)), (6, .v (playR bad evs).2), (7, .box 1 (IsLens.whole Wrld)), (8, .v (playR bad evs).2), (49, .v (!(playR bad evs).2 || !roomB (playR bad evs).1 1))] [(0, .cell (playR bad evs).1), (1, .cell (playR bad evs).1)]) ?_ ?_))) | refine awp_seq (awp_seq (awp_seq_to (s' := mkSt 110 [(3, .v bad), (4, .v evs), (5, .box 0 (IsLens.whole Wrld)), (6, .v (playR bad evs).2), (7, .box 1 (IsLens.whole Wrld)), (8, .v (playR bad evs).2), (49, .v (!(playR bad evs).2 || !roomB (playR bad evs).1 1))] [(0, .cell (playR bad evs).1), (1, .cell (playR bad evs).1)]) ?_ ?_)) | refine awp_seq (awp_seq_to (s' := mkSt 110 [(3, .v bad), (4, .v evs), (5, .box 0 (IsLens.whole Wrld)), (6, .v (playR bad evs).2), (7, .box 1 (IsLens.whole Wrld)), (8, .v (playR bad evs).2), (49, .v (!(playR bad evs).2 || !roomB (playR bad evs).1 1))] [(0, .cell (playR bad evs).1), (1, .cell (playR bad evs).1)]) ?_ ?_) | refine awp_seq_to (s' := mkSt 110 [(3, .v bad), (4, .v evs), (5, .box 0 (IsLens.whole Wrld)), (6, .v (playR bad evs).2), (7, .box 1 (IsLens.whole Wrld)), (8, .v (playR bad evs).2), (49, .v (!(playR bad evs).2 || !roomB (playR bad evs).1 1))] [(0, .cell (playR bad evs).1), (1, .cell (playR bad evs).1)]) ?_ ?_ | refine awp_toB (s' := mkSt 110 [(3, .v bad), (4, .v evs), (5, .box 0 (IsLens.whole Wrld)), (6, .v (playR bad evs).2), (7, .box 1 (IsLens.whole Wrld)), (8, .v (playR bad evs).2), (49, .v (!(playR bad evs).2 || !roomB (playR bad evs).1 1))] [(0, .cell (playR bad evs).1), (1, .cell (playR bad evs).1)]) ?_ ?_ | refine awp_to (s' := mkSt 110 [(3, .v bad), (4, .v evs), (5, .box 0 (IsLens.whole Wrld)), (6, .v (playR bad evs).2), (7, .box 1 (IsLens.whole Wrld)), (8, .v (playR bad evs).2), (49, .v (!(playR bad evs).2 || !roomB (playR bad evs).1 1))] [(0, .cell (playR bad evs).1), (1, .cell (playR bad evs).1)]) ?_ ?_
  · all_goals first | refine awp_seq (awp_region (id := 6) ?_) | refine awp_seq (awp_seq (awp_region (id := 6) ?_)) | refine awp_region (id := 6) ?_ | refine awp_seq (awp_seq (awp_seq (awp_region (id := 6) ?_)))
    all_goals first | refine awpOps_cons (op_mv rfl (Conv.of rfl) rfl) ?_ | refine awpOps_cons (op_mvl rfl rfl rfl rfl) ?_ | refine awpOps_cons (op_mvo rfl rfl rfl rfl) ?_
    all_goals first | refine awpOps_cons (op_mv rfl (Conv.of rfl) rfl) ?_ | refine awpOps_cons (op_mvl rfl rfl rfl rfl) ?_ | refine awpOps_cons (op_mvo rfl rfl rfl rfl) ?_
    all_goals refine awpOps_cons (op_bneq ub4 rfl rfl rfl) ?_
    all_goals first | refine awpOps_cons (op_mv rfl (Conv.of rfl) rfl) ?_ | refine awpOps_cons (op_mvl rfl rfl rfl rfl) ?_ | refine awpOps_cons (op_mvo rfl rfl rfl rfl) ?_
    all_goals first | refine g_lit (t := 35) (b := true) rfl ?_ | refine g_lit (t := 35) (b := false) rfl ?_ | refine g_ulit (t := 35) rfl ?_ | refine g_split (t := 35) rfl (fun h => ?_) (fun h => ?_)
    all_goals first | refine awpOps_cons (g_off rfl rfl rfl rfl rfl) ?_ | refine awpOps_cons (g_und rfl rfl rfl) ?_ | refine awpOps_cons (g_on rfl rfl rfl (op_ld ty29 rfl rfl rfl)) ?_ | refine awpOps_cons (g_on rfl rfl rfl (op_ldr ty29 rfl rfl)) ?_ | refine awpOps_cons (g_on rfl rfl rfl (op_lde ty29 rfl rfl (by assumption) rfl)) ?_ | refine awpOps_cons (g_on rfl rfl rfl (op_ldl ty29 rfl rfl rfl)) ?_ | refine awpOps_cons (g_on rfl rfl rfl (op_ldd ty29 rfl rfl rfl)) ?_ | refine awpOps_cons (g_on rfl rfl rfl (op_ldde ty29 rfl rfl (by assumption) rfl)) ?_
    all_goals first | refine awpOps_cons (g_off rfl rfl rfl rfl rfl) ?_ | refine awpOps_cons (g_und rfl rfl rfl) ?_ | refine awpOps_cons (g_on rfl rfl rfl (op_ld ty29 rfl rfl rfl)) ?_ | refine awpOps_cons (g_on rfl rfl rfl (op_ldr ty29 rfl rfl)) ?_ | refine awpOps_cons (g_on rfl rfl rfl (op_lde ty29 rfl rfl (by assumption) rfl)) ?_ | refine awpOps_cons (g_on rfl rfl rfl (op_ldl ty29 rfl rfl rfl)) ?_ | refine awpOps_cons (g_on rfl rfl rfl (op_ldd ty29 rfl rfl rfl)) ?_ | refine awpOps_cons (g_on rfl rfl rfl (op_ldde ty29 rfl rfl (by assumption) rfl)) ?_
    all_goals first | refine awpOps_cons (g_off rfl rfl rfl rfl rfl) ?_ | refine awpOps_cons (g_und rfl rfl rfl) ?_ | refine awpOps_cons (g_on rfl rfl rfl (op_call fb7 (.cons rfl (Conv.of rfl) (.cons rfl (Conv.of rfl) (.nil _))) (lwWorld_ct _ _) (argOk rfl rfl (argOk rfl rfl argOk0)) rfl rfl)) ?_
    all_goals first | refine awpOps_cons (g_off rfl rfl rfl rfl rfl) ?_ | refine awpOps_cons (g_und rfl rfl rfl) ?_ | refine awpOps_cons (g_on rfl rfl rfl (op_not rfl rfl)) ?_
    all_goals refine awpOps_cons (op_pick rfl rfl rfl rfl) ?_
    all_goals first | refine awpOps_cons (op_mv rfl (Conv.of rfl) rfl) ?_ | refine awpOps_cons (op_mvl rfl rfl rfl rfl) ?_ | refine awpOps_cons (op_mvo rfl rfl rfl rfl) ?_
    all_goals first | refine g_lit (t := 41) (b := true) rfl ?_ | refine g_lit (t := 41) (b := false) rfl ?_ | refine g_ulit (t := 41) rfl ?_ | refine g_split (t := 41) rfl (fun h => ?_) (fun h => ?_)
    all_goals first | refine awpOps_cons (g_off rfl rfl rfl rfl rfl) ?_ | refine awpOps_cons (g_und rfl rfl rfl) ?_ | refine awpOps_cons (g_on rfl rfl rfl (op_mv rfl (Conv.of rfl) rfl)) ?_ | refine awpOps_cons (g_on rfl rfl rfl (op_mvl rfl rfl rfl rfl)) ?_ | refine awpOps_cons (g_on rfl rfl rfl (op_mvo rfl rfl rfl rfl)) ?_
    all_goals first | refine awpOps_cons (g_off rfl rfl rfl rfl rfl) ?_ | refine awpOps_cons (g_und rfl rfl rfl) ?_ | refine awpOps_cons (g_on rfl rfl rfl (op_not rfl rfl)) ?_
    all_goals refine awpOps_cons (op_pick rfl rfl rfl rfl) ?_
    all_goals first | refine awpOps_cons (op_mv rfl (Conv.of rfl) rfl) ?_ | refine awpOps_cons (op_mvl rfl rfl rfl rfl) ?_ | refine awpOps_cons (op_mvo rfl rfl rfl rfl) ?_
    all_goals first | refine g_lit (t := 45) (b := true) rfl ?_ | refine g_lit (t := 45) (b := false) rfl ?_ | refine g_ulit (t := 45) rfl ?_ | refine g_split (t := 45) rfl (fun h => ?_) (fun h => ?_)
    all_goals first | refine awpOps_cons (g_off rfl rfl rfl rfl rfl) ?_ | refine awpOps_cons (g_und rfl rfl rfl) ?_ | refine awpOps_cons (g_on rfl rfl rfl (op_ld ty29 rfl rfl rfl)) ?_ | refine awpOps_cons (g_on rfl rfl rfl (op_ldr ty29 rfl rfl)) ?_ | refine awpOps_cons (g_on rfl rfl rfl (op_lde ty29 rfl rfl (by assumption) rfl)) ?_ | refine awpOps_cons (g_on rfl rfl rfl (op_ldl ty29 rfl rfl rfl)) ?_ | refine awpOps_cons (g_on rfl rfl rfl (op_ldd ty29 rfl rfl rfl)) ?_ | refine awpOps_cons (g_on rfl rfl rfl (op_ldde ty29 rfl rfl (by assumption) rfl)) ?_
    all_goals first | refine awpOps_cons (g_off rfl rfl rfl rfl rfl) ?_ | refine awpOps_cons (g_und rfl rfl rfl) ?_ | refine awpOps_cons (g_on rfl rfl rfl (op_call fb8 (.cons rfl (Conv.of rfl) (.cons rfl (Conv.of rfl) (.nil _))) (lwRoom1_ct _ (playR_small bad evs)) (argOk rfl rfl (argOk rfl rfl argOk0)) rfl rfl)) ?_
    all_goals first | refine awpOps_cons (g_off rfl rfl rfl rfl rfl) ?_ | refine awpOps_cons (g_und rfl rfl rfl) ?_ | refine awpOps_cons (g_on rfl rfl rfl (op_not rfl rfl)) ?_
    all_goals refine awpOps_cons (op_pick rfl rfl rfl rfl) ?_
    all_goals refine awpOps_nil ?_
    all_goals exact Le.mk rfl (tle rfl (rfl) rfl (tle rfl (rfl) rfl (tlb rfl rfl rfl (tle rfl (rfl) rfl (tlb rfl rfl rfl (tle rfl (rfl) rfl (tle rfl (by first | rfl | (have e1 : ∀ b : Bool, Enc.dis b = b := fun _ => rfl; have e2 : ∀ y : Wrld, Enc.dis y = y := fun _ => rfl; show AV.v _ = AV.v _; simp_all)) rfl tln))))))) (olk rfl (by first | exact obOk_cell | exact obOk_arr | exact obOkW rfl | exact obOkW0 | exact obOkN | exact obOkS rfl | exact obOkNs | exact obOkS0 | trivial) (olk rfl (by first | exact obOk_cell | exact obOk_arr | exact obOkW rfl | exact obOkW0 | exact obOkN | exact obOkS rfl | exact obOkNs | exact obOkS0 | trivial) oln)) noS
  first | refine awp_seq (awp_cond rfl (fun h => ?_) (fun h => ?_)) | refine awp_seq (awp_seq (awp_cond rfl (fun h => ?_) (fun h => ?_))) | refine awp_cond rfl (fun h => ?_) (fun h => ?_) | refine awp_seq (awp_seq (awp_seq (awp_cond rfl (fun h => ?_) (fun h => ?_))))
  · all_goals first | refine awp_seq (awp_region (id := 7) ?_) | refine awp_seq (awp_seq (awp_region (id := 7) ?_)) | refine awp_region (id := 7) ?_ | refine awp_seq (awp_seq (awp_seq (awp_region (id := 7) ?_)))
    all_goals first | refine awpOps_cons (op_mv rfl (Conv.of rfl) rfl) ?_ | refine awpOps_cons (op_mvl rfl rfl rfl rfl) ?_ | refine awpOps_cons (op_mvo rfl rfl rfl rfl) ?_
    all_goals first | refine awpOps_cons (op_mv rfl (Conv.of rfl) rfl) ?_ | refine awpOps_cons (op_mvl rfl rfl rfl rfl) ?_ | refine awpOps_cons (op_mvo rfl rfl rfl rfl) ?_
    all_goals refine awpOps_cons (op_beql ub4 rfl rfl rfl) ?_
    all_goals first | refine awpOps_cons (op_mv rfl (Conv.of rfl) rfl) ?_ | refine awpOps_cons (op_mvl rfl rfl rfl rfl) ?_ | refine awpOps_cons (op_mvo rfl rfl rfl rfl) ?_
    all_goals first | refine g_lit (t := 53) (b := true) rfl ?_ | refine g_lit (t := 53) (b := false) rfl ?_ | refine g_ulit (t := 53) rfl ?_ | refine g_split (t := 53) rfl (fun h => ?_) (fun h => ?_)
    all_goals first | refine awpOps_cons (g_off rfl rfl rfl rfl rfl) ?_ | refine awpOps_cons (g_und rfl rfl rfl) ?_ | refine awpOps_cons (g_on rfl rfl rfl (op_ld ty29 rfl rfl rfl)) ?_ | refine awpOps_cons (g_on rfl rfl rfl (op_ldr ty29 rfl rfl)) ?_ | refine awpOps_cons (g_on rfl rfl rfl (op_lde ty29 rfl rfl (by assumption) rfl)) ?_ | refine awpOps_cons (g_on rfl rfl rfl (op_ldl ty29 rfl rfl rfl)) ?_ | refine awpOps_cons (g_on rfl rfl rfl (op_ldd ty29 rfl rfl rfl)) ?_ | refine awpOps_cons (g_on rfl rfl rfl (op_ldde ty29 rfl rfl (by assumption) rfl)) ?_
    all_goals first | refine awpOps_cons (g_off rfl rfl rfl rfl rfl) ?_ | refine awpOps_cons (g_und rfl rfl rfl) ?_ | refine awpOps_cons (g_on rfl rfl rfl (op_ld ty29 rfl rfl rfl)) ?_ | refine awpOps_cons (g_on rfl rfl rfl (op_ldr ty29 rfl rfl)) ?_ | refine awpOps_cons (g_on rfl rfl rfl (op_lde ty29 rfl rfl (by assumption) rfl)) ?_ | refine awpOps_cons (g_on rfl rfl rfl (op_ldl ty29 rfl rfl rfl)) ?_ | refine awpOps_cons (g_on rfl rfl rfl (op_ldd ty29 rfl rfl rfl)) ?_ | refine awpOps_cons (g_on rfl rfl rfl (op_ldde ty29 rfl rfl (by assumption) rfl)) ?_
    all_goals first | refine awpOps_cons (g_off rfl rfl rfl rfl rfl) ?_ | refine awpOps_cons (g_und rfl rfl rfl) ?_ | refine awpOps_cons (g_on rfl rfl rfl (op_call fb7 (.cons rfl (Conv.of rfl) (.cons rfl (Conv.of rfl) (.nil _))) (lwWorld_ct _ _) (argOk rfl rfl (argOk rfl rfl argOk0)) rfl rfl)) ?_
    all_goals refine awpOps_cons (op_pick rfl rfl rfl rfl) ?_
    all_goals first | refine awpOps_cons (op_as rfl (Conv.of rfl) rfl) ?_ | refine awpOps_cons (op_asl rfl rfl rfl rfl) ?_ | refine awpOps_cons (op_aso rfl rfl rfl rfl) ?_
    all_goals refine awpOps_nil ?_
    all_goals refine awp_ret ?_
    all_goals refine finP (.v rfl (Conv.of rfl)) rfl ?_
    all_goals simp_all [FV.av]
  have h' : (playR bad evs).2 = true ∧ roomB (playR bad evs).1 1 = true := by simpa using h
  obtain ⟨h', hroom⟩ := h'
  obtain ⟨hb, hl, hw⟩ := playR_ok h'
  rw [hw] at hroom ⊢
  have hI := Inv.play hb evs
  have hbad := play_bad bad evs
  generalize playF bad evs = w at hI hbad hroom ⊢
  subst hbad
  refine awp_skip ?_
  have hR := roomB_room hroom
  have hep := hI.ok.ep
  have hep8 := hR.ep
  have hcalm := Ep.calm ⟨3, 1, 2⟩ hI (by have := hR.ep; omega) (by have := hR.log; omega)
  have hxe : worldCalmR w [⟨3, 1, 2⟩] = calmF w ⟨3, 1, 2⟩ := by
    unfold worldCalmR; rw [if_pos (by simp [hI.worldOk])]; rfl
  generalize calmF w ⟨3, 1, 2⟩ = x at hcalm hxe
  obtain ⟨hE, hH, _, _⟩ := hcalm
  have hx4 := hE.inv.ok.four
  have hxl := hE.inv.ok.ll
  have hxb := hE.bd
  have hxep := hE.ep
  first | refine awp_seq (awp_seq (awp_seq (awp_seq_to (s' := mkSt 110 [(3, .v w.bad), (5, .box 0 (IsLens.whole Wrld)), (9, .box 2 (IsLens.whole Wrld))] [(0, .cell w), (2, .cell x)]) ?_ ?_))) | refine awp_seq (awp_seq (awp_seq_to (s' := mkSt 110 [(3, .v w.bad), (5, .box 0 (IsLens.whole Wrld)), (9, .box 2 (IsLens.whole Wrld))] [(0, .cell w), (2, .cell x)]) ?_ ?_)) | refine awp_seq (awp_seq_to (s' := mkSt 110 [(3, .v w.bad), (5, .box 0 (IsLens.whole Wrld)), (9, .box 2 (IsLens.whole Wrld))] [(0, .cell w), (2, .cell x)]) ?_ ?_) | refine awp_seq_to (s' := mkSt 110 [(3, .v w.bad), (5, .box 0 (IsLens.whole Wrld)), (9, .box 2 (IsLens.whole Wrld))] [(0, .cell w), (2, .cell x)]) ?_ ?_ | refine awp_toB (s' := mkSt 110 [(3, .v w.bad), (5, .box 0 (IsLens.whole Wrld)), (9, .box 2 (IsLens.whole Wrld))] [(0, .cell w), (2, .cell x)]) ?_ ?_ | refine awp_to (s' := mkSt 110 [(3, .v w.bad), (5, .box 0 (IsLens.whole Wrld)), (9, .box 2 (IsLens.whole Wrld))] [(0, .cell w), (2, .cell x)]) ?_ ?_
  · all_goals first | refine awp_seq (awp_region (id := 8) ?_) | refine awp_seq (awp_seq (awp_region (id := 8) ?_)) | refine awp_region (id := 8) ?_ | refine awp_seq (awp_seq (awp_seq (awp_region (id := 8) ?_)))
    all_goals first | refine awpOps_cons (op_ld ty29 rfl rfl rfl) ?_ | refine awpOps_cons (op_ldr ty29 rfl rfl) ?_ | refine awpOps_cons (op_lde ty29 rfl rfl (by assumption) rfl) ?_ | refine awpOps_cons (op_ldl ty29 rfl rfl rfl) ?_ | refine awpOps_cons (op_ldd ty29 rfl rfl rfl) ?_ | refine awpOps_cons (op_ldde ty29 rfl rfl (by assumption) rfl) ?_
    all_goals refine awpOps_cons (op_build (.cons f36_0 rfl (Conv.of rfl) (.cons f36_1 rfl (Conv.of rfl) (.cons f36_2 rfl (Conv.of rfl) (.nil _)))) z36 rfl pl36 rfl) ?_
    all_goals refine awpOps_cons (op_bsl sl37 z36 (.cons rfl (Conv.of rfl) (.nil _)) rfl (by decide) rfl) ?_
    all_goals refine awpOps_cons (op_call fb9 (.cons rfl (Conv.of rfl) (.cons rfl (Conv.ol) (.nil _))) (worldCalm_ct _ _) (argOk rfl rfl (argOk rfl rfl argOk0)) rfl rfl) ?_
    all_goals refine awpOps_cons (op_alloc (o := 2) z29 rfl rfl) ?_
    all_goals first | refine awpOps_cons (op_st ty29 rfl rfl (Conv.of rfl) rfl) ?_ | refine awpOps_cons (op_ste ty29 rfl rfl (Conv.of rfl) rfl (by assumption)) ?_ | refine awpOps_cons (op_stm ty29 rfl rfl rfl) ?_ | refine awpOps_cons (op_stme ty29 rfl rfl rfl (by assumption)) ?_
    all_goals refine awpOps_nil ?_
    all_goals exact Le.mk rfl (tle rfl (rfl) rfl (tlb rfl rfl rfl (tlb rfl rfl rfl tln))) (olk rfl (by first | exact obOk_cell | exact obOk_arr | exact obOkW rfl | exact obOkW0 | exact obOkN | exact obOkS rfl | exact obOkNs | exact obOkS0 | trivial) (olk (by first | rfl | (exact congrArg Wt.Obj.cell hxe)) (by first | exact obOk_cell | exact obOk_arr | exact obOkW rfl | exact obOkW0 | exact obOkN | exact obOkS rfl | exact obOkNs | exact obOkS0 | trivial) oln)) noS
  all_goals first | refine awp_seq (awp_region (id := 9) ?_) | refine awp_seq (awp_seq (awp_region (id := 9) ?_)) | refine awp_region (id := 9) ?_ | refine awp_seq (awp_seq (awp_seq (awp_region (id := 9) ?_)))
  all_goals refine awpOps_cons (op_as rfl (Conv.of rfl) rfl) ?_
  all_goals refine awpOps_nil ?_
  first | refine awp_seq (awp_seq (awp_seq (awp_seq_to (s' := mkSt 110 [(3, .v w.bad), (5, .box 0 (IsLens.whole Wrld)), (9, .box 2 (IsLens.whole Wrld))] [(0, .cell w), (2, .cell x)]) ?_ ?_))) | refine awp_seq (awp_seq (awp_seq_to (s' := mkSt 110 [(3, .v w.bad), (5, .box 0 (IsLens.whole Wrld)), (9, .box 2 (IsLens.whole Wrld))] [(0, .cell w), (2, .cell x)]) ?_ ?_)) | refine awp_seq (awp_seq_to (s' := mkSt 110 [(3, .v w.bad), (5, .box 0 (IsLens.whole Wrld)), (9, .box 2 (IsLens.whole Wrld))] [(0, .cell w), (2, .cell x)]) ?_ ?_) | refine awp_seq_to (s' := mkSt 110 [(3, .v w.bad), (5, .box 0 (IsLens.whole Wrld)), (9, .box 2 (IsLens.whole Wrld))] [(0, .cell w), (2, .cell x)]) ?_ ?_ | refine awp_toB (s' := mkSt 110 [(3, .v w.bad), (5, .box 0 (IsLens.whole Wrld)), (9, .box 2 (IsLens.whole Wrld))] [(0, .cell w), (2, .cell x)]) ?_ ?_ | refine awp_to (s' := mkSt 110 [(3, .v w.bad), (5, .box 0 (IsLens.whole Wrld)), (9, .box 2 (IsLens.whole Wrld))] [(0, .cell w), (2, .cell x)]) ?_ ?_
  · first | refine awp_seq (awp_block ?_) | refine awp_seq (awp_seq (awp_block ?_)) | refine awp_block ?_ | refine awp_seq (awp_seq (awp_seq (awp_block ?_)))
    first | refine awp_seq (awp_loop' (fun n_ s => ∃ (i : Nat), ∃ (hi : n_ + i = 4), s = mkSt 110 [(3, .v w.bad), (5, .box 0 (IsLens.whole Wrld)), (9, .box 2 (IsLens.whole Wrld)), (10, .v (i : Int))] [(0, .cell w), (2, .cell x)]) (4) ⟨0, by omega, rfl⟩ (Le.mk rfl (tle rfl (rfl) rfl (tlb rfl rfl rfl (tlb rfl rfl rfl (tle rfl (rfl) rfl tln)))) (olk rfl (by first | exact obOk_cell | exact obOk_arr | exact obOkW rfl | exact obOkW0 | exact obOkN | exact obOkS rfl | exact obOkNs | exact obOkS0 | trivial) (olk rfl (by first | exact obOk_cell | exact obOk_arr | exact obOkW rfl | exact obOkW0 | exact obOkN | exact obOkS rfl | exact obOkNs | exact obOkS0 | trivial) oln)) noS) ?_) | refine awp_seq (awp_seq (awp_loop' (fun n_ s => ∃ (i : Nat), ∃ (hi : n_ + i = 4), s = mkSt 110 [(3, .v w.bad), (5, .box 0 (IsLens.whole Wrld)), (9, .box 2 (IsLens.whole Wrld)), (10, .v (i : Int))] [(0, .cell w), (2, .cell x)]) (4) ⟨0, by omega, rfl⟩ (Le.mk rfl (tle rfl (rfl) rfl (tlb rfl rfl rfl (tlb rfl rfl rfl (tle rfl (rfl) rfl tln)))) (olk rfl (by first | exact obOk_cell | exact obOk_arr | exact obOkW rfl | exact obOkW0 | exact obOkN | exact obOkS rfl | exact obOkNs | exact obOkS0 | trivial) (olk rfl (by first | exact obOk_cell | exact obOk_arr | exact obOkW rfl | exact obOkW0 | exact obOkN | exact obOkS rfl | exact obOkNs | exact obOkS0 | trivial) oln)) noS) ?_)) | refine awp_loop' (fun n_ s => ∃ (i : Nat), ∃ (hi : n_ + i = 4), s = mkSt 110 [(3, .v w.bad), (5, .box 0 (IsLens.whole Wrld)), (9, .box 2 (IsLens.whole Wrld)), (10, .v (i : Int))] [(0, .cell w), (2, .cell x)]) (4) ⟨0, by omega, rfl⟩ (Le.mk rfl (tle rfl (rfl) rfl (tlb rfl rfl rfl (tlb rfl rfl rfl (tle rfl (rfl) rfl tln)))) (olk rfl (by first | exact obOk_cell | exact obOk_arr | exact obOkW rfl | exact obOkW0 | exact obOkN | exact obOkS rfl | exact obOkNs | exact obOkS0 | trivial) (olk rfl (by first | exact obOk_cell | exact obOk_arr | exact obOkW rfl | exact obOkW0 | exact obOkN | exact obOkS rfl | exact obOkNs | exact obOkS0 | trivial) oln)) noS) ?_ | refine awp_seq (awp_seq (awp_seq (awp_loop' (fun n_ s => ∃ (i : Nat), ∃ (hi : n_ + i = 4), s = mkSt 110 [(3, .v w.bad), (5, .box 0 (IsLens.whole Wrld)), (9, .box 2 (IsLens.whole Wrld)), (10, .v (i : Int))] [(0, .cell w), (2, .cell x)]) (4) ⟨0, by omega, rfl⟩ (Le.mk rfl (tle rfl (rfl) rfl (tlb rfl rfl rfl (tlb rfl rfl rfl (tle rfl (rfl) rfl tln)))) (olk rfl (by first | exact obOk_cell | exact obOk_arr | exact obOkW rfl | exact obOkW0 | exact obOkN | exact obOkS rfl | exact obOkNs | exact obOkS0 | trivial) (olk rfl (by first | exact obOk_cell | exact obOk_arr | exact obOkW rfl | exact obOkW0 | exact obOkN | exact obOkS rfl | exact obOkNs | exact obOkS0 | trivial) oln)) noS) ?_)))
    rintro n_ s ⟨i, hi, rfl⟩
    all_goals first | refine awp_seq (awp_region (id := 10) ?_) | refine awp_seq (awp_seq (awp_region (id := 10) ?_)) | refine awp_region (id := 10) ?_ | refine awp_seq (awp_seq (awp_seq (awp_region (id := 10) ?_)))
    all_goals first | refine awpOps_cons (op_mv rfl (Conv.of rfl) rfl) ?_ | refine awpOps_cons (op_mvl rfl rfl rfl rfl) ?_ | refine awpOps_cons (op_mvo rfl rfl rfl rfl) ?_
    all_goals first | refine awpOps_cons (op_fab f29_1 rfl rfl) ?_ | refine awpOps_cons (op_far f29_1 rfl rfl) ?_ | refine awpOps_cons (op_fae f29_1 rfl rfl) ?_
    all_goals first | refine awpOps_cons (op_ld ty26 rfl rfl rfl) ?_ | refine awpOps_cons (op_ldr ty26 rfl rfl) ?_ | refine awpOps_cons (op_lde ty26 rfl rfl (by assumption) rfl) ?_ | refine awpOps_cons (op_ldl ty26 rfl rfl rfl) ?_ | refine awpOps_cons (op_ldd ty26 rfl rfl rfl) ?_ | refine awpOps_cons (op_ldde ty26 rfl rfl (by assumption) rfl) ?_
    all_goals first | refine awpOps_cons (op_len sl26 rfl rfl) ?_ | refine awpOps_cons (op_lenA sl26 rfl rfl rfl) ?_
    all_goals refine awpOps_cons (op_lss rfl rfl rfl) ?_
    all_goals refine awpOps_nil ?_
    first | refine awp_seq (awp_cond rfl (fun h => ?_) (fun h => ?_)) | refine awp_seq (awp_seq (awp_cond rfl (fun h => ?_) (fun h => ?_))) | refine awp_cond rfl (fun h => ?_) (fun h => ?_) | refine awp_seq (awp_seq (awp_seq (awp_cond rfl (fun h => ?_) (fun h => ?_))))
    · have hi2 : i < x.nodes.length := by simpa using h
      have hz : x.nodes[i]? = some x.nodes[i] := List.getElem?_eq_getElem hi2
      generalize x.nodes[i] = a at hz
      have hsa := nodeOk_seen (hE.inv.ok.nodes a (List.mem_of_getElem? hz))
      refine awp_skip ?_
      first | refine awp_seq (awp_block ?_) | refine awp_seq (awp_seq (awp_block ?_)) | refine awp_block ?_ | refine awp_seq (awp_seq (awp_seq (awp_block ?_)))
      all_goals first | refine awp_seq (awp_region (id := 12) ?_) | refine awp_seq (awp_seq (awp_region (id := 12) ?_)) | refine awp_region (id := 12) ?_ | refine awp_seq (awp_seq (awp_seq (awp_region (id := 12) ?_)))
      all_goals first | refine awpOps_cons (op_mv rfl (Conv.of rfl) rfl) ?_ | refine awpOps_cons (op_mvl rfl rfl rfl rfl) ?_ | refine awpOps_cons (op_mvo rfl rfl rfl rfl) ?_
      all_goals refine awpOps_cons (op_add rfl rfl rfl (by omega)) ?_
      all_goals first | refine awpOps_cons (op_mv rfl (Conv.of rfl) rfl) ?_ | refine awpOps_cons (op_mvl rfl rfl rfl rfl) ?_ | refine awpOps_cons (op_mvo rfl rfl rfl rfl) ?_
      all_goals refine awpOps_cons (op_eql rfl rfl rfl) ?_
      all_goals refine awpOps_nil ?_
      first | refine awp_seq (awp_cond rfl (fun h2 => ?_) (fun h2 => ?_)) | refine awp_seq (awp_seq (awp_cond rfl (fun h2 => ?_) (fun h2 => ?_))) | refine awp_cond rfl (fun h2 => ?_) (fun h2 => ?_) | refine awp_seq (awp_seq (awp_seq (awp_cond rfl (fun h2 => ?_) (fun h2 => ?_))))
      · refine awp_exit ?_
        repeat refine ex_seq ?_
        refine ex_block ?_
        all_goals first | refine awp_seq (awp_region (id := 11) ?_) | refine awp_seq (awp_seq (awp_region (id := 11) ?_)) | refine awp_region (id := 11) ?_ | refine awp_seq (awp_seq (awp_seq (awp_region (id := 11) ?_)))
        all_goals first | refine awpOps_cons (op_mv rfl (Conv.of rfl) rfl) ?_ | refine awpOps_cons (op_mvl rfl rfl rfl rfl) ?_ | refine awpOps_cons (op_mvo rfl rfl rfl rfl) ?_
        all_goals refine awpOps_cons (op_add rfl rfl rfl (by omega)) ?_
        all_goals first | refine awpOps_cons (op_as rfl (Conv.of rfl) rfl) ?_ | refine awpOps_cons (op_asl rfl rfl rfl rfl) ?_ | refine awpOps_cons (op_aso rfl rfl rfl rfl) ?_
        all_goals refine awpOps_nil ?_
        repeat first | refine nx_seq ?_ | refine nx_block ?_
        exact ⟨n_ - 1, _, by omega, ⟨i + 1, by omega, rfl⟩, Le.mk rfl (tle rfl (rfl) rfl (tlb rfl rfl rfl (tlb rfl rfl rfl (tle rfl (rfl) rfl tln)))) (olk rfl (by first | exact obOk_cell | exact obOk_arr | exact obOkW rfl | exact obOkW0 | exact obOkN | exact obOkS rfl | exact obOkNs | exact obOkS0 | trivial) (olk rfl (by first | exact obOk_cell | exact obOk_arr | exact obOkW rfl | exact obOkW0 | exact obOkN | exact obOkS rfl | exact obOkNs | exact obOkS0 | trivial) oln)) noS⟩
      · have hib : (i : Int) + 1 ≠ w.bad := by simpa using h2
        obtain ⟨g1, g2, g3⟩ := had_all hE.inv hH hz (by rw [hxb]; exact hib)
        refine awp_skip ?_
        first | refine awp_seq (awp_seq (awp_seq (awp_seq_to (s' := mkSt 110 [(3, .v w.bad), (5, .box 0 (IsLens.whole Wrld)), (9, .box 2 (IsLens.whole Wrld)), (10, .v (i : Int)), (83, .v false)] [(0, .cell w), (2, .cell x)]) ?_ ?_))) | refine awp_seq (awp_seq (awp_seq_to (s' := mkSt 110 [(3, .v w.bad), (5, .box 0 (IsLens.whole Wrld)), (9, .box 2 (IsLens.whole Wrld)), (10, .v (i : Int)), (83, .v false)] [(0, .cell w), (2, .cell x)]) ?_ ?_)) | refine awp_seq (awp_seq_to (s' := mkSt 110 [(3, .v w.bad), (5, .box 0 (IsLens.whole Wrld)), (9, .box 2 (IsLens.whole Wrld)), (10, .v (i : Int)), (83, .v false)] [(0, .cell w), (2, .cell x)]) ?_ ?_) | refine awp_seq_to (s' := mkSt 110 [(3, .v w.bad), (5, .box 0 (IsLens.whole Wrld)), (9, .box 2 (IsLens.whole Wrld)), (10, .v (i : Int)), (83, .v false)] [(0, .cell w), (2, .cell x)]) ?_ ?_ | refine awp_toB (s' := mkSt 110 [(3, .v w.bad), (5, .box 0 (IsLens.whole Wrld)), (9, .box 2 (IsLens.whole Wrld)), (10, .v (i : Int)), (83, .v false)] [(0, .cell w), (2, .cell x)]) ?_ ?_ | refine awp_to (s' := mkSt 110 [(3, .v w.bad), (5, .box 0 (IsLens.whole Wrld)), (9, .box 2 (IsLens.whole Wrld)), (10, .v (i : Int)), (83, .v false)] [(0, .cell w), (2, .cell x)]) ?_ ?_
        · all_goals first | refine awp_seq (dr_start (id := 13) ?_) | refine awp_seq (awp_seq (dr_start (id := 13) ?_)) | refine dr_start (id := 13) ?_ | refine awp_seq (awp_seq (awp_seq (dr_start (id := 13) ?_)))
          all_goals first | refine dr_cons (op_fab f29_1 rfl rfl) ?_ | refine dr_cons (op_far f29_1 rfl rfl) ?_ | refine dr_cons (op_fae f29_1 rfl rfl) ?_
          all_goals first | refine dr_cons (op_ld ty26 rfl rfl rfl) ?_ | refine dr_cons (op_ldr ty26 rfl rfl) ?_ | refine dr_cons (op_lde ty26 rfl rfl (by assumption) rfl) ?_ | refine dr_cons (op_ldl ty26 rfl rfl rfl) ?_ | refine dr_cons (op_ldd ty26 rfl rfl rfl) ?_ | refine dr_cons (op_ldde ty26 rfl rfl (by assumption) rfl) ?_
          all_goals first | refine dr_cons (op_mv rfl (Conv.of rfl) rfl) ?_ | refine dr_cons (op_mvl rfl rfl rfl rfl) ?_ | refine dr_cons (op_mvo rfl rfl rfl rfl) ?_
          all_goals first | refine dr_cons (op_ix sl26 rfl rfl rfl (by omega) hz) ?_ | refine dr_cons (op_ixA sl26 rfl rfl rfl rfl (by omega)) ?_
          all_goals first | refine dr_cons (op_fab f39_3 rfl rfl) ?_ | refine dr_cons (op_far f39_3 rfl rfl) ?_ | refine dr_cons (op_fae f39_3 rfl rfl) ?_
          all_goals first | refine dr_cons (op_ld ty27 rfl rfl rfl) ?_ | refine dr_cons (op_ldr ty27 rfl rfl) ?_ | refine dr_cons (op_lde ty27 rfl rfl (by assumption) rfl) ?_ | refine dr_cons (op_ldl ty27 rfl rfl rfl) ?_ | refine dr_cons (op_ldd ty27 rfl rfl rfl) ?_ | refine dr_cons (op_ldde ty27 rfl rfl (by assumption) rfl) ?_
          all_goals first | refine dr_cons (op_len sl27 rfl rfl) ?_ | refine dr_cons (op_lenA sl27 rfl rfl rfl) ?_
          all_goals first | refine dr_cons (op_fab f29_2 rfl rfl) ?_ | refine dr_cons (op_far f29_2 rfl rfl) ?_ | refine dr_cons (op_fae f29_2 rfl rfl) ?_
          all_goals first | refine dr_cons (op_ld ty27 rfl rfl rfl) ?_ | refine dr_cons (op_ldr ty27 rfl rfl) ?_ | refine dr_cons (op_lde ty27 rfl rfl (by assumption) rfl) ?_ | refine dr_cons (op_ldl ty27 rfl rfl rfl) ?_ | refine dr_cons (op_ldd ty27 rfl rfl rfl) ?_ | refine dr_cons (op_ldde ty27 rfl rfl (by assumption) rfl) ?_
          all_goals first | refine dr_cons (op_len sl27 rfl rfl) ?_ | refine dr_cons (op_lenA sl27 rfl rfl rfl) ?_
          all_goals refine dr_cons (op_neq rfl rfl rfl) ?_
          all_goals refine dr_nil mixed rfl ?_
          all_goals exact Le.mk rfl (tle rfl (rfl) rfl (tlb rfl rfl rfl (tlb rfl rfl rfl (tle rfl (rfl) rfl (tle rfl (by first | rfl | (show AV.v _ = AV.v _; simp_all; try omega)) rfl tln))))) (olk rfl (by first | exact obOk_cell | exact obOk_arr | exact obOkW rfl | exact obOkW0 | exact obOkN | exact obOkS rfl | exact obOkNs | exact obOkS0 | trivial) (olk rfl (by first | exact obOk_cell | exact obOk_arr | exact obOkW rfl | exact obOkW0 | exact obOkN | exact obOkS rfl | exact obOkNs | exact obOkS0 | trivial) oln)) noS
        first | refine awp_seq (awp_cond rfl (fun h3 => absurd h3 (by decide)) (fun h3 => ?_)) | refine awp_seq (awp_seq (awp_cond rfl (fun h3 => absurd h3 (by decide)) (fun h3 => ?_))) | refine awp_cond rfl (fun h3 => absurd h3 (by decide)) (fun h3 => ?_) | refine awp_seq (awp_seq (awp_seq (awp_cond rfl (fun h3 => absurd h3 (by decide)) (fun h3 => ?_))))
        refine awp_skip ?_
        all_goals first | refine awp_seq (awp_region (id := 15) ?_) | refine awp_seq (awp_seq (awp_region (id := 15) ?_)) | refine awp_region (id := 15) ?_ | refine awp_seq (awp_seq (awp_seq (awp_region (id := 15) ?_)))
        all_goals refine awpOps_cons (op_as rfl (Conv.of rfl) rfl) ?_
        all_goals refine awpOps_nil ?_
        first | refine awp_seq (awp_seq (awp_seq (awp_seq_to (s' := mkSt 110 [(3, .v w.bad), (5, .box 0 (IsLens.whole Wrld)), (9, .box 2 (IsLens.whole Wrld)), (10, .v (i : Int))] [(0, .cell w), (2, .cell x)]) ?_ ?_))) | refine awp_seq (awp_seq (awp_seq_to (s' := mkSt 110 [(3, .v w.bad), (5, .box 0 (IsLens.whole Wrld)), (9, .box 2 (IsLens.whole Wrld)), (10, .v (i : Int))] [(0, .cell w), (2, .cell x)]) ?_ ?_)) | refine awp_seq (awp_seq_to (s' := mkSt 110 [(3, .v w.bad), (5, .box 0 (IsLens.whole Wrld)), (9, .box 2 (IsLens.whole Wrld)), (10, .v (i : Int))] [(0, .cell w), (2, .cell x)]) ?_ ?_) | refine awp_seq_to (s' := mkSt 110 [(3, .v w.bad), (5, .box 0 (IsLens.whole Wrld)), (9, .box 2 (IsLens.whole Wrld)), (10, .v (i : Int))] [(0, .cell w), (2, .cell x)]) ?_ ?_ | refine awp_toB (s' := mkSt 110 [(3, .v w.bad), (5, .box 0 (IsLens.whole Wrld)), (9, .box 2 (IsLens.whole Wrld)), (10, .v (i : Int))] [(0, .cell w), (2, .cell x)]) ?_ ?_ | refine awp_to (s' := mkSt 110 [(3, .v w.bad), (5, .box 0 (IsLens.whole Wrld)), (9, .box 2 (IsLens.whole Wrld)), (10, .v (i : Int))] [(0, .cell w), (2, .cell x)]) ?_ ?_
        · first | refine awp_seq (awp_block ?_) | refine awp_seq (awp_seq (awp_block ?_)) | refine awp_block ?_ | refine awp_seq (awp_seq (awp_seq (awp_block ?_)))
          first | refine awp_seq (awp_loop' (fun n_ s => ∃ (k : Nat), ∃ (hk : n_ + k = x.log.length), s = mkSt 110 [(3, .v w.bad), (5, .box 0 (IsLens.whole Wrld)), (9, .box 2 (IsLens.whole Wrld)), (10, .v (i : Int)), (11, .v (k : Int))] [(0, .cell w), (2, .cell x)]) (x.log.length) ⟨0, by omega, rfl⟩ (Le.mk rfl (tle rfl (rfl) rfl (tlb rfl rfl rfl (tlb rfl rfl rfl (tle rfl (rfl) rfl (tle rfl (rfl) rfl tln))))) (olk rfl (by first | exact obOk_cell | exact obOk_arr | exact obOkW rfl | exact obOkW0 | exact obOkN | exact obOkS rfl | exact obOkNs | exact obOkS0 | trivial) (olk rfl (by first | exact obOk_cell | exact obOk_arr | exact obOkW rfl | exact obOkW0 | exact obOkN | exact obOkS rfl | exact obOkNs | exact obOkS0 | trivial) oln)) noS) ?_) | refine awp_seq (awp_seq (awp_loop' (fun n_ s => ∃ (k : Nat), ∃ (hk : n_ + k = x.log.length), s = mkSt 110 [(3, .v w.bad), (5, .box 0 (IsLens.whole Wrld)), (9, .box 2 (IsLens.whole Wrld)), (10, .v (i : Int)), (11, .v (k : Int))] [(0, .cell w), (2, .cell x)]) (x.log.length) ⟨0, by omega, rfl⟩ (Le.mk rfl (tle rfl (rfl) rfl (tlb rfl rfl rfl (tlb rfl rfl rfl (tle rfl (rfl) rfl (tle rfl (rfl) rfl tln))))) (olk rfl (by first | exact obOk_cell | exact obOk_arr | exact obOkW rfl | exact obOkW0 | exact obOkN | exact obOkS rfl | exact obOkNs | exact obOkS0 | trivial) (olk rfl (by first | exact obOk_cell | exact obOk_arr | exact obOkW rfl | exact obOkW0 | exact obOkN | exact obOkS rfl | exact obOkNs | exact obOkS0 | trivial) oln)) noS) ?_)) | refine awp_loop' (fun n_ s => ∃ (k : Nat), ∃ (hk : n_ + k = x.log.length), s = mkSt 110 [(3, .v w.bad), (5, .box 0 (IsLens.whole Wrld)), (9, .box 2 (IsLens.whole Wrld)), (10, .v (i : Int)), (11, .v (k : Int))] [(0, .cell w), (2, .cell x)]) (x.log.length) ⟨0, by omega, rfl⟩ (Le.mk rfl (tle rfl (rfl) rfl (tlb rfl rfl rfl (tlb rfl rfl rfl (tle rfl (rfl) rfl (tle rfl (rfl) rfl tln))))) (olk rfl (by first | exact obOk_cell | exact obOk_arr | exact obOkW rfl | exact obOkW0 | exact obOkN | exact obOkS rfl | exact obOkNs | exact obOkS0 | trivial) (olk rfl (by first | exact obOk_cell | exact obOk_arr | exact obOkW rfl | exact obOkW0 | exact obOkN | exact obOkS rfl | exact obOkNs | exact obOkS0 | trivial) oln)) noS) ?_ | refine awp_seq (awp_seq (awp_seq (awp_loop' (fun n_ s => ∃ (k : Nat), ∃ (hk : n_ + k = x.log.length), s = mkSt 110 [(3, .v w.bad), (5, .box 0 (IsLens.whole Wrld)), (9, .box 2 (IsLens.whole Wrld)), (10, .v (i : Int)), (11, .v (k : Int))] [(0, .cell w), (2, .cell x)]) (x.log.length) ⟨0, by omega, rfl⟩ (Le.mk rfl (tle rfl (rfl) rfl (tlb rfl rfl rfl (tlb rfl rfl rfl (tle rfl (rfl) rfl (tle rfl (rfl) rfl tln))))) (olk rfl (by first | exact obOk_cell | exact obOk_arr | exact obOkW rfl | exact obOkW0 | exact obOkN | exact obOkS rfl | exact obOkNs | exact obOkS0 | trivial) (olk rfl (by first | exact obOk_cell | exact obOk_arr | exact obOkW rfl | exact obOkW0 | exact obOkN | exact obOkS rfl | exact obOkNs | exact obOkS0 | trivial) oln)) noS) ?_)))
          rintro n_ s ⟨k, hk, rfl⟩
          all_goals first | refine awp_seq (awp_region (id := 16) ?_) | refine awp_seq (awp_seq (awp_region (id := 16) ?_)) | refine awp_region (id := 16) ?_ | refine awp_seq (awp_seq (awp_seq (awp_region (id := 16) ?_)))
          all_goals first | refine awpOps_cons (op_mv rfl (Conv.of rfl) rfl) ?_ | refine awpOps_cons (op_mvl rfl rfl rfl rfl) ?_ | refine awpOps_cons (op_mvo rfl rfl rfl rfl) ?_
          all_goals first | refine awpOps_cons (op_fab f29_2 rfl rfl) ?_ | refine awpOps_cons (op_far f29_2 rfl rfl) ?_ | refine awpOps_cons (op_fae f29_2 rfl rfl) ?_
          all_goals first | refine awpOps_cons (op_ld ty27 rfl rfl rfl) ?_ | refine awpOps_cons (op_ldr ty27 rfl rfl) ?_ | refine awpOps_cons (op_lde ty27 rfl rfl (by assumption) rfl) ?_ | refine awpOps_cons (op_ldl ty27 rfl rfl rfl) ?_ | refine awpOps_cons (op_ldd ty27 rfl rfl rfl) ?_ | refine awpOps_cons (op_ldde ty27 rfl rfl (by assumption) rfl) ?_
          all_goals first | refine awpOps_cons (op_len sl27 rfl rfl) ?_ | refine awpOps_cons (op_lenA sl27 rfl rfl rfl) ?_
          all_goals refine awpOps_cons (op_lss rfl rfl rfl) ?_
          all_goals refine awpOps_nil ?_
          first | refine awp_seq (awp_cond rfl (fun h4 => ?_) (fun h4 => ?_)) | refine awp_seq (awp_seq (awp_cond rfl (fun h4 => ?_) (fun h4 => ?_))) | refine awp_cond rfl (fun h4 => ?_) (fun h4 => ?_) | refine awp_seq (awp_seq (awp_seq (awp_cond rfl (fun h4 => ?_) (fun h4 => ?_))))
          · have hk2 : k < x.log.length := by simpa using h4
            have hy : x.log[k]? = some x.log[k] := List.getElem?_eq_getElem hk2
            generalize x.log[k] = v at hy
            have hv := g1 v (List.mem_of_getElem? hy)
            refine awp_skip ?_
            first | refine awp_seq (awp_block ?_) | refine awp_seq (awp_seq (awp_block ?_)) | refine awp_block ?_ | refine awp_seq (awp_seq (awp_seq (awp_block ?_)))
            first | refine awp_seq (awp_seq (awp_seq (awp_seq_to (s' := mkSt 110 [(3, .v w.bad), (5, .box 0 (IsLens.whole Wrld)), (9, .box 2 (IsLens.whole Wrld)), (10, .v (i : Int)), (11, .v (k : Int)), (103, .v false)] [(0, .cell w), (2, .cell x)]) ?_ ?_))) | refine awp_seq (awp_seq (awp_seq_to (s' := mkSt 110 [(3, .v w.bad), (5, .box 0 (IsLens.whole Wrld)), (9, .box 2 (IsLens.whole Wrld)), (10, .v (i : Int)), (11, .v (k : Int)), (103, .v false)] [(0, .cell w), (2, .cell x)]) ?_ ?_)) | refine awp_seq (awp_seq_to (s' := mkSt 110 [(3, .v w.bad), (5, .box 0 (IsLens.whole Wrld)), (9, .box 2 (IsLens.whole Wrld)), (10, .v (i : Int)), (11, .v (k : Int)), (103, .v false)] [(0, .cell w), (2, .cell x)]) ?_ ?_) | refine awp_seq_to (s' := mkSt 110 [(3, .v w.bad), (5, .box 0 (IsLens.whole Wrld)), (9, .box 2 (IsLens.whole Wrld)), (10, .v (i : Int)), (11, .v (k : Int)), (103, .v false)] [(0, .cell w), (2, .cell x)]) ?_ ?_ | refine awp_toB (s' := mkSt 110 [(3, .v w.bad), (5, .box 0 (IsLens.whole Wrld)), (9, .box 2 (IsLens.whole Wrld)), (10, .v (i : Int)), (11, .v (k : Int)), (103, .v false)] [(0, .cell w), (2, .cell x)]) ?_ ?_ | refine awp_to (s' := mkSt 110 [(3, .v w.bad), (5, .box 0 (IsLens.whole Wrld)), (9, .box 2 (IsLens.whole Wrld)), (10, .v (i : Int)), (11, .v (k : Int)), (103, .v false)] [(0, .cell w), (2, .cell x)]) ?_ ?_
            · all_goals first | refine awp_seq (dr_start (id := 18) ?_) | refine awp_seq (awp_seq (dr_start (id := 18) ?_)) | refine dr_start (id := 18) ?_ | refine awp_seq (awp_seq (awp_seq (dr_start (id := 18) ?_)))
              all_goals first | refine dr_cons (op_fab f29_1 rfl rfl) ?_ | refine dr_cons (op_far f29_1 rfl rfl) ?_ | refine dr_cons (op_fae f29_1 rfl rfl) ?_
              all_goals first | refine dr_cons (op_ld ty26 rfl rfl rfl) ?_ | refine dr_cons (op_ldr ty26 rfl rfl) ?_ | refine dr_cons (op_lde ty26 rfl rfl (by assumption) rfl) ?_ | refine dr_cons (op_ldl ty26 rfl rfl rfl) ?_ | refine dr_cons (op_ldd ty26 rfl rfl rfl) ?_ | refine dr_cons (op_ldde ty26 rfl rfl (by assumption) rfl) ?_
              all_goals first | refine dr_cons (op_mv rfl (Conv.of rfl) rfl) ?_ | refine dr_cons (op_mvl rfl rfl rfl rfl) ?_ | refine dr_cons (op_mvo rfl rfl rfl rfl) ?_
              all_goals first | refine dr_cons (op_ix sl26 rfl rfl rfl (by omega) hz) ?_ | refine dr_cons (op_ixA sl26 rfl rfl rfl rfl (by omega)) ?_
              all_goals first | refine dr_cons (op_fab f39_3 rfl rfl) ?_ | refine dr_cons (op_far f39_3 rfl rfl) ?_ | refine dr_cons (op_fae f39_3 rfl rfl) ?_
              all_goals first | refine dr_cons (op_ld ty27 rfl rfl rfl) ?_ | refine dr_cons (op_ldr ty27 rfl rfl) ?_ | refine dr_cons (op_lde ty27 rfl rfl (by assumption) rfl) ?_ | refine dr_cons (op_ldl ty27 rfl rfl rfl) ?_ | refine dr_cons (op_ldd ty27 rfl rfl rfl) ?_ | refine dr_cons (op_ldde ty27 rfl rfl (by assumption) rfl) ?_
              all_goals first | refine dr_cons (op_fab f29_2 rfl rfl) ?_ | refine dr_cons (op_far f29_2 rfl rfl) ?_ | refine dr_cons (op_fae f29_2 rfl rfl) ?_
              all_goals first | refine dr_cons (op_ld ty27 rfl rfl rfl) ?_ | refine dr_cons (op_ldr ty27 rfl rfl) ?_ | refine dr_cons (op_lde ty27 rfl rfl (by assumption) rfl) ?_ | refine dr_cons (op_ldl ty27 rfl rfl rfl) ?_ | refine dr_cons (op_ldd ty27 rfl rfl rfl) ?_ | refine dr_cons (op_ldde ty27 rfl rfl (by assumption) rfl) ?_
              all_goals first | refine dr_cons (op_mv rfl (Conv.of rfl) rfl) ?_ | refine dr_cons (op_mvl rfl rfl rfl rfl) ?_ | refine dr_cons (op_mvo rfl rfl rfl rfl) ?_
              all_goals first | refine dr_cons (op_ix sl27 rfl rfl rfl (by omega) hy) ?_ | refine dr_cons (op_ixA sl27 rfl rfl rfl rfl (by omega)) ?_
              all_goals first | refine dr_cons (op_ld ty43 rfl rfl rfl) ?_ | refine dr_cons (op_ldr ty43 rfl rfl) ?_ | refine dr_cons (op_lde ty43 rfl rfl (by assumption) rfl) ?_ | refine dr_cons (op_ldl ty43 rfl rfl rfl) ?_ | refine dr_cons (op_ldd ty43 rfl rfl rfl) ?_ | refine dr_cons (op_ldde ty43 rfl rfl (by assumption) rfl) ?_
              all_goals refine dr_cons (op_call fb10 (.cons rfl (Conv.of rfl) (.cons rfl (Conv.of rfl) (.nil _))) (lwHas_ct _ _) (argOk rfl rfl (argOk rfl rfl argOk0)) rfl rfl) ?_
              all_goals refine dr_cons (op_not rfl rfl) ?_
              all_goals refine dr_nil mixed rfl ?_
              all_goals exact Le.mk rfl (tle rfl (rfl) rfl (tlb rfl rfl rfl (tlb rfl rfl rfl (tle rfl (rfl) rfl (tle rfl (rfl) rfl (tle rfl (by first | rfl | (show AV.v _ = AV.v _; simp_all)) rfl tln)))))) (olk rfl (by first | exact obOk_cell | exact obOk_arr | exact obOkW rfl | exact obOkW0 | exact obOkN | exact obOkS rfl | exact obOkNs | exact obOkS0 | trivial) (olk rfl (by first | exact obOk_cell | exact obOk_arr | exact obOkW rfl | exact obOkW0 | exact obOkN | exact obOkS rfl | exact obOkNs | exact obOkS0 | trivial) oln)) noS
            first | refine awp_seq (awp_cond rfl (fun h5 => absurd h5 (by decide)) (fun h5 => ?_)) | refine awp_seq (awp_seq (awp_cond rfl (fun h5 => absurd h5 (by decide)) (fun h5 => ?_))) | refine awp_cond rfl (fun h5 => absurd h5 (by decide)) (fun h5 => ?_) | refine awp_seq (awp_seq (awp_seq (awp_cond rfl (fun h5 => absurd h5 (by decide)) (fun h5 => ?_))))
            refine awp_skip ?_
            all_goals first | refine awp_seq (awp_region (id := 17) ?_) | refine awp_seq (awp_seq (awp_region (id := 17) ?_)) | refine awp_region (id := 17) ?_ | refine awp_seq (awp_seq (awp_seq (awp_region (id := 17) ?_)))
            all_goals first | refine awpOps_cons (op_mv rfl (Conv.of rfl) rfl) ?_ | refine awpOps_cons (op_mvl rfl rfl rfl rfl) ?_ | refine awpOps_cons (op_mvo rfl rfl rfl rfl) ?_
            all_goals refine awpOps_cons (op_add rfl rfl rfl (by omega)) ?_
            all_goals first | refine awpOps_cons (op_as rfl (Conv.of rfl) rfl) ?_ | refine awpOps_cons (op_asl rfl rfl rfl rfl) ?_ | refine awpOps_cons (op_aso rfl rfl rfl rfl) ?_
            all_goals refine awpOps_nil ?_
            repeat first | refine nx_seq ?_ | refine nx_block ?_
            exact ⟨n_ - 1, _, by omega, ⟨k + 1, by omega, rfl⟩, Le.mk rfl (tle rfl (rfl) rfl (tlb rfl rfl rfl (tlb rfl rfl rfl (tle rfl (rfl) rfl (tle rfl (rfl) rfl tln))))) (olk rfl (by first | exact obOk_cell | exact obOk_arr | exact obOkW rfl | exact obOkW0 | exact obOkN | exact obOkS rfl | exact obOkNs | exact obOkS0 | trivial) (olk rfl (by first | exact obOk_cell | exact obOk_arr | exact obOkW rfl | exact obOkW0 | exact obOkN | exact obOkS rfl | exact obOkNs | exact obOkS0 | trivial) oln)) noS⟩
          · refine awp_exit ?_
            repeat refine ex_seq ?_
            refine ex_block ?_
            all_goals exact Le.mk rfl (tle rfl (rfl) rfl (tlb rfl rfl rfl (tlb rfl rfl rfl (tle rfl (rfl) rfl tln)))) (olk rfl (by first | exact obOk_cell | exact obOk_arr | exact obOkW rfl | exact obOkW0 | exact obOkN | exact obOkS rfl | exact obOkNs | exact obOkS0 | trivial) (olk rfl (by first | exact obOk_cell | exact obOk_arr | exact obOkW rfl | exact obOkW0 | exact obOkN | exact obOkS rfl | exact obOkNs | exact obOkS0 | trivial) oln)) noS
        · all_goals first | refine awp_seq (awp_region (id := 11) ?_) | refine awp_seq (awp_seq (awp_region (id := 11) ?_)) | refine awp_region (id := 11) ?_ | refine awp_seq (awp_seq (awp_seq (awp_region (id := 11) ?_)))
          all_goals first | refine awpOps_cons (op_mv rfl (Conv.of rfl) rfl) ?_ | refine awpOps_cons (op_mvl rfl rfl rfl rfl) ?_ | refine awpOps_cons (op_mvo rfl rfl rfl rfl) ?_
          all_goals refine awpOps_cons (op_add rfl rfl rfl (by omega)) ?_
          all_goals first | refine awpOps_cons (op_as rfl (Conv.of rfl) rfl) ?_ | refine awpOps_cons (op_asl rfl rfl rfl rfl) ?_ | refine awpOps_cons (op_aso rfl rfl rfl rfl) ?_
          all_goals refine awpOps_nil ?_
          repeat first | refine nx_seq ?_ | refine nx_block ?_
          exact ⟨n_ - 1, _, by omega, ⟨i + 1, by omega, rfl⟩, Le.mk rfl (tle rfl (rfl) rfl (tlb rfl rfl rfl (tlb rfl rfl rfl (tle rfl (rfl) rfl tln)))) (olk rfl (by first | exact obOk_cell | exact obOk_arr | exact obOkW rfl | exact obOkW0 | exact obOkN | exact obOkS rfl | exact obOkNs | exact obOkS0 | trivial) (olk rfl (by first | exact obOk_cell | exact obOk_arr | exact obOkW rfl | exact obOkW0 | exact obOkN | exact obOkS rfl | exact obOkNs | exact obOkS0 | trivial) oln)) noS⟩
    · refine awp_exit ?_
      repeat refine ex_seq ?_
      refine ex_block ?_
      all_goals exact Le.mk rfl (tle rfl (rfl) rfl (tlb rfl rfl rfl (tlb rfl rfl rfl tln))) (olk rfl (by first | exact obOk_cell | exact obOk_arr | exact obOkW rfl | exact obOkW0 | exact obOkN | exact obOkS rfl | exact obOkNs | exact obOkS0 | trivial) (olk rfl (by first | exact obOk_cell | exact obOk_arr | exact obOkW rfl | exact obOkW0 | exact obOkN | exact obOkS rfl | exact obOkNs | exact obOkS0 | trivial) oln)) noS
  · all_goals first | refine awp_seq (awp_region (id := 20) ?_) | refine awp_seq (awp_seq (awp_region (id := 20) ?_)) | refine awp_region (id := 20) ?_ | refine awp_seq (awp_seq (awp_seq (awp_region (id := 20) ?_)))
    all_goals first | refine awpOps_cons (op_fab f29_0 rfl rfl) ?_ | refine awpOps_cons (op_far f29_0 rfl rfl) ?_ | refine awpOps_cons (op_fae f29_0 rfl rfl) ?_
    all_goals first | refine awpOps_cons (op_ld ty3 rfl rfl rfl) ?_ | refine awpOps_cons (op_ldr ty3 rfl rfl) ?_ | refine awpOps_cons (op_lde ty3 rfl rfl (by assumption) rfl) ?_ | refine awpOps_cons (op_ldl ty3 rfl rfl rfl) ?_ | refine awpOps_cons (op_ldd ty3 rfl rfl rfl) ?_ | refine awpOps_cons (op_ldde ty3 rfl rfl (by assumption) rfl) ?_
    all_goals first | refine awpOps_cons (op_fab f29_0 rfl rfl) ?_ | refine awpOps_cons (op_far f29_0 rfl rfl) ?_ | refine awpOps_cons (op_fae f29_0 rfl rfl) ?_
    all_goals first | refine awpOps_cons (op_ld ty3 rfl rfl rfl) ?_ | refine awpOps_cons (op_ldr ty3 rfl rfl) ?_ | refine awpOps_cons (op_lde ty3 rfl rfl (by assumption) rfl) ?_ | refine awpOps_cons (op_ldl ty3 rfl rfl rfl) ?_ | refine awpOps_cons (op_ldd ty3 rfl rfl rfl) ?_ | refine awpOps_cons (op_ldde ty3 rfl rfl (by assumption) rfl) ?_
    all_goals refine awpOps_cons (op_add rfl rfl rfl (by omega)) ?_
    all_goals refine awpOps_cons (op_eql rfl rfl rfl) ?_
    all_goals first | refine awpOps_cons (op_as rfl (Conv.of rfl) rfl) ?_ | refine awpOps_cons (op_asl rfl rfl rfl rfl) ?_ | refine awpOps_cons (op_aso rfl rfl rfl rfl) ?_
    all_goals refine awpOps_nil ?_
    refine awp_ret ?_
    repeat first | refine rt_seq ?_ | refine rt_block ?_
    refine finP (.v rfl (Conv.of rfl)) rfl ?_
    show AV.v _ = AV.v _
    congr 1
    simp [hxep]
end Go.Proofs.Ytompnmkpgffhkaa

/- The law FnWorldSpread returns true at every input, and leaves its arguments as they were. No condition. -/
set_option linter.unusedVariables false
namespace Go.Proofs.Ytompnmkpgffhkaa.fnWorldSpread
open Go Go.ChangeShapes Go.WideShapes Go.ChangeAt Go.RowKit
theorem own : ownKnob Try.prog.godebug = none := by kernel_rfl
theorem laidOut : laidOutB Try.prog = true := by kernel_rfl
set_option maxRecDepth 100000 in
theorem lifted (os : Os) (started : os.Started) (H : Type) (enc : TypeId × Value → H) :
    ReturnsInHanded {} Try.checked os 3 .any (Rows.fnWorldSpreadSpec.pre6 enc Try.prog Try.f3 Rows.fnWorldSpreadRow.domain false) (Rows.fnWorldSpreadSpec.post enc Try.prog Try.f3 false true false false) := by
  refine returnsInHanded_of_change_sized (C := Try.checked) own started (by kernel_rfl) Try.func3
    (ChangeSpec.witness6 (enc := enc) (C := Try.checked) false ⟨#[], #[.slice none 0 0], []⟩ 8 (by kernel_rfl) (by kernel_rfl) (by kernel_rfl) (by kernel_rfl)) ?_
  intro W base args ds gs before hval0 hW hcnd hsz0 _
  have hsz : (DataW.weightsEach Try.prog (Try.f3.params.toList ++ Rows.fnWorldSpreadSpec.plain.varTypes Try.prog) (ds ++ gs)).all (· ≤ reachBytes) = true := hsz0
  have hval : ∀ (j : Nat) t v, Try.f3.params[j]? = some t → args[j]? = some v → Value.okWide Try.prog W .any base t v := hval0
  have hW' := hW
  obtain ⟨p, q, hA0, hV, rfl, hfz, hnd⟩ := hW
  have hA : DataW.TrodAll enc Try.prog W 0 (fun _ => true) true Try.f3.params.toList args.toList ds p := hA0
  rw [Try.params3] at hA hval hsz
  obtain ⟨v0, vs0, d0, ds0, p0, q0, hargs, rfl, rfl, h0, r0⟩ := trodAll_cons hA
  obtain ⟨rfl, rfl, rfl⟩ := trodAll_nil r0
  obtain rfl : args = #[v0] := by cases args; simp_all
  obtain ⟨rfl, rfl⟩ := trodVars_none hV
  obtain ⟨a0, len0, cap0, rfl⟩ := okWide_slice Try.underlying22 (hval 0 22 v0 rfl rfl)
  have k0 := h0
  have lt0 : ∀ x ∈ p0, x.block < W.heap.size := by obtain ⟨m, hm⟩ := k0; exact DataW.trod_lt m _ _ _ hm
  obtain ⟨z0, w0⟩ := Go.Wt.rowOf (fun _ => rfl) Try.underlying22 Try.underlying5 (by kernel_rfl) h0
  have y0 := Go.Wt.lenOf hsz (j := 0) (t := 22) rfl rfl Try.underlying22 Try.underlying5 (by kernel_rfl) (by kernel_rfl) h0
  clear hA0 hval0 hsz0 hsz
  refine (Go.Wt.row1 FnWorldSpread_ct W w0 y0).mono fun e W' ⟨he, bel⟩ => ?_
  subst he
  exact ⟨_, rfl, _, _, _, [], _, [], hW', trodAll_mk1 (shut_bool Try.underlying4 _), (trodAll_cons_mk (Below.trod laidOut (by kernel_rfl) (of_decide_eq_true (by kernel_rfl)) k0 bel lt0) trodAll_mk0), rfl, bel.frame _, fun h => by cases h⟩
theorem over : Rows.fnWorldSpreadRow.holds Try.pinned (OpenSpec.ofChange Rows.fnWorldSpreadSpec) :=
  OpenClaim.holds_of_wide 3 Try.f3 rfl rfl rfl rfl rfl rfl rfl ⟨rfl, rfl, rfl, rfl, rfl⟩ rfl rfl rfl rfl rfl (by kernel_rfl) Try.func3 (by kernel_rfl)
    (of_decide_eq_true (by kernel_rfl)) (by unfold Func.isWrapper; first | (rw [if_pos (by decide +kernel)]; kernel_rfl) | (rw [if_neg (by decide +kernel)]; exact ⟨rfl, rfl⟩))
    (fun os started H enc _ => lifted os started H enc)
end Go.Proofs.Ytompnmkpgffhkaa.fnWorldSpread
namespace Go.Proofs.Ytompnmkpgffhkaa
theorem fnWorldSpread_holds : Rows.FnWorldSpreadSaid := fnWorldSpread.over
#print axioms fnWorldSpread_holds
end Go.Proofs.Ytompnmkpgffhkaa
