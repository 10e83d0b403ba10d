/- The law FnWorldHonest returns true at every input, and leaves its arguments as they were. No condition. -/
import Derived.Test.YtmdhfalfppkpeaaGreatM6
import Derived.Test.YtmdhfalfppkpeaaGreatRows
import Derived.WalkKit
import Derived.ProofKit
import Derived.OpenShut
import Derived.ShutString
import Derived.ChangeOld
import Derived.Below
import Derived.SizedLaws
import Derived.KernelRfl
/- A law: without one who lies all but the last is final. -/
set_option linter.unusedVariables false
set_option linter.unusedSimpArgs false
namespace Go.Proofs.YtmdhfalfppkpeaaGreat
open Go Go.Wt
theorem newP_ct : CtP Tryz.prog 31 [.v (0 : Int)] (.tup [.v (newW 0), .v true]) :=
  Ct.frz (worldNew_ct 0 (by decide)) (frz_ok (w := newW 0) (by decide))
theorem hon_inv (n : Nat) : Inv (honX n) := calm_fold_inv _ (Inv.play (bad := 0) (by decide) [])
theorem hon_book {n : Nat} (h : 3 ≤ n ∧ n ≤ 6) : (bookF ((List.range (n - 1)).map fun (i : Nat) => Itm.mk ((i : Int) + 1) (honP i)))[0]? = some (9 - ((n : Int) - 1)) := by
  have : n = 3 ∨ n = 4 ∨ n = 5 ∨ n = 6 := by omega
  rcases this with rfl | rfl | rfl | rfl <;> decide +kernel
theorem honPays_succ (i : Nat) : honPays (i + 1) = honPays i ++ [honP i] := by
  unfold honPays; rw [List.range_succ, List.map_append]; rfl
set_option maxHeartbeats 4000000 in
theorem FnWorldHonest_ct (code more : List UInt8) : CtP Tryz.prog 6 [.v code, .v more] (.v true) := by
  refine Ct.intro Tryz.func6 rfl rfl ?_
  refine awp_bigL 1 rfl (fun hmore => ?_)
  all_goals first | refine awp_seq (awp_region (id := 0) ?_) | refine awp_seq (awp_seq (awp_region (id := 0) ?_)) | refine awp_region (id := 0) ?_ | refine awp_seq (awp_seq (awp_seq (awp_region (id := 0) ?_)))
  all_goals refine awpOps_cons (op_as rfl (Conv.of rfl) rfl) ?_
  all_goals refine awpOps_nil ?_
  first | refine awp_seq (awp_seq (awp_seq (awp_seq_to (s' := mkSt 136 [(0, .v code), (1, .v more), (25, .v (decide ((code.length : Int) > 1048576) || decide ((more.length : Int) > 1048576)))] []) ?_ ?_))) | refine awp_seq (awp_seq (awp_seq_to (s' := mkSt 136 [(0, .v code), (1, .v more), (25, .v (decide ((code.length : Int) > 1048576) || decide ((more.length : Int) > 1048576)))] []) ?_ ?_)) | refine awp_seq (awp_seq_to (s' := mkSt 136 [(0, .v code), (1, .v more), (25, .v (decide ((code.length : Int) > 1048576) || decide ((more.length : Int) > 1048576)))] []) ?_ ?_) | refine awp_seq_to (s' := mkSt 136 [(0, .v code), (1, .v more), (25, .v (decide ((code.length : Int) > 1048576) || decide ((more.length : Int) > 1048576)))] []) ?_ ?_ | refine awp_toB (s' := mkSt 136 [(0, .v code), (1, .v more), (25, .v (decide ((code.length : Int) > 1048576) || decide ((more.length : Int) > 1048576)))] []) ?_ ?_ | refine awp_to (s' := mkSt 136 [(0, .v code), (1, .v more), (25, .v (decide ((code.length : Int) > 1048576) || decide ((more.length : Int) > 1048576)))] []) ?_ ?_
  · all_goals first | refine awp_seq (awp_region (id := 1) ?_) | refine awp_seq (awp_seq (awp_region (id := 1) ?_)) | refine awp_region (id := 1) ?_ | refine awp_seq (awp_seq (awp_seq (awp_region (id := 1) ?_)))
    all_goals first | refine awpOps_cons (op_mv rfl (Conv.of rfl) rfl) ?_ | refine awpOps_cons (op_mvl rfl rfl rfl rfl) ?_ | refine awpOps_cons (op_mvo rfl rfl rfl rfl) ?_
    all_goals first | refine awpOps_cons (op_len sl22 rfl rfl) ?_ | refine awpOps_cons (op_lenA sl22 rfl rfl rfl) ?_
    all_goals refine awpOps_cons (op_gtr rfl rfl rfl) ?_
    all_goals first | refine awpOps_cons (op_mv rfl (Conv.of rfl) rfl) ?_ | refine awpOps_cons (op_mvl rfl rfl rfl rfl) ?_ | refine awpOps_cons (op_mvo rfl rfl rfl rfl) ?_
    all_goals first | refine g_lit (t := 21) (b := true) rfl ?_ | refine g_lit (t := 21) (b := false) rfl ?_ | refine g_ulit (t := 21) rfl ?_ | refine g_split (t := 21) rfl (fun h => ?_) (fun h => ?_)
    all_goals first | refine awpOps_cons (g_off rfl rfl rfl rfl rfl) ?_ | refine awpOps_cons (g_und rfl rfl rfl) ?_ | refine awpOps_cons (g_on rfl rfl rfl (op_mv rfl (Conv.of rfl) rfl)) ?_ | refine awpOps_cons (g_on rfl rfl rfl (op_mvl rfl rfl rfl rfl)) ?_ | refine awpOps_cons (g_on rfl rfl rfl (op_mvo rfl rfl rfl rfl)) ?_
    all_goals first | refine awpOps_cons (g_off rfl rfl rfl rfl rfl) ?_ | refine awpOps_cons (g_und rfl rfl rfl) ?_ | refine awpOps_cons (g_on rfl rfl rfl (op_len sl22 rfl rfl)) ?_ | refine awpOps_cons (g_on rfl rfl rfl (op_lenA sl22 rfl rfl rfl)) ?_
    all_goals first | refine awpOps_cons (g_off rfl rfl rfl rfl rfl) ?_ | refine awpOps_cons (g_und rfl rfl rfl) ?_ | refine awpOps_cons (g_on rfl rfl rfl (op_gtr rfl rfl rfl)) ?_
    all_goals refine awpOps_cons (op_pick rfl rfl rfl rfl) ?_
    all_goals refine awpOps_nil ?_
    all_goals exact Le.mk rfl (tle rfl (rfl) rfl (tle rfl (rfl) rfl (tle rfl (by first | rfl | (simp_all; try omega)) rfl tln))) oln noS
  first | refine awp_seq (awp_cond rfl (fun h => ?_) (fun h => ?_)) | refine awp_seq (awp_seq (awp_cond rfl (fun h => ?_) (fun h => ?_))) | refine awp_cond rfl (fun h => ?_) (fun h => ?_) | refine awp_seq (awp_seq (awp_seq (awp_cond rfl (fun h => ?_) (fun h => ?_))))
  · all_goals first | refine awp_seq (awp_region (id := 2) ?_) | refine awp_seq (awp_seq (awp_region (id := 2) ?_)) | refine awp_region (id := 2) ?_ | refine awp_seq (awp_seq (awp_seq (awp_region (id := 2) ?_)))
    all_goals refine awpOps_cons (op_as rfl (Conv.of rfl) rfl) ?_
    all_goals refine awpOps_nil ?_
    refine awp_ret ?_
    repeat first | refine rt_seq ?_ | refine rt_block ?_
    exact finP (.v rfl (Conv.of rfl)) rfl rfl
  refine awp_skip ?_
  all_goals first | refine awp_seq (awp_region (id := 3) ?_) | refine awp_seq (awp_seq (awp_region (id := 3) ?_)) | refine awp_region (id := 3) ?_ | refine awp_seq (awp_seq (awp_seq (awp_region (id := 3) ?_)))
  all_goals first | refine awpOps_cons (op_mv rfl (Conv.of rfl) rfl) ?_ | refine awpOps_cons (op_mvl rfl rfl rfl rfl) ?_ | refine awpOps_cons (op_mvo rfl rfl rfl rfl) ?_
  refine awpOps_callE (ι := Int × List Evt) [] (fun i => .tup [.v i.1, .v i.2]) (fun _ => []) (fun i => i.2.length ≤ 100) rfl fb15 (.cons rfl (Conv.of rfl) (.nil _)) (drawPlay_ct code) (fun r h' ⟨bad, evs, e1, e2, e3⟩ => ⟨(bad, evs), e1, e2, e3⟩) ols0 oks0 (argOk' rfl rfl argO0) rfl (fun _ => rfl) (fun _ => oks0) (fun _ o ho => by cases ho) ?_
  rintro ⟨bad, evs⟩ he
  simp only at he ⊢
  all_goals first | refine awpOps_cons (op_mv rfl (Conv.of rfl) rfl) ?_ | refine awpOps_cons (op_mvl rfl rfl rfl rfl) ?_ | refine awpOps_cons (op_mvo rfl rfl rfl rfl) ?_
  all_goals refine awpOps_cons (op_ext rfl rfl rfl) ?_
  all_goals refine awpOps_cons (op_ext rfl rfl rfl) ?_
  all_goals first | refine awpOps_cons (op_as rfl (Conv.of rfl) rfl) ?_ | refine awpOps_cons (op_asl rfl rfl rfl rfl) ?_ | refine awpOps_cons (op_aso rfl rfl rfl rfl) ?_
  all_goals first | refine awpOps_cons (op_as rfl (Conv.of rfl) rfl) ?_ | refine awpOps_cons (op_asl rfl rfl rfl rfl) ?_ | refine awpOps_cons (op_aso rfl rfl rfl rfl) ?_
  all_goals refine awpOps_nil ?_
  all_goals first | refine awp_seq (awp_region (id := 4) ?_) | refine awp_seq (awp_seq (awp_region (id := 4) ?_)) | refine awp_region (id := 4) ?_ | refine awp_seq (awp_seq (awp_seq (awp_region (id := 4) ?_)))
  all_goals first | refine awpOps_cons (op_mv rfl (Conv.of rfl) rfl) ?_ | refine awpOps_cons (op_mvl rfl rfl rfl rfl) ?_ | refine awpOps_cons (op_mvo rfl rfl rfl rfl) ?_
  all_goals first | refine awpOps_cons (op_mv rfl (Conv.of rfl) rfl) ?_ | refine awpOps_cons (op_mvl rfl rfl rfl rfl) ?_ | refine awpOps_cons (op_mvo rfl rfl rfl rfl) ?_
  all_goals refine awpOps_cons (op_call fb16 (.cons rfl (Conv.of rfl) (.cons rfl (Conv.of rfl) (.nil _))) (iPlay_ct bad evs) (argOk rfl rfl (argOk rfl rfl argOk0)) rfl rfl) ?_
  all_goals first | refine awpOps_cons (op_mv rfl (Conv.of rfl) rfl) ?_ | refine awpOps_cons (op_mvl rfl rfl rfl rfl) ?_ | refine awpOps_cons (op_mvo rfl rfl rfl rfl) ?_
  all_goals refine awpOps_cons (op_ext rfl rfl rfl) ?_
  all_goals refine awpOps_cons (op_ext rfl rfl rfl) ?_
  all_goals refine awpOps_cons (op_alloc (o := 0) z29 rfl rfl) ?_
  all_goals first | refine awpOps_cons (op_st ty29 rfl rfl (Conv.of rfl) rfl) ?_ | refine awpOps_cons (op_ste ty29 rfl rfl (Conv.of rfl) rfl (by assumption)) ?_ | refine awpOps_cons (op_stm ty29 rfl rfl rfl) ?_ | refine awpOps_cons (op_stme ty29 rfl rfl rfl (by assumption)) ?_
  all_goals first | refine awpOps_cons (op_as rfl (Conv.of rfl) rfl) ?_ | refine awpOps_cons (op_asl rfl rfl rfl rfl) ?_ | refine awpOps_cons (op_aso rfl rfl rfl rfl) ?_
  all_goals refine awpOps_nil ?_
  all_goals first | refine awp_seq (awp_region (id := 5) ?_) | refine awp_seq (awp_seq (awp_region (id := 5) ?_)) | refine awp_region (id := 5) ?_ | refine awp_seq (awp_seq (awp_seq (awp_region (id := 5) ?_)))
  all_goals first | refine awpOps_cons (op_mv rfl (Conv.of rfl) rfl) ?_ | refine awpOps_cons (op_mvl rfl rfl rfl rfl) ?_ | refine awpOps_cons (op_mvo rfl rfl rfl rfl) ?_
  all_goals first | refine awpOps_cons (op_mv rfl (Conv.of rfl) rfl) ?_ | refine awpOps_cons (op_mvl rfl rfl rfl rfl) ?_ | refine awpOps_cons (op_mvo rfl rfl rfl rfl) ?_
  all_goals refine awpOps_cons (op_call fb17 (.cons rfl (Conv.of rfl) (.cons rfl (Conv.of rfl) (.nil _))) (sPlayR_ct bad evs) (argOk rfl rfl (argOk rfl rfl argOk0)) rfl rfl) ?_
  all_goals first | refine awpOps_cons (op_mv rfl (Conv.of rfl) rfl) ?_ | refine awpOps_cons (op_mvl rfl rfl rfl rfl) ?_ | refine awpOps_cons (op_mvo rfl rfl rfl rfl) ?_
  all_goals refine awpOps_cons (op_ext rfl rfl rfl) ?_
  all_goals refine awpOps_cons (op_ext rfl rfl rfl) ?_
  all_goals refine awpOps_cons (op_alloc (o := 1) z29 rfl rfl) ?_
  all_goals first | refine awpOps_cons (op_st ty29 rfl rfl (Conv.of rfl) rfl) ?_ | refine awpOps_cons (op_ste ty29 rfl rfl (Conv.of rfl) rfl (by assumption)) ?_ | refine awpOps_cons (op_stm ty29 rfl rfl rfl) ?_ | refine awpOps_cons (op_stme ty29 rfl rfl rfl (by assumption)) ?_
  all_goals first | refine awpOps_cons (op_as rfl (Conv.of rfl) rfl) ?_ | refine awpOps_cons (op_asl rfl rfl rfl rfl) ?_ | refine awpOps_cons (op_aso rfl rfl rfl rfl) ?_
  all_goals refine awpOps_nil ?_
  first | refine awp_seq (awp_seq (awp_seq (awp_seq_to (s' := mkSt 136 [(1, .v more), (5, .v bad), (6, .v evs), (7, .box 0 (IsLens.whole Wrld)), (8, .v (playR bad evs).2), (9, .box 1 (IsLens.whole Wrld)), (10, .v (playR bad evs).2), (55, .v (!(playR bad evs).2))] [(0, .cell (playR bad evs).1), (1, .cell (playR bad evs).1)]) ?_ ?_))) | refine awp_seq (awp_seq (awp_seq_to (s' := mkSt 136 [(1, .v more), (5, .v bad), (6, .v evs), (7, .box 0 (IsLens.whole Wrld)), (8, .v (playR bad evs).2), (9, .box 1 (IsLens.whole Wrld)), (10, .v (playR bad evs).2), (55, .v (!(playR bad evs).2))] [(0, .cell (playR bad evs).1), (1, .cell (playR bad evs).1)]) ?_ ?_)) | refine awp_seq (awp_seq_to (s' := mkSt 136 [(1, .v more), (5, .v bad), (6, .v evs), (7, .box 0 (IsLens.whole Wrld)), (8, .v (playR bad evs).2), (9, .box 1 (IsLens.whole Wrld)), (10, .v (playR bad evs).2), (55, .v (!(playR bad evs).2))] [(0, .cell (playR bad evs).1), (1, .cell (playR bad evs).1)]) ?_ ?_) | refine awp_seq_to (s' := mkSt 136 [(1, .v more), (5, .v bad), (6, .v evs), (7, .box 0 (IsLens.whole Wrld)), (8, .v (playR bad evs).2), (9, .box 1 (IsLens.whole Wrld)), (10, .v (playR bad evs).2), (55, .v (!(playR bad evs).2))] [(0, .cell (playR bad evs).1), (1, .cell (playR bad evs).1)]) ?_ ?_ | refine awp_toB (s' := mkSt 136 [(1, .v more), (5, .v bad), (6, .v evs), (7, .box 0 (IsLens.whole Wrld)), (8, .v (playR bad evs).2), (9, .box 1 (IsLens.whole Wrld)), (10, .v (playR bad evs).2), (55, .v (!(playR bad evs).2))] [(0, .cell (playR bad evs).1), (1, .cell (playR bad evs).1)]) ?_ ?_ | refine awp_to (s' := mkSt 136 [(1, .v more), (5, .v bad), (6, .v evs), (7, .box 0 (IsLens.whole Wrld)), (8, .v (playR bad evs).2), (9, .box 1 (IsLens.whole Wrld)), (10, .v (playR bad evs).2), (55, .v (!(playR bad evs).2))] [(0, .cell (playR bad evs).1), (1, .cell (playR bad evs).1)]) ?_ ?_
  · all_goals first | refine awp_seq (awp_region (id := 6) ?_) | refine awp_seq (awp_seq (awp_region (id := 6) ?_)) | refine awp_region (id := 6) ?_ | refine awp_seq (awp_seq (awp_seq (awp_region (id := 6) ?_)))
    all_goals first | refine awpOps_cons (op_mv rfl (Conv.of rfl) rfl) ?_ | refine awpOps_cons (op_mvl rfl rfl rfl rfl) ?_ | refine awpOps_cons (op_mvo rfl rfl rfl rfl) ?_
    all_goals first | refine awpOps_cons (op_mv rfl (Conv.of rfl) rfl) ?_ | refine awpOps_cons (op_mvl rfl rfl rfl rfl) ?_ | refine awpOps_cons (op_mvo rfl rfl rfl rfl) ?_
    all_goals refine awpOps_cons (op_bneq ub4 rfl rfl rfl) ?_
    all_goals first | refine awpOps_cons (op_mv rfl (Conv.of rfl) rfl) ?_ | refine awpOps_cons (op_mvl rfl rfl rfl rfl) ?_ | refine awpOps_cons (op_mvo rfl rfl rfl rfl) ?_
    all_goals first | refine g_lit (t := 46) (b := true) rfl ?_ | refine g_lit (t := 46) (b := false) rfl ?_ | refine g_ulit (t := 46) rfl ?_ | refine g_split (t := 46) rfl (fun h => ?_) (fun h => ?_)
    all_goals first | refine awpOps_cons (g_off rfl rfl rfl rfl rfl) ?_ | refine awpOps_cons (g_und rfl rfl rfl) ?_ | refine awpOps_cons (g_on rfl rfl rfl (op_ld ty29 rfl rfl rfl)) ?_ | refine awpOps_cons (g_on rfl rfl rfl (op_ldr ty29 rfl rfl)) ?_ | refine awpOps_cons (g_on rfl rfl rfl (op_lde ty29 rfl rfl (by assumption) rfl)) ?_ | refine awpOps_cons (g_on rfl rfl rfl (op_ldl ty29 rfl rfl rfl)) ?_ | refine awpOps_cons (g_on rfl rfl rfl (op_ldd ty29 rfl rfl rfl)) ?_ | refine awpOps_cons (g_on rfl rfl rfl (op_ldde ty29 rfl rfl (by assumption) rfl)) ?_
    all_goals first | refine awpOps_cons (g_off rfl rfl rfl rfl rfl) ?_ | refine awpOps_cons (g_und rfl rfl rfl) ?_ | refine awpOps_cons (g_on rfl rfl rfl (op_ld ty29 rfl rfl rfl)) ?_ | refine awpOps_cons (g_on rfl rfl rfl (op_ldr ty29 rfl rfl)) ?_ | refine awpOps_cons (g_on rfl rfl rfl (op_lde ty29 rfl rfl (by assumption) rfl)) ?_ | refine awpOps_cons (g_on rfl rfl rfl (op_ldl ty29 rfl rfl rfl)) ?_ | refine awpOps_cons (g_on rfl rfl rfl (op_ldd ty29 rfl rfl rfl)) ?_ | refine awpOps_cons (g_on rfl rfl rfl (op_ldde ty29 rfl rfl (by assumption) rfl)) ?_
    all_goals first | refine awpOps_cons (g_off rfl rfl rfl rfl rfl) ?_ | refine awpOps_cons (g_und rfl rfl rfl) ?_ | refine awpOps_cons (g_on rfl rfl rfl (op_call fb18 (.cons rfl (Conv.of rfl) (.cons rfl (Conv.of rfl) (.nil _))) (lwWorld_ct _ _) (argOk rfl rfl (argOk rfl rfl argOk0)) rfl rfl)) ?_
    all_goals first | refine awpOps_cons (g_off rfl rfl rfl rfl rfl) ?_ | refine awpOps_cons (g_und rfl rfl rfl) ?_ | refine awpOps_cons (g_on rfl rfl rfl (op_not rfl rfl)) ?_
    all_goals refine awpOps_cons (op_pick rfl rfl rfl rfl) ?_
    all_goals first | refine awpOps_cons (op_mv rfl (Conv.of rfl) rfl) ?_ | refine awpOps_cons (op_mvl rfl rfl rfl rfl) ?_ | refine awpOps_cons (op_mvo rfl rfl rfl rfl) ?_
    all_goals first | refine g_lit (t := 52) (b := true) rfl ?_ | refine g_lit (t := 52) (b := false) rfl ?_ | refine g_ulit (t := 52) rfl ?_ | refine g_split (t := 52) rfl (fun h => ?_) (fun h => ?_)
    all_goals first | refine awpOps_cons (g_off rfl rfl rfl rfl rfl) ?_ | refine awpOps_cons (g_und rfl rfl rfl) ?_ | refine awpOps_cons (g_on rfl rfl rfl (op_mv rfl (Conv.of rfl) rfl)) ?_ | refine awpOps_cons (g_on rfl rfl rfl (op_mvl rfl rfl rfl rfl)) ?_ | refine awpOps_cons (g_on rfl rfl rfl (op_mvo rfl rfl rfl rfl)) ?_
    all_goals first | refine awpOps_cons (g_off rfl rfl rfl rfl rfl) ?_ | refine awpOps_cons (g_und rfl rfl rfl) ?_ | refine awpOps_cons (g_on rfl rfl rfl (op_not rfl rfl)) ?_
    all_goals refine awpOps_cons (op_pick rfl rfl rfl rfl) ?_
    all_goals refine awpOps_nil ?_
    all_goals exact Le.mk rfl (tle rfl (rfl) rfl (tle rfl (rfl) rfl (tle rfl (rfl) rfl (tlb rfl rfl rfl (tle rfl (rfl) rfl (tlb rfl rfl rfl (tle rfl (rfl) rfl (tle rfl (by first | rfl | (simp_all)) rfl tln)))))))) (olk rfl (by first | exact obOk_cell | exact obOk_arr | exact obOkW rfl | exact obOkW0 | exact obOkN | exact obOkS rfl | exact obOkNs | exact obOkS0 | trivial) (olk rfl (by first | exact obOk_cell | exact obOk_arr | exact obOkW rfl | exact obOkW0 | exact obOkN | exact obOkS rfl | exact obOkNs | exact obOkS0 | trivial) oln)) noS
  first | refine awp_seq (awp_cond rfl (fun h => ?_) (fun h => ?_)) | refine awp_seq (awp_seq (awp_cond rfl (fun h => ?_) (fun h => ?_))) | refine awp_cond rfl (fun h => ?_) (fun h => ?_) | refine awp_seq (awp_seq (awp_seq (awp_cond rfl (fun h => ?_) (fun h => ?_))))
  · all_goals first | refine awp_seq (awp_region (id := 7) ?_) | refine awp_seq (awp_seq (awp_region (id := 7) ?_)) | refine awp_region (id := 7) ?_ | refine awp_seq (awp_seq (awp_seq (awp_region (id := 7) ?_)))
    all_goals first | refine awpOps_cons (op_mv rfl (Conv.of rfl) rfl) ?_ | refine awpOps_cons (op_mvl rfl rfl rfl rfl) ?_ | refine awpOps_cons (op_mvo rfl rfl rfl rfl) ?_
    all_goals first | refine awpOps_cons (op_mv rfl (Conv.of rfl) rfl) ?_ | refine awpOps_cons (op_mvl rfl rfl rfl rfl) ?_ | refine awpOps_cons (op_mvo rfl rfl rfl rfl) ?_
    all_goals refine awpOps_cons (op_beql ub4 rfl rfl rfl) ?_
    all_goals first | refine awpOps_cons (op_mv rfl (Conv.of rfl) rfl) ?_ | refine awpOps_cons (op_mvl rfl rfl rfl rfl) ?_ | refine awpOps_cons (op_mvo rfl rfl rfl rfl) ?_
    all_goals first | refine g_lit (t := 59) (b := true) rfl ?_ | refine g_lit (t := 59) (b := false) rfl ?_ | refine g_ulit (t := 59) rfl ?_ | refine g_split (t := 59) rfl (fun h => ?_) (fun h => ?_)
    all_goals first | refine awpOps_cons (g_off rfl rfl rfl rfl rfl) ?_ | refine awpOps_cons (g_und rfl rfl rfl) ?_ | refine awpOps_cons (g_on rfl rfl rfl (op_ld ty29 rfl rfl rfl)) ?_ | refine awpOps_cons (g_on rfl rfl rfl (op_ldr ty29 rfl rfl)) ?_ | refine awpOps_cons (g_on rfl rfl rfl (op_lde ty29 rfl rfl (by assumption) rfl)) ?_ | refine awpOps_cons (g_on rfl rfl rfl (op_ldl ty29 rfl rfl rfl)) ?_ | refine awpOps_cons (g_on rfl rfl rfl (op_ldd ty29 rfl rfl rfl)) ?_ | refine awpOps_cons (g_on rfl rfl rfl (op_ldde ty29 rfl rfl (by assumption) rfl)) ?_
    all_goals first | refine awpOps_cons (g_off rfl rfl rfl rfl rfl) ?_ | refine awpOps_cons (g_und rfl rfl rfl) ?_ | refine awpOps_cons (g_on rfl rfl rfl (op_ld ty29 rfl rfl rfl)) ?_ | refine awpOps_cons (g_on rfl rfl rfl (op_ldr ty29 rfl rfl)) ?_ | refine awpOps_cons (g_on rfl rfl rfl (op_lde ty29 rfl rfl (by assumption) rfl)) ?_ | refine awpOps_cons (g_on rfl rfl rfl (op_ldl ty29 rfl rfl rfl)) ?_ | refine awpOps_cons (g_on rfl rfl rfl (op_ldd ty29 rfl rfl rfl)) ?_ | refine awpOps_cons (g_on rfl rfl rfl (op_ldde ty29 rfl rfl (by assumption) rfl)) ?_
    all_goals first | refine awpOps_cons (g_off rfl rfl rfl rfl rfl) ?_ | refine awpOps_cons (g_und rfl rfl rfl) ?_ | refine awpOps_cons (g_on rfl rfl rfl (op_call fb18 (.cons rfl (Conv.of rfl) (.cons rfl (Conv.of rfl) (.nil _))) (lwWorld_ct _ _) (argOk rfl rfl (argOk rfl rfl argOk0)) rfl rfl)) ?_
    all_goals refine awpOps_cons (op_pick rfl rfl rfl rfl) ?_
    all_goals first | refine awpOps_cons (op_as rfl (Conv.of rfl) rfl) ?_ | refine awpOps_cons (op_asl rfl rfl rfl rfl) ?_ | refine awpOps_cons (op_aso rfl rfl rfl rfl) ?_
    all_goals refine awpOps_nil ?_
    all_goals refine awp_ret ?_
    all_goals refine finP (.v rfl (Conv.of rfl)) rfl ?_
    all_goals simp_all [FV.av]
  obtain ⟨hb, hl, hw⟩ := playR_ok (not_f h)
  rw [hw]
  have hI := Inv.play hb evs
  have hbad := play_bad bad evs
  generalize playF bad evs = w at hI hbad ⊢
  subst hbad
  refine awp_skip ?_
  have hm4 := tmod_bd (show (0 : Int) ≤ (more.length : Int) by omega) (show (0 : Int) < 4 by omega)
  obtain ⟨n, hn⟩ : ∃ n : Nat, (n : Int) = 3 + (more.length : Int).tmod 4 := ⟨(3 + (more.length : Int).tmod 4).toNat, by omega⟩
  have hn3 : 3 ≤ n ∧ n ≤ 6 := by omega
  all_goals first | refine awp_seq (awp_region (id := 8) ?_) | refine awp_seq (awp_seq (awp_region (id := 8) ?_)) | refine awp_region (id := 8) ?_ | refine awp_seq (awp_seq (awp_seq (awp_region (id := 8) ?_)))
  all_goals refine awpOps_cons (op_call fb31 (.cons rfl (Conv.of rfl) (.nil _)) (newP_ct) (argOk rfl rfl argOk0) rfl rfl) ?_
  all_goals first | refine awpOps_cons (op_mv rfl (Conv.of rfl) rfl) ?_ | refine awpOps_cons (op_mvl rfl rfl rfl rfl) ?_ | refine awpOps_cons (op_mvo rfl rfl rfl rfl) ?_
  all_goals refine awpOps_cons (op_ext rfl rfl rfl) ?_
  all_goals refine awpOps_cons (op_ext rfl rfl rfl) ?_
  all_goals refine awpOps_cons (op_alloc (o := 2) z29 rfl rfl) ?_
  all_goals first | refine awpOps_cons (op_st ty29 rfl rfl (Conv.of rfl) rfl) ?_ | refine awpOps_cons (op_ste ty29 rfl rfl (Conv.of rfl) rfl (by assumption)) ?_ | refine awpOps_cons (op_stm ty29 rfl rfl rfl) ?_ | refine awpOps_cons (op_stme ty29 rfl rfl rfl (by assumption)) ?_
  all_goals first | refine awpOps_cons (op_as rfl (Conv.of rfl) rfl) ?_ | refine awpOps_cons (op_asl rfl rfl rfl rfl) ?_ | refine awpOps_cons (op_aso rfl rfl rfl rfl) ?_
  all_goals refine awpOps_nil ?_
  all_goals first | refine awp_seq (awp_region (id := 9) ?_) | refine awp_seq (awp_seq (awp_region (id := 9) ?_)) | refine awp_region (id := 9) ?_ | refine awp_seq (awp_seq (awp_seq (awp_region (id := 9) ?_)))
  all_goals first | refine awpOps_cons (op_mv rfl (Conv.of rfl) rfl) ?_ | refine awpOps_cons (op_mvl rfl rfl rfl rfl) ?_ | refine awpOps_cons (op_mvo rfl rfl rfl rfl) ?_
  all_goals first | refine awpOps_cons (op_len sl22 rfl rfl) ?_ | refine awpOps_cons (op_lenA sl22 rfl rfl rfl) ?_
  all_goals refine awpOps_cons (op_rem rfl rfl rfl (by decide)) ?_
  all_goals refine awpOps_cons (op_add rfl rfl rfl (by omega)) ?_
  all_goals first | refine awpOps_cons (op_as rfl (Conv.of rfl) rfl) ?_ | refine awpOps_cons (op_asl rfl rfl rfl rfl) ?_ | refine awpOps_cons (op_aso rfl rfl rfl rfl) ?_
  all_goals refine awpOps_nil ?_
  all_goals first | refine awp_seq (awp_region (id := 10) ?_) | refine awp_seq (awp_seq (awp_region (id := 10) ?_)) | refine awp_region (id := 10) ?_ | refine awp_seq (awp_seq (awp_seq (awp_region (id := 10) ?_)))
  all_goals refine awpOps_cons (op_bsl sl51 z58 (.nil _) rfl (by decide) rfl) ?_
  all_goals first | refine awpOps_cons (op_as rfl (Conv.of rfl) rfl) ?_ | refine awpOps_cons (op_asl rfl rfl rfl rfl) ?_ | refine awpOps_cons (op_aso rfl rfl rfl rfl) ?_
  all_goals refine awpOps_nil ?_
  all_goals first | refine awp_seq (awp_region (id := 11) ?_) | refine awp_seq (awp_seq (awp_region (id := 11) ?_)) | refine awp_region (id := 11) ?_ | refine awp_seq (awp_seq (awp_seq (awp_region (id := 11) ?_)))
  all_goals refine awpOps_cons (op_as rfl (Conv.of rfl) rfl) ?_
  all_goals refine awpOps_nil ?_
  rw [← hn]
  first | refine awp_seq (awp_seq (awp_seq (awp_seq_to (s' := mkSt 136 [(1, .v more), (11, .box 2 (IsLens.whole Wrld)), (12, .v true), (13, .v (n : Int)), (14, .v (OList.mk (honPays n) true))] [(2, .cell (newW 0))]) ?_ ?_))) | refine awp_seq (awp_seq (awp_seq_to (s' := mkSt 136 [(1, .v more), (11, .box 2 (IsLens.whole Wrld)), (12, .v true), (13, .v (n : Int)), (14, .v (OList.mk (honPays n) true))] [(2, .cell (newW 0))]) ?_ ?_)) | refine awp_seq (awp_seq_to (s' := mkSt 136 [(1, .v more), (11, .box 2 (IsLens.whole Wrld)), (12, .v true), (13, .v (n : Int)), (14, .v (OList.mk (honPays n) true))] [(2, .cell (newW 0))]) ?_ ?_) | refine awp_seq_to (s' := mkSt 136 [(1, .v more), (11, .box 2 (IsLens.whole Wrld)), (12, .v true), (13, .v (n : Int)), (14, .v (OList.mk (honPays n) true))] [(2, .cell (newW 0))]) ?_ ?_ | refine awp_toB (s' := mkSt 136 [(1, .v more), (11, .box 2 (IsLens.whole Wrld)), (12, .v true), (13, .v (n : Int)), (14, .v (OList.mk (honPays n) true))] [(2, .cell (newW 0))]) ?_ ?_ | refine awp_to (s' := mkSt 136 [(1, .v more), (11, .box 2 (IsLens.whole Wrld)), (12, .v true), (13, .v (n : Int)), (14, .v (OList.mk (honPays n) true))] [(2, .cell (newW 0))]) ?_ ?_
  · first | refine awp_seq (awp_block ?_) | refine awp_seq (awp_seq (awp_block ?_)) | refine awp_block ?_ | refine awp_seq (awp_seq (awp_seq (awp_block ?_)))
    first | refine awp_seq (awp_loop' (fun n_ s => ∃ (i : Nat), ∃ (hi : n_ + i = n), s = mkSt 136 [(1, .v more), (11, .box 2 (IsLens.whole Wrld)), (12, .v true), (13, .v (n : Int)), (14, .v (OList.mk (honPays i) true)), (15, .v (i : Int))] [(2, .cell (newW 0))]) (n) ⟨0, by omega, rfl⟩ (Le.mk rfl (tle rfl (rfl) rfl (tlb rfl rfl rfl (tle rfl (rfl) rfl (tle rfl (rfl) rfl (tle rfl (by first | rfl | (rw [honPays_succ]; rfl)) rfl (tle rfl (rfl) rfl tln)))))) (olk rfl (by first | exact obOk_cell | exact obOk_arr | exact obOkW rfl | exact obOkW0 | exact obOkN | exact obOkS rfl | exact obOkNs | exact obOkS0 | trivial) oln) noS) ?_) | refine awp_seq (awp_seq (awp_loop' (fun n_ s => ∃ (i : Nat), ∃ (hi : n_ + i = n), s = mkSt 136 [(1, .v more), (11, .box 2 (IsLens.whole Wrld)), (12, .v true), (13, .v (n : Int)), (14, .v (OList.mk (honPays i) true)), (15, .v (i : Int))] [(2, .cell (newW 0))]) (n) ⟨0, by omega, rfl⟩ (Le.mk rfl (tle rfl (rfl) rfl (tlb rfl rfl rfl (tle rfl (rfl) rfl (tle rfl (rfl) rfl (tle rfl (by first | rfl | (rw [honPays_succ]; rfl)) rfl (tle rfl (rfl) rfl tln)))))) (olk rfl (by first | exact obOk_cell | exact obOk_arr | exact obOkW rfl | exact obOkW0 | exact obOkN | exact obOkS rfl | exact obOkNs | exact obOkS0 | trivial) oln) noS) ?_)) | refine awp_loop' (fun n_ s => ∃ (i : Nat), ∃ (hi : n_ + i = n), s = mkSt 136 [(1, .v more), (11, .box 2 (IsLens.whole Wrld)), (12, .v true), (13, .v (n : Int)), (14, .v (OList.mk (honPays i) true)), (15, .v (i : Int))] [(2, .cell (newW 0))]) (n) ⟨0, by omega, rfl⟩ (Le.mk rfl (tle rfl (rfl) rfl (tlb rfl rfl rfl (tle rfl (rfl) rfl (tle rfl (rfl) rfl (tle rfl (by first | rfl | (rw [honPays_succ]; rfl)) rfl (tle rfl (rfl) rfl tln)))))) (olk rfl (by first | exact obOk_cell | exact obOk_arr | exact obOkW rfl | exact obOkW0 | exact obOkN | exact obOkS rfl | exact obOkNs | exact obOkS0 | trivial) oln) noS) ?_ | refine awp_seq (awp_seq (awp_seq (awp_loop' (fun n_ s => ∃ (i : Nat), ∃ (hi : n_ + i = n), s = mkSt 136 [(1, .v more), (11, .box 2 (IsLens.whole Wrld)), (12, .v true), (13, .v (n : Int)), (14, .v (OList.mk (honPays i) true)), (15, .v (i : Int))] [(2, .cell (newW 0))]) (n) ⟨0, by omega, rfl⟩ (Le.mk rfl (tle rfl (rfl) rfl (tlb rfl rfl rfl (tle rfl (rfl) rfl (tle rfl (rfl) rfl (tle rfl (by first | rfl | (rw [honPays_succ]; rfl)) rfl (tle rfl (rfl) rfl tln)))))) (olk rfl (by first | exact obOk_cell | exact obOk_arr | exact obOkW rfl | exact obOkW0 | exact obOkN | exact obOkS rfl | exact obOkNs | exact obOkS0 | trivial) oln) noS) ?_)))
    rintro n_ s ⟨i, hi, rfl⟩
    have hil : (honPays i).length = i := by simp [honPays]
    all_goals first | refine awp_seq (awp_region (id := 12) ?_) | refine awp_seq (awp_seq (awp_region (id := 12) ?_)) | refine awp_region (id := 12) ?_ | refine awp_seq (awp_seq (awp_seq (awp_region (id := 12) ?_)))
    all_goals first | refine awpOps_cons (op_mv rfl (Conv.of rfl) rfl) ?_ | refine awpOps_cons (op_mvl rfl rfl rfl rfl) ?_ | refine awpOps_cons (op_mvo rfl rfl rfl rfl) ?_
    all_goals first | refine awpOps_cons (op_mv rfl (Conv.of rfl) rfl) ?_ | refine awpOps_cons (op_mvl rfl rfl rfl rfl) ?_ | refine awpOps_cons (op_mvo rfl rfl rfl rfl) ?_
    all_goals refine awpOps_cons (op_lss rfl rfl rfl) ?_
    all_goals refine awpOps_nil ?_
    first | refine awp_seq (awp_cond rfl (fun h => ?_) (fun h => ?_)) | refine awp_seq (awp_seq (awp_cond rfl (fun h => ?_) (fun h => ?_))) | refine awp_cond rfl (fun h => ?_) (fun h => ?_) | refine awp_seq (awp_seq (awp_seq (awp_cond rfl (fun h => ?_) (fun h => ?_))))
    · have hlt : i < n := by have := of_decide_eq_true h; omega
      have hm2 := tmod_bd (show (0 : Int) ≤ (i : Int) by omega) (show (0 : Int) < 2 by omega)
      refine awp_skip ?_
      first | refine awp_seq (awp_block ?_) | refine awp_seq (awp_seq (awp_block ?_)) | refine awp_block ?_ | refine awp_seq (awp_seq (awp_seq (awp_block ?_)))
      all_goals first | refine awp_seq (awp_region (id := 14) ?_) | refine awp_seq (awp_seq (awp_region (id := 14) ?_)) | refine awp_region (id := 14) ?_ | refine awp_seq (awp_seq (awp_seq (awp_region (id := 14) ?_)))
      all_goals first | refine awpOps_cons (op_mv rfl (Conv.of rfl) rfl) ?_ | refine awpOps_cons (op_mvl rfl rfl rfl rfl) ?_ | refine awpOps_cons (op_mvo rfl rfl rfl rfl) ?_
      all_goals first | refine awpOps_cons (op_mv rfl (Conv.of rfl) rfl) ?_ | refine awpOps_cons (op_mvl rfl rfl rfl rfl) ?_ | refine awpOps_cons (op_mvo rfl rfl rfl rfl) ?_
      all_goals refine awpOps_cons (op_rem rfl rfl rfl (by decide)) ?_
      all_goals refine awpOps_cons (op_add rfl rfl rfl (by omega)) ?_
      all_goals refine awpOps_cons (op_build (.cons f58_0 rfl (Conv.of rfl) (.cons f58_1 rfl (Conv.of rfl) (.cons f58_2 rfl (Conv.of rfl) (.nil _)))) z58 rfl pl58 rfl) ?_
      all_goals refine awpOps_cons (op_bsl sl51 z58 (.cons rfl (Conv.of rfl) (.nil _)) rfl (by decide) rfl) ?_
      all_goals refine awpOps_cons (op_app sl51 z58 ul51 rfl rfl rfl (by (simp; omega)) (by (simp; omega)) rfl rfl) ?_
      all_goals first | refine awpOps_cons (op_as rfl (Conv.of rfl) rfl) ?_ | refine awpOps_cons (op_asl rfl rfl rfl rfl) ?_ | refine awpOps_cons (op_aso rfl rfl rfl rfl) ?_
      all_goals refine awpOps_nil ?_
      all_goals first | refine awp_seq (awp_region (id := 13) ?_) | refine awp_seq (awp_seq (awp_region (id := 13) ?_)) | refine awp_region (id := 13) ?_ | refine awp_seq (awp_seq (awp_seq (awp_region (id := 13) ?_)))
      all_goals first | refine awpOps_cons (op_mv rfl (Conv.of rfl) rfl) ?_ | refine awpOps_cons (op_mvl rfl rfl rfl rfl) ?_ | refine awpOps_cons (op_mvo rfl rfl rfl rfl) ?_
      all_goals refine awpOps_cons (op_add rfl rfl rfl (by omega)) ?_
      all_goals first | refine awpOps_cons (op_as rfl (Conv.of rfl) rfl) ?_ | refine awpOps_cons (op_asl rfl rfl rfl rfl) ?_ | refine awpOps_cons (op_aso rfl rfl rfl rfl) ?_
      all_goals refine awpOps_nil ?_
      repeat first | refine nx_seq ?_ | refine nx_block ?_
      exact ⟨n_ - 1, _, by omega, ⟨i + 1, by omega, rfl⟩, Le.mk rfl (tle rfl (rfl) rfl (tlb rfl rfl rfl (tle rfl (rfl) rfl (tle rfl (rfl) rfl (tle rfl (by first | rfl | (rw [honPays_succ]; rfl)) rfl (tle rfl (rfl) rfl tln)))))) (olk rfl (by first | exact obOk_cell | exact obOk_arr | exact obOkW rfl | exact obOkW0 | exact obOkN | exact obOkS rfl | exact obOkNs | exact obOkS0 | trivial) oln) noS⟩
    · refine awp_exit ?_
      repeat refine ex_seq ?_
      refine ex_block ?_
      have hie : i = n := by have := of_decide_eq_false h; omega
      subst hie
      all_goals exact Le.mk rfl (tle rfl (rfl) rfl (tlb rfl rfl rfl (tle rfl (rfl) rfl (tle rfl (rfl) rfl (tle rfl (rfl) rfl tln))))) (olk rfl (by first | exact obOk_cell | exact obOk_arr | exact obOkW rfl | exact obOkW0 | exact obOkN | exact obOkS rfl | exact obOkNs | exact obOkS0 | trivial) oln) noS
  have hpl : (honPays n).length = n := by simp [honPays]
  have hxe : worldCalmR (newW 0) (honPays n) = honX n := by
    unfold worldCalmR
    rw [if_pos]
    · rfl
    · rw [hpl]; simp only [Bool.and_eq_true, decide_eq_true_eq]; exact ⟨by decide, by omega⟩
  have hXI := hon_inv n
  have hX4 := hXI.ok.four
  have hf := fun a ha => hon_final hn3 (a := a) ha
  have hbk := hon_book hn3
  generalize honX n = x at hxe hXI hX4 hf
  first | refine awp_seq (awp_seq (awp_seq (awp_seq_to (s' := mkSt 136 [(1, .v more), (11, .box 2 (IsLens.whole Wrld)), (12, .v true), (13, .v (n : Int)), (14, .v (OList.mk (honPays n) false))] [(2, .cell x)]) ?_ ?_))) | refine awp_seq (awp_seq (awp_seq_to (s' := mkSt 136 [(1, .v more), (11, .box 2 (IsLens.whole Wrld)), (12, .v true), (13, .v (n : Int)), (14, .v (OList.mk (honPays n) false))] [(2, .cell x)]) ?_ ?_)) | refine awp_seq (awp_seq_to (s' := mkSt 136 [(1, .v more), (11, .box 2 (IsLens.whole Wrld)), (12, .v true), (13, .v (n : Int)), (14, .v (OList.mk (honPays n) false))] [(2, .cell x)]) ?_ ?_) | refine awp_seq_to (s' := mkSt 136 [(1, .v more), (11, .box 2 (IsLens.whole Wrld)), (12, .v true), (13, .v (n : Int)), (14, .v (OList.mk (honPays n) false))] [(2, .cell x)]) ?_ ?_ | refine awp_toB (s' := mkSt 136 [(1, .v more), (11, .box 2 (IsLens.whole Wrld)), (12, .v true), (13, .v (n : Int)), (14, .v (OList.mk (honPays n) false))] [(2, .cell x)]) ?_ ?_ | refine awp_to (s' := mkSt 136 [(1, .v more), (11, .box 2 (IsLens.whole Wrld)), (12, .v true), (13, .v (n : Int)), (14, .v (OList.mk (honPays n) false))] [(2, .cell x)]) ?_ ?_
  · all_goals first | refine awp_seq (awp_region (id := 15) ?_) | refine awp_seq (awp_seq (awp_region (id := 15) ?_)) | refine awp_region (id := 15) ?_ | refine awp_seq (awp_seq (awp_seq (awp_region (id := 15) ?_)))
    all_goals first | refine awpOps_cons (op_ld ty29 rfl rfl rfl) ?_ | refine awpOps_cons (op_ldr ty29 rfl rfl) ?_ | refine awpOps_cons (op_lde ty29 rfl rfl (by assumption) rfl) ?_ | refine awpOps_cons (op_ldl ty29 rfl rfl rfl) ?_ | refine awpOps_cons (op_ldd ty29 rfl rfl rfl) ?_ | refine awpOps_cons (op_ldde ty29 rfl rfl (by assumption) rfl) ?_
    all_goals refine awpOps_cons (op_mvl rfl rfl rfl rfl) ?_
    all_goals refine awpOps_cons (op_call fb27 (.cons rfl (Conv.of rfl) (.cons rfl (Conv.ol) (.nil _))) (worldCalm_ct _ _) (argOk rfl rfl (argOk rfl rfl argOk0)) rfl rfl) ?_
    all_goals first | refine awpOps_cons (op_st ty29 rfl rfl (Conv.of rfl) rfl) ?_ | refine awpOps_cons (op_ste ty29 rfl rfl (Conv.of rfl) rfl (by assumption)) ?_ | refine awpOps_cons (op_stm ty29 rfl rfl rfl) ?_ | refine awpOps_cons (op_stme ty29 rfl rfl rfl (by assumption)) ?_
    all_goals refine awpOps_nil ?_
    all_goals exact Le.mk rfl (tle rfl (rfl) rfl (tlb rfl rfl rfl (tle rfl (rfl) rfl (tle rfl (rfl) rfl (tle rfl (rfl) rfl tln))))) (olk (by first | rfl | (exact congrArg Wt.Obj.cell hxe)) (by first | exact obOk_cell | exact obOk_arr | exact obOkW rfl | exact obOkW0 | exact obOkN | exact obOkS rfl | exact obOkNs | exact obOkS0 | trivial) oln) noS
  obtain ⟨a, ha⟩ := node_at hXI (k := ((more.length : Int).tmod 4).toNat) (by omega)
  have hsa := nodeOk_seen (hXI.ok.nodes a (List.mem_of_getElem? ha))
  have hfa := treeFinal_ct a.seen hsa.1 (by omega)
  rw [hf a (List.mem_of_getElem? ha)] at hfa
  obtain ⟨b, hb0⟩ := node_at hXI (k := 0) (by omega)
  have hnb := hXI.ok.nodes b (List.mem_of_getElem? hb0)
  have hbb := nodeBook_ct b hnb
  rw [hf b (List.mem_of_getElem? hb0)] at hbb
  have hfl : ((List.range (n - 1)).map fun (i : Nat) => Itm.mk ((i : Int) + 1) (honP i)).length = n - 1 := by simp
  have hfk : ∀ k : Nat, k < n - 1 → ((List.range (n - 1)).map fun (i : Nat) => Itm.mk ((i : Int) + 1) (honP i))[k]? = some (Itm.mk ((k : Int) + 1) (honP k)) := fun k hk => by
    rw [List.getElem?_map, List.getElem?_range hk]; rfl
  have hpk : ∀ k : Nat, k < n → (honPays n)[k]? = some (honP k) := fun k hk => by
    unfold honPays; rw [List.getElem?_map, List.getElem?_range hk]; rfl
  generalize ((List.range (n - 1)).map fun (i : Nat) => Itm.mk ((i : Int) + 1) (honP i)) = f at hfa hbb hfl hfk hbk
  all_goals first | refine awp_seq (awp_region (id := 16) ?_) | refine awp_seq (awp_seq (awp_region (id := 16) ?_)) | refine awp_region (id := 16) ?_ | refine awp_seq (awp_seq (awp_seq (awp_region (id := 16) ?_)))
  all_goals first | refine awpOps_cons (op_fab f29_1 rfl rfl) ?_ | refine awpOps_cons (op_far f29_1 rfl rfl) ?_ | refine awpOps_cons (op_fae f29_1 rfl rfl) ?_
  all_goals first | refine awpOps_cons (op_ld ty26 rfl rfl rfl) ?_ | refine awpOps_cons (op_ldr ty26 rfl rfl) ?_ | refine awpOps_cons (op_lde ty26 rfl rfl (by assumption) rfl) ?_ | refine awpOps_cons (op_ldl ty26 rfl rfl rfl) ?_ | refine awpOps_cons (op_ldd ty26 rfl rfl rfl) ?_ | refine awpOps_cons (op_ldde ty26 rfl rfl (by assumption) rfl) ?_
  all_goals first | refine awpOps_cons (op_mv rfl (Conv.of rfl) rfl) ?_ | refine awpOps_cons (op_mvl rfl rfl rfl rfl) ?_ | refine awpOps_cons (op_mvo rfl rfl rfl rfl) ?_
  all_goals first | refine awpOps_cons (op_len sl22 rfl rfl) ?_ | refine awpOps_cons (op_lenA sl22 rfl rfl rfl) ?_
  all_goals refine awpOps_cons (op_rem rfl rfl rfl (by decide)) ?_
  all_goals first | refine awpOps_cons (op_ix sl26 rfl rfl rfl (by omega) ha) ?_ | refine awpOps_cons (op_ixA sl26 rfl rfl rfl rfl (by omega)) ?_
  all_goals first | refine awpOps_cons (op_fab f41_3 rfl rfl) ?_ | refine awpOps_cons (op_far f41_3 rfl rfl) ?_ | refine awpOps_cons (op_fae f41_3 rfl rfl) ?_
  all_goals first | refine awpOps_cons (op_ld ty27 rfl rfl rfl) ?_ | refine awpOps_cons (op_ldr ty27 rfl rfl) ?_ | refine awpOps_cons (op_lde ty27 rfl rfl (by assumption) rfl) ?_ | refine awpOps_cons (op_ldl ty27 rfl rfl rfl) ?_ | refine awpOps_cons (op_ldd ty27 rfl rfl rfl) ?_ | refine awpOps_cons (op_ldde ty27 rfl rfl (by assumption) rfl) ?_
  all_goals refine awpOps_cons (op_call fb20 (.cons rfl (Conv.of rfl) (.nil _)) (hfa) (argOk rfl rfl argOk0) rfl rfl) ?_
  all_goals first | refine awpOps_cons (op_as rfl (Conv.of rfl) rfl) ?_ | refine awpOps_cons (op_asl rfl rfl rfl rfl) ?_ | refine awpOps_cons (op_aso rfl rfl rfl rfl) ?_
  all_goals refine awpOps_nil ?_
  all_goals first | refine awp_seq (awp_region (id := 17) ?_) | refine awp_seq (awp_seq (awp_region (id := 17) ?_)) | refine awp_region (id := 17) ?_ | refine awp_seq (awp_seq (awp_seq (awp_region (id := 17) ?_)))
  all_goals refine awpOps_cons (op_as rfl (Conv.of rfl) rfl) ?_
  all_goals refine awpOps_nil ?_
  first | refine awp_seq (awp_seq (awp_seq (awp_seq_to (s' := mkSt 136 [(11, .box 2 (IsLens.whole Wrld)), (12, .v true), (13, .v (n : Int)), (16, .v (CList.mk f))] [(2, .cell x)]) ?_ ?_))) | refine awp_seq (awp_seq (awp_seq_to (s' := mkSt 136 [(11, .box 2 (IsLens.whole Wrld)), (12, .v true), (13, .v (n : Int)), (16, .v (CList.mk f))] [(2, .cell x)]) ?_ ?_)) | refine awp_seq (awp_seq_to (s' := mkSt 136 [(11, .box 2 (IsLens.whole Wrld)), (12, .v true), (13, .v (n : Int)), (16, .v (CList.mk f))] [(2, .cell x)]) ?_ ?_) | refine awp_seq_to (s' := mkSt 136 [(11, .box 2 (IsLens.whole Wrld)), (12, .v true), (13, .v (n : Int)), (16, .v (CList.mk f))] [(2, .cell x)]) ?_ ?_ | refine awp_toB (s' := mkSt 136 [(11, .box 2 (IsLens.whole Wrld)), (12, .v true), (13, .v (n : Int)), (16, .v (CList.mk f))] [(2, .cell x)]) ?_ ?_ | refine awp_to (s' := mkSt 136 [(11, .box 2 (IsLens.whole Wrld)), (12, .v true), (13, .v (n : Int)), (16, .v (CList.mk f))] [(2, .cell x)]) ?_ ?_
  · first | refine awp_seq (awp_block ?_) | refine awp_seq (awp_seq (awp_block ?_)) | refine awp_block ?_ | refine awp_seq (awp_seq (awp_seq (awp_block ?_)))
    first | refine awp_seq (awp_loop' (fun n_ s => ∃ (k : Nat), ∃ (hk : n_ + k = n - 1), s = mkSt 136 [(11, .box 2 (IsLens.whole Wrld)), (12, .v true), (13, .v (n : Int)), (14, .v (OList.mk (honPays n) false)), (16, .v (CList.mk f)), (17, .v (k : Int))] [(2, .cell x)]) (n - 1) ⟨0, by omega, rfl⟩ (Le.mk rfl (tlb rfl rfl rfl (tle rfl (rfl) rfl (tle rfl (rfl) rfl (tle rfl (rfl) rfl (tle rfl (rfl) rfl (tle rfl (rfl) rfl tln)))))) (olk rfl (by first | exact obOk_cell | exact obOk_arr | exact obOkW rfl | exact obOkW0 | exact obOkN | exact obOkS rfl | exact obOkNs | exact obOkS0 | trivial) oln) noS) ?_) | refine awp_seq (awp_seq (awp_loop' (fun n_ s => ∃ (k : Nat), ∃ (hk : n_ + k = n - 1), s = mkSt 136 [(11, .box 2 (IsLens.whole Wrld)), (12, .v true), (13, .v (n : Int)), (14, .v (OList.mk (honPays n) false)), (16, .v (CList.mk f)), (17, .v (k : Int))] [(2, .cell x)]) (n - 1) ⟨0, by omega, rfl⟩ (Le.mk rfl (tlb rfl rfl rfl (tle rfl (rfl) rfl (tle rfl (rfl) rfl (tle rfl (rfl) rfl (tle rfl (rfl) rfl (tle rfl (rfl) rfl tln)))))) (olk rfl (by first | exact obOk_cell | exact obOk_arr | exact obOkW rfl | exact obOkW0 | exact obOkN | exact obOkS rfl | exact obOkNs | exact obOkS0 | trivial) oln) noS) ?_)) | refine awp_loop' (fun n_ s => ∃ (k : Nat), ∃ (hk : n_ + k = n - 1), s = mkSt 136 [(11, .box 2 (IsLens.whole Wrld)), (12, .v true), (13, .v (n : Int)), (14, .v (OList.mk (honPays n) false)), (16, .v (CList.mk f)), (17, .v (k : Int))] [(2, .cell x)]) (n - 1) ⟨0, by omega, rfl⟩ (Le.mk rfl (tlb rfl rfl rfl (tle rfl (rfl) rfl (tle rfl (rfl) rfl (tle rfl (rfl) rfl (tle rfl (rfl) rfl (tle rfl (rfl) rfl tln)))))) (olk rfl (by first | exact obOk_cell | exact obOk_arr | exact obOkW rfl | exact obOkW0 | exact obOkN | exact obOkS rfl | exact obOkNs | exact obOkS0 | trivial) oln) noS) ?_ | refine awp_seq (awp_seq (awp_seq (awp_loop' (fun n_ s => ∃ (k : Nat), ∃ (hk : n_ + k = n - 1), s = mkSt 136 [(11, .box 2 (IsLens.whole Wrld)), (12, .v true), (13, .v (n : Int)), (14, .v (OList.mk (honPays n) false)), (16, .v (CList.mk f)), (17, .v (k : Int))] [(2, .cell x)]) (n - 1) ⟨0, by omega, rfl⟩ (Le.mk rfl (tlb rfl rfl rfl (tle rfl (rfl) rfl (tle rfl (rfl) rfl (tle rfl (rfl) rfl (tle rfl (rfl) rfl (tle rfl (rfl) rfl tln)))))) (olk rfl (by first | exact obOk_cell | exact obOk_arr | exact obOkW rfl | exact obOkW0 | exact obOkN | exact obOkS rfl | exact obOkNs | exact obOkS0 | trivial) oln) noS) ?_)))
    rintro n_ s ⟨k, hk, rfl⟩
    all_goals first | refine awp_seq (awp_region (id := 18) ?_) | refine awp_seq (awp_seq (awp_region (id := 18) ?_)) | refine awp_region (id := 18) ?_ | refine awp_seq (awp_seq (awp_seq (awp_region (id := 18) ?_)))
    all_goals first | refine awpOps_cons (op_mv rfl (Conv.of rfl) rfl) ?_ | refine awpOps_cons (op_mvl rfl rfl rfl rfl) ?_ | refine awpOps_cons (op_mvo rfl rfl rfl rfl) ?_
    all_goals first | refine awpOps_cons (op_mv rfl (Conv.of rfl) rfl) ?_ | refine awpOps_cons (op_mvl rfl rfl rfl rfl) ?_ | refine awpOps_cons (op_mvo rfl rfl rfl rfl) ?_
    all_goals first | refine awpOps_cons (op_len sl34 rfl rfl) ?_ | refine awpOps_cons (op_lenA sl34 rfl rfl rfl) ?_
    all_goals refine awpOps_cons (op_lss rfl rfl rfl) ?_
    all_goals refine awpOps_nil ?_
    first | refine awp_seq (awp_cond rfl (fun h => ?_) (fun h => ?_)) | refine awp_seq (awp_seq (awp_cond rfl (fun h => ?_) (fun h => ?_))) | refine awp_cond rfl (fun h => ?_) (fun h => ?_) | refine awp_seq (awp_seq (awp_seq (awp_cond rfl (fun h => ?_) (fun h => ?_))))
    · have hlt : k < n - 1 := by have := of_decide_eq_true h; simp [hfl] at this; omega
      have hy := hfk k hlt
      have hz := hpk k (by omega)
      refine awp_skip ?_
      first | refine awp_seq (awp_block ?_) | refine awp_seq (awp_seq (awp_block ?_)) | refine awp_block ?_ | refine awp_seq (awp_seq (awp_seq (awp_block ?_)))
      first | refine awp_seq (awp_seq (awp_seq (awp_seq_to (s' := mkSt 136 [(11, .box 2 (IsLens.whole Wrld)), (12, .v true), (13, .v (n : Int)), (14, .v (OList.mk (honPays n) false)), (16, .v (CList.mk f)), (17, .v (k : Int)), (114, .v false)] [(2, .cell x)]) ?_ ?_))) | refine awp_seq (awp_seq (awp_seq_to (s' := mkSt 136 [(11, .box 2 (IsLens.whole Wrld)), (12, .v true), (13, .v (n : Int)), (14, .v (OList.mk (honPays n) false)), (16, .v (CList.mk f)), (17, .v (k : Int)), (114, .v false)] [(2, .cell x)]) ?_ ?_)) | refine awp_seq (awp_seq_to (s' := mkSt 136 [(11, .box 2 (IsLens.whole Wrld)), (12, .v true), (13, .v (n : Int)), (14, .v (OList.mk (honPays n) false)), (16, .v (CList.mk f)), (17, .v (k : Int)), (114, .v false)] [(2, .cell x)]) ?_ ?_) | refine awp_seq_to (s' := mkSt 136 [(11, .box 2 (IsLens.whole Wrld)), (12, .v true), (13, .v (n : Int)), (14, .v (OList.mk (honPays n) false)), (16, .v (CList.mk f)), (17, .v (k : Int)), (114, .v false)] [(2, .cell x)]) ?_ ?_ | refine awp_toB (s' := mkSt 136 [(11, .box 2 (IsLens.whole Wrld)), (12, .v true), (13, .v (n : Int)), (14, .v (OList.mk (honPays n) false)), (16, .v (CList.mk f)), (17, .v (k : Int)), (114, .v false)] [(2, .cell x)]) ?_ ?_ | refine awp_to (s' := mkSt 136 [(11, .box 2 (IsLens.whole Wrld)), (12, .v true), (13, .v (n : Int)), (14, .v (OList.mk (honPays n) false)), (16, .v (CList.mk f)), (17, .v (k : Int)), (114, .v false)] [(2, .cell x)]) ?_ ?_
      · all_goals first | refine awp_seq (dr_start (id := 20) ?_) | refine awp_seq (awp_seq (dr_start (id := 20) ?_)) | refine dr_start (id := 20) ?_ | refine awp_seq (awp_seq (awp_seq (dr_start (id := 20) ?_)))
        all_goals first | refine dr_cons (op_mv rfl (Conv.of rfl) rfl) ?_ | refine dr_cons (op_mvl rfl rfl rfl rfl) ?_ | refine dr_cons (op_mvo rfl rfl rfl rfl) ?_
        all_goals first | refine dr_cons (op_mv rfl (Conv.of rfl) rfl) ?_ | refine dr_cons (op_mvl rfl rfl rfl rfl) ?_ | refine dr_cons (op_mvo rfl rfl rfl rfl) ?_
        all_goals first | refine dr_cons (op_ix sl34 rfl rfl rfl (by omega) hy) ?_ | refine dr_cons (op_ixA sl34 rfl rfl rfl rfl (by omega)) ?_
        all_goals first | refine dr_cons (op_ld ty60 rfl rfl rfl) ?_ | refine dr_cons (op_ldr ty60 rfl rfl) ?_ | refine dr_cons (op_lde ty60 rfl rfl (by assumption) rfl) ?_ | refine dr_cons (op_ldl ty60 rfl rfl rfl) ?_ | refine dr_cons (op_ldd ty60 rfl rfl rfl) ?_ | refine dr_cons (op_ldde ty60 rfl rfl (by assumption) rfl) ?_
        all_goals first | refine dr_cons (op_mv rfl (Conv.of rfl) rfl) ?_ | refine dr_cons (op_mvl rfl rfl rfl rfl) ?_ | refine dr_cons (op_mvo rfl rfl rfl rfl) ?_
        all_goals refine dr_cons (op_add rfl rfl rfl (by omega)) ?_
        all_goals refine dr_cons (op_mv rfl Conv.ol rfl) ?_
        all_goals first | refine dr_cons (op_mv rfl (Conv.of rfl) rfl) ?_ | refine dr_cons (op_mvl rfl rfl rfl rfl) ?_ | refine dr_cons (op_mvo rfl rfl rfl rfl) ?_
        all_goals first | refine dr_cons (op_ix sl51 rfl rfl rfl (by omega) hz) ?_ | refine dr_cons (op_ixA sl51 rfl rfl rfl rfl (by omega)) ?_
        all_goals first | refine dr_cons (op_ld ty58 rfl rfl rfl) ?_ | refine dr_cons (op_ldr ty58 rfl rfl) ?_ | refine dr_cons (op_lde ty58 rfl rfl (by assumption) rfl) ?_ | refine dr_cons (op_ldl ty58 rfl rfl rfl) ?_ | refine dr_cons (op_ldd ty58 rfl rfl rfl) ?_ | refine dr_cons (op_ldde ty58 rfl rfl (by assumption) rfl) ?_
        all_goals refine dr_cons (op_build (.cons f60_0 rfl (Conv.of rfl) (.cons f60_1 rfl (Conv.of rfl) (.nil _))) z60 rfl pl60 rfl) ?_
        all_goals refine dr_cons (op_nea weq60 rfl rfl rfl) ?_
        all_goals refine dr_nil mixed rfl ?_
        all_goals exact Le.mk rfl (tlb rfl rfl rfl (tle rfl (rfl) rfl (tle rfl (rfl) rfl (tle rfl (rfl) rfl (tle rfl (rfl) rfl (tle rfl (rfl) rfl (tle rfl (by first | rfl | (show AV.v _ = AV.v _; simp)) rfl tln))))))) (olk rfl (by first | exact obOk_cell | exact obOk_arr | exact obOkW rfl | exact obOkW0 | exact obOkN | exact obOkS rfl | exact obOkNs | exact obOkS0 | trivial) oln) noS
      first | refine awp_seq (awp_cond rfl (fun h2 => absurd h2 (by decide)) (fun h2 => ?_)) | refine awp_seq (awp_seq (awp_cond rfl (fun h2 => absurd h2 (by decide)) (fun h2 => ?_))) | refine awp_cond rfl (fun h2 => absurd h2 (by decide)) (fun h2 => ?_) | refine awp_seq (awp_seq (awp_seq (awp_cond rfl (fun h2 => absurd h2 (by decide)) (fun h2 => ?_))))
      refine awp_skip ?_
      all_goals first | refine awp_seq (awp_region (id := 19) ?_) | refine awp_seq (awp_seq (awp_region (id := 19) ?_)) | refine awp_region (id := 19) ?_ | refine awp_seq (awp_seq (awp_seq (awp_region (id := 19) ?_)))
      all_goals first | refine awpOps_cons (op_mv rfl (Conv.of rfl) rfl) ?_ | refine awpOps_cons (op_mvl rfl rfl rfl rfl) ?_ | refine awpOps_cons (op_mvo rfl rfl rfl rfl) ?_
      all_goals refine awpOps_cons (op_add rfl rfl rfl (by omega)) ?_
      all_goals first | refine awpOps_cons (op_as rfl (Conv.of rfl) rfl) ?_ | refine awpOps_cons (op_asl rfl rfl rfl rfl) ?_ | refine awpOps_cons (op_aso rfl rfl rfl rfl) ?_
      all_goals refine awpOps_nil ?_
      repeat first | refine nx_seq ?_ | refine nx_block ?_
      exact ⟨n_ - 1, _, by omega, ⟨k + 1, by omega, rfl⟩, Le.mk rfl (tlb rfl rfl rfl (tle rfl (rfl) rfl (tle rfl (rfl) rfl (tle rfl (rfl) rfl (tle rfl (rfl) rfl (tle rfl (rfl) rfl tln)))))) (olk rfl (by first | exact obOk_cell | exact obOk_arr | exact obOkW rfl | exact obOkW0 | exact obOkN | exact obOkS rfl | exact obOkNs | exact obOkS0 | trivial) oln) noS⟩
    · refine awp_exit ?_
      repeat refine ex_seq ?_
      refine ex_block ?_
      all_goals exact Le.mk rfl (tlb rfl rfl rfl (tle rfl (rfl) rfl (tle rfl (rfl) rfl (tle rfl (rfl) rfl tln)))) (olk rfl (by first | exact obOk_cell | exact obOk_arr | exact obOkW rfl | exact obOkW0 | exact obOkN | exact obOkS rfl | exact obOkNs | exact obOkS0 | trivial) oln) noS
  · all_goals first | refine awp_seq (awp_region (id := 22) ?_) | refine awp_seq (awp_seq (awp_region (id := 22) ?_)) | refine awp_region (id := 22) ?_ | refine awp_seq (awp_seq (awp_seq (awp_region (id := 22) ?_)))
    all_goals first | refine awpOps_cons (op_mv rfl (Conv.of rfl) rfl) ?_ | refine awpOps_cons (op_mvl rfl rfl rfl rfl) ?_ | refine awpOps_cons (op_mvo rfl rfl rfl rfl) ?_
    all_goals first | refine awpOps_cons (op_mv rfl (Conv.of rfl) rfl) ?_ | refine awpOps_cons (op_mvl rfl rfl rfl rfl) ?_ | refine awpOps_cons (op_mvo rfl rfl rfl rfl) ?_
    all_goals first | refine g_lit (t := 116) (b := true) rfl ?_ | refine g_lit (t := 116) (b := false) rfl ?_ | refine g_ulit (t := 116) rfl ?_ | refine g_split (t := 116) rfl (fun h => ?_) (fun h => ?_)
    all_goals first | refine awpOps_cons (g_off rfl rfl rfl rfl rfl) ?_ | refine awpOps_cons (g_und rfl rfl rfl) ?_ | refine awpOps_cons (g_on rfl rfl rfl (op_mv rfl (Conv.of rfl) rfl)) ?_ | refine awpOps_cons (g_on rfl rfl rfl (op_mvl rfl rfl rfl rfl)) ?_ | refine awpOps_cons (g_on rfl rfl rfl (op_mvo rfl rfl rfl rfl)) ?_
    all_goals first | refine awpOps_cons (g_off rfl rfl rfl rfl rfl) ?_ | refine awpOps_cons (g_und rfl rfl rfl) ?_ | refine awpOps_cons (g_on rfl rfl rfl (op_len sl34 rfl rfl)) ?_ | refine awpOps_cons (g_on rfl rfl rfl (op_lenA sl34 rfl rfl rfl)) ?_
    all_goals first | refine awpOps_cons (g_off rfl rfl rfl rfl rfl) ?_ | refine awpOps_cons (g_und rfl rfl rfl) ?_ | refine awpOps_cons (g_on rfl rfl rfl (op_mv rfl (Conv.of rfl) rfl)) ?_ | refine awpOps_cons (g_on rfl rfl rfl (op_mvl rfl rfl rfl rfl)) ?_ | refine awpOps_cons (g_on rfl rfl rfl (op_mvo rfl rfl rfl rfl)) ?_
    all_goals first | refine awpOps_cons (g_off rfl rfl rfl rfl rfl) ?_ | refine awpOps_cons (g_und rfl rfl rfl) ?_ | refine awpOps_cons (g_on rfl rfl rfl (op_sub rfl rfl rfl (by omega))) ?_
    all_goals first | refine awpOps_cons (g_off rfl rfl rfl rfl rfl) ?_ | refine awpOps_cons (g_und rfl rfl rfl) ?_ | refine awpOps_cons (g_on rfl rfl rfl (op_eql rfl rfl rfl)) ?_
    all_goals refine awpOps_cons (op_pick rfl rfl rfl rfl) ?_
    all_goals first | refine awpOps_cons (op_mv rfl (Conv.of rfl) rfl) ?_ | refine awpOps_cons (op_mvl rfl rfl rfl rfl) ?_ | refine awpOps_cons (op_mvo rfl rfl rfl rfl) ?_
    all_goals first | refine g_lit (t := 123) (b := true) rfl ?_ | refine g_lit (t := 123) (b := false) rfl ?_ | refine g_ulit (t := 123) rfl ?_ | refine g_split (t := 123) rfl (fun h => ?_) (fun h => ?_)
    all_goals first | refine awpOps_cons (g_off rfl rfl rfl rfl rfl) ?_ | refine awpOps_cons (g_und rfl rfl rfl) ?_ | refine awpOps_cons (g_on rfl rfl rfl (op_fab f29_1 rfl rfl)) ?_ | refine awpOps_cons (g_on rfl rfl rfl (op_far f29_1 rfl rfl)) ?_ | refine awpOps_cons (g_on rfl rfl rfl (op_fae f29_1 rfl rfl)) ?_
    all_goals first | refine awpOps_cons (g_off rfl rfl rfl rfl rfl) ?_ | refine awpOps_cons (g_und rfl rfl rfl) ?_ | refine awpOps_cons (g_on rfl rfl rfl (op_ld ty26 rfl rfl rfl)) ?_ | refine awpOps_cons (g_on rfl rfl rfl (op_ldr ty26 rfl rfl)) ?_ | refine awpOps_cons (g_on rfl rfl rfl (op_lde ty26 rfl rfl (by assumption) rfl)) ?_ | refine awpOps_cons (g_on rfl rfl rfl (op_ldl ty26 rfl rfl rfl)) ?_ | refine awpOps_cons (g_on rfl rfl rfl (op_ldd ty26 rfl rfl rfl)) ?_ | refine awpOps_cons (g_on rfl rfl rfl (op_ldde ty26 rfl rfl (by assumption) rfl)) ?_
    all_goals first | refine awpOps_cons (g_off rfl rfl rfl rfl rfl) ?_ | refine awpOps_cons (g_und rfl rfl rfl) ?_ | refine awpOps_cons (g_on rfl rfl rfl (op_ix sl26 rfl rfl rfl (by omega) hb0)) ?_ | refine awpOps_cons (g_on rfl rfl rfl (op_ixA sl26 rfl rfl rfl rfl (by omega))) ?_
    all_goals first | refine awpOps_cons (g_off rfl rfl rfl rfl rfl) ?_ | refine awpOps_cons (g_und rfl rfl rfl) ?_ | refine awpOps_cons (g_on rfl rfl rfl (op_ld ty41 rfl rfl rfl)) ?_ | refine awpOps_cons (g_on rfl rfl rfl (op_ldr ty41 rfl rfl)) ?_ | refine awpOps_cons (g_on rfl rfl rfl (op_lde ty41 rfl rfl (by assumption) rfl)) ?_ | refine awpOps_cons (g_on rfl rfl rfl (op_ldl ty41 rfl rfl rfl)) ?_ | refine awpOps_cons (g_on rfl rfl rfl (op_ldd ty41 rfl rfl rfl)) ?_ | refine awpOps_cons (g_on rfl rfl rfl (op_ldde ty41 rfl rfl (by assumption) rfl)) ?_
    all_goals first | refine awpOps_cons (g_off rfl rfl rfl rfl rfl) ?_ | refine awpOps_cons (g_und rfl rfl rfl) ?_ | refine awpOps_cons (g_on rfl rfl rfl (op_call fb32 (.cons rfl (Conv.of rfl) (.nil _)) (hbb) (argOk rfl rfl argOk0) rfl rfl)) ?_
    all_goals first | refine awpOps_cons (g_off rfl rfl rfl rfl rfl) ?_ | refine awpOps_cons (g_und rfl rfl rfl) ?_ | refine awpOps_cons (g_on rfl rfl rfl (op_ix sl61 rfl rfl rfl (by omega) hbk)) ?_ | refine awpOps_cons (g_on rfl rfl rfl (op_ixA sl61 rfl rfl rfl rfl (by omega))) ?_
    all_goals first | refine awpOps_cons (g_off rfl rfl rfl rfl rfl) ?_ | refine awpOps_cons (g_und rfl rfl rfl) ?_ | refine awpOps_cons (g_on rfl rfl rfl (op_ld ty3 rfl rfl rfl)) ?_ | refine awpOps_cons (g_on rfl rfl rfl (op_ldr ty3 rfl rfl)) ?_ | refine awpOps_cons (g_on rfl rfl rfl (op_lde ty3 rfl rfl (by assumption) rfl)) ?_ | refine awpOps_cons (g_on rfl rfl rfl (op_ldl ty3 rfl rfl rfl)) ?_ | refine awpOps_cons (g_on rfl rfl rfl (op_ldd ty3 rfl rfl rfl)) ?_ | refine awpOps_cons (g_on rfl rfl rfl (op_ldde ty3 rfl rfl (by assumption) rfl)) ?_
    all_goals first | refine awpOps_cons (g_off rfl rfl rfl rfl rfl) ?_ | refine awpOps_cons (g_und rfl rfl rfl) ?_ | refine awpOps_cons (g_on rfl rfl rfl (op_mv rfl (Conv.of rfl) rfl)) ?_ | refine awpOps_cons (g_on rfl rfl rfl (op_mvl rfl rfl rfl rfl)) ?_ | refine awpOps_cons (g_on rfl rfl rfl (op_mvo rfl rfl rfl rfl)) ?_
    all_goals first | refine awpOps_cons (g_off rfl rfl rfl rfl rfl) ?_ | refine awpOps_cons (g_und rfl rfl rfl) ?_ | refine awpOps_cons (g_on rfl rfl rfl (op_sub rfl rfl rfl (by omega))) ?_
    all_goals first | refine awpOps_cons (g_off rfl rfl rfl rfl rfl) ?_ | refine awpOps_cons (g_und rfl rfl rfl) ?_ | refine awpOps_cons (g_on rfl rfl rfl (op_sub rfl rfl rfl (by omega))) ?_
    all_goals first | refine awpOps_cons (g_off rfl rfl rfl rfl rfl) ?_ | refine awpOps_cons (g_und rfl rfl rfl) ?_ | refine awpOps_cons (g_on rfl rfl rfl (op_eql rfl rfl rfl)) ?_
    all_goals refine awpOps_cons (op_pick rfl rfl rfl rfl) ?_
    all_goals first | refine awpOps_cons (op_as rfl (Conv.of rfl) rfl) ?_ | refine awpOps_cons (op_asl rfl rfl rfl rfl) ?_ | refine awpOps_cons (op_aso rfl rfl rfl rfl) ?_
    all_goals refine awpOps_nil ?_
    all_goals refine awp_ret ?_
    all_goals refine finP (.v rfl (Conv.of rfl)) rfl ?_
    all_goals (show AV.v _ = AV.v _; simp_all; try omega)
end Go.Proofs.YtmdhfalfppkpeaaGreat

/- The law FnWorldHonest returns true at every input, and leaves its arguments as they were. No condition. -/
set_option linter.unusedVariables false
namespace Go.Proofs.YtmdhfalfppkpeaaGreat.fnWorldHonest
open Go Go.ChangeShapes Go.WideShapes Go.ChangeAt Go.RowKit
theorem own : ownKnob Tryz.prog.godebug = none := by kernel_rfl
theorem laidOut : laidOutB Tryz.prog = true := by kernel_rfl
set_option maxRecDepth 100000 in
theorem lifted (os : Os) (started : os.Started) (H : Type) (enc : TypeId × Value → H) :
    ReturnsInHanded {} Tryz.checked os 6 .any (Rows.fnWorldHonestSpec.pre6 enc Tryz.prog Tryz.f6 Rows.fnWorldHonestRow.domain false) (Rows.fnWorldHonestSpec.post enc Tryz.prog Tryz.f6 false true false false) := by
  refine returnsInHanded_of_change_sized (C := Tryz.checked) own started (by kernel_rfl) Tryz.func6
    (ChangeSpec.witness6 (enc := enc) (C := Tryz.checked) false ⟨#[], #[.slice none 0 0, .slice none 0 0], []⟩ 8 (by kernel_rfl) (by kernel_rfl) (by kernel_rfl) (by kernel_rfl)) ?_
  intro W base args ds gs before hval0 hW hcnd hsz0 _
  have hsz : (DataW.weightsEach Tryz.prog (Tryz.f6.params.toList ++ Rows.fnWorldHonestSpec.plain.varTypes Tryz.prog) (ds ++ gs)).all (· ≤ reachBytes) = true := hsz0
  have hval : ∀ (j : Nat) t v, Tryz.f6.params[j]? = some t → args[j]? = some v → Value.okWide Tryz.prog W .any base t v := hval0
  have hW' := hW
  obtain ⟨p, q, hA0, hV, rfl, hfz, hnd⟩ := hW
  have hA : DataW.TrodAll enc Tryz.prog W 0 (fun _ => true) true Tryz.f6.params.toList args.toList ds p := hA0
  rw [Tryz.params6] at hA hval hsz
  obtain ⟨v0, vs0, d0, ds0, p0, q0, hargs, rfl, rfl, h0, r0⟩ := trodAll_cons hA
  obtain ⟨v1, vs1, d1, ds1, p1, q1, rfl, rfl, rfl, h1, r1⟩ := trodAll_cons r0
  obtain ⟨rfl, rfl, rfl⟩ := trodAll_nil r1
  obtain rfl : args = #[v0, v1] := by cases args; simp_all
  obtain ⟨rfl, rfl⟩ := trodVars_none hV
  obtain ⟨a0, len0, cap0, rfl⟩ := okWide_slice Tryz.underlying22 (hval 0 22 v0 rfl rfl)
  have k0 := h0
  have lt0 : ∀ x ∈ p0, x.block < W.heap.size := by obtain ⟨m, hm⟩ := k0; exact DataW.trod_lt m _ _ _ hm
  obtain ⟨z0, w0⟩ := Go.Wt.rowOf (fun _ => rfl) Tryz.underlying22 Tryz.underlying5 (by kernel_rfl) h0
  have y0 := Go.Wt.lenOf hsz (j := 0) (t := 22) rfl rfl Tryz.underlying22 Tryz.underlying5 (by kernel_rfl) (by kernel_rfl) h0
  obtain ⟨a1, len1, cap1, rfl⟩ := okWide_slice Tryz.underlying22 (hval 1 22 v1 rfl rfl)
  have k1 := h1
  have lt1 : ∀ x ∈ p1, x.block < W.heap.size := by obtain ⟨m, hm⟩ := k1; exact DataW.trod_lt m _ _ _ hm
  obtain ⟨z1, w1⟩ := Go.Wt.rowOf (fun _ => rfl) Tryz.underlying22 Tryz.underlying5 (by kernel_rfl) h1
  have y1 := Go.Wt.lenOf hsz (j := 1) (t := 22) rfl rfl Tryz.underlying22 Tryz.underlying5 (by kernel_rfl) (by kernel_rfl) h1
  clear hA0 hval0 hsz0 hsz
  refine (Go.Wt.row2 FnWorldHonest_ct W w0 y0 w1 y1).mono fun e W' ⟨he, bel⟩ => ?_
  subst he
  exact ⟨_, rfl, _, _, _, [], _, [], hW', trodAll_mk1 (shut_bool Tryz.underlying4 _), (trodAll_cons_mk (Below.trod laidOut (by kernel_rfl) (of_decide_eq_true (by kernel_rfl)) k0 bel lt0) (trodAll_cons_mk (Below.trod laidOut (by kernel_rfl) (of_decide_eq_true (by kernel_rfl)) k1 bel lt1) trodAll_mk0)), rfl, bel.frame _, fun h => by cases h⟩
theorem over : Rows.fnWorldHonestRow.holds Tryz.pinned (OpenSpec.ofChange Rows.fnWorldHonestSpec) :=
  OpenClaim.holds_of_wide 6 Tryz.f6 rfl rfl rfl rfl rfl rfl rfl ⟨rfl, rfl, rfl, rfl, rfl⟩ rfl rfl rfl rfl rfl (by kernel_rfl) Tryz.func6 (by kernel_rfl)
    (of_decide_eq_true (by kernel_rfl)) (by unfold Func.isWrapper; first | (rw [if_pos (by decide +kernel)]; kernel_rfl) | (rw [if_neg (by decide +kernel)]; exact ⟨rfl, rfl⟩))
    (fun os started H enc _ => lifted os started H enc)
end Go.Proofs.YtmdhfalfppkpeaaGreat.fnWorldHonest
namespace Go.Proofs.YtmdhfalfppkpeaaGreat
theorem fnWorldHonest_holds : Rows.FnWorldHonestSaid := fnWorldHonest.over
#print axioms fnWorldHonest_holds
end Go.Proofs.YtmdhfalfppkpeaaGreat
