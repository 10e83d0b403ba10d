/- Part 5 of the proof: texts one behind the other. -/
import Derived.Test.YtompnmkpgffhkaaGreatM4
/- The program's words for outsiders. -/
set_option linter.unusedVariables false
set_option linter.unusedSimpArgs false
namespace Go.Proofs.YtompnmkpgffhkaaGreat
open Go Go.Wt
theorem gdOf {l : List Vote} (ho : votesOk l = true) (hl : l.length ≤ 1000) : Gd l := ⟨hl, votesOk_mem ho⟩
theorem treeLong_ct (l : List Vote) (ho : votesOk l = true) (hl : l.length ≤ 1000) : CtP Tryz.prog 36 [.v l] (.v ((tipOf l).length : Int)) := by
  have hg := gdOf ho hl
  refine Ct.intro Tryz.func36 rfl rfl ?_
  all_goals first | refine awp_seq (awp_region (id := 0) ?_) | refine awp_seq (awp_seq (awp_region (id := 0) ?_)) | refine awp_region (id := 0) ?_ | refine awp_seq (awp_seq (awp_seq (awp_region (id := 0) ?_)))
  all_goals refine awpOps_cons (op_as rfl (Conv.of rfl) rfl) ?_
  all_goals refine awpOps_nil ?_
  all_goals first | refine awp_seq (awp_region (id := 1) ?_) | refine awp_seq (awp_seq (awp_region (id := 1) ?_)) | refine awp_region (id := 1) ?_ | refine awp_seq (awp_seq (awp_seq (awp_region (id := 1) ?_)))
  all_goals first | refine awpOps_cons (op_mv rfl (Conv.of rfl) rfl) ?_ | refine awpOps_cons (op_mvl rfl rfl rfl rfl) ?_ | refine awpOps_cons (op_mvo rfl rfl rfl rfl) ?_
  all_goals refine awpOps_cons (op_call fb55 (.cons rfl (Conv.of rfl) (.nil _)) (votesOk_ct _) (argOk rfl rfl argOk0) rfl rfl) ?_
  all_goals refine awpOps_cons (op_not rfl rfl) ?_
  all_goals refine awpOps_nil ?_
  first | refine awp_seq (awp_cond rfl (fun h => absurd (not_t h) (by rw [ho]; decide)) (fun h => ?_)) | refine awp_seq (awp_seq (awp_cond rfl (fun h => absurd (not_t h) (by rw [ho]; decide)) (fun h => ?_))) | refine awp_cond rfl (fun h => absurd (not_t h) (by rw [ho]; decide)) (fun h => ?_) | refine awp_seq (awp_seq (awp_seq (awp_cond rfl (fun h => absurd (not_t h) (by rw [ho]; decide)) (fun h => ?_))))
  refine awp_skip ?_
  all_goals first | refine awp_seq (awp_region (id := 3) ?_) | refine awp_seq (awp_seq (awp_region (id := 3) ?_)) | refine awp_region (id := 3) ?_ | refine awp_seq (awp_seq (awp_seq (awp_region (id := 3) ?_)))
  all_goals first | refine awpOps_cons (op_mv rfl (Conv.of rfl) rfl) ?_ | refine awpOps_cons (op_mvl rfl rfl rfl rfl) ?_ | refine awpOps_cons (op_mvo rfl rfl rfl rfl) ?_
  all_goals refine awpOps_cons (op_call fb75 (.cons rfl (Conv.of rfl) (.nil _)) (tip_ct _ hg.l hg.v) (argOk rfl rfl argOk0) rfl rfl) ?_
  all_goals first | refine awpOps_cons (op_len sl35 rfl rfl) ?_ | refine awpOps_cons (op_lenA sl35 rfl rfl rfl) ?_
  all_goals first | refine awpOps_cons (op_as rfl (Conv.of rfl) rfl) ?_ | refine awpOps_cons (op_asl rfl rfl rfl rfl) ?_ | refine awpOps_cons (op_aso rfl rfl rfl rfl) ?_
  all_goals refine awpOps_nil ?_
  refine awp_ret ?_
  repeat first | refine rt_seq ?_ | refine rt_block ?_
  exact finP (.v rfl (Conv.of rfl)) rfl rfl
theorem treeFinal_ct (l : List Vote) (ho : votesOk l = true) (hl : l.length ≤ 1000) : CtP Tryz.prog 20 [.v l] (.v (CList.mk (finalOf l))) := by
  have hg := gdOf ho hl
  refine Ct.intro Tryz.func20 rfl rfl ?_
  all_goals first | refine awp_seq (awp_region (id := 0) ?_) | refine awp_seq (awp_seq (awp_region (id := 0) ?_)) | refine awp_region (id := 0) ?_ | refine awp_seq (awp_seq (awp_seq (awp_region (id := 0) ?_)))
  all_goals refine awpOps_cons (op_as rfl (Conv.of rfl) rfl) ?_
  all_goals refine awpOps_nil ?_
  all_goals first | refine awp_seq (awp_region (id := 1) ?_) | refine awp_seq (awp_seq (awp_region (id := 1) ?_)) | refine awp_region (id := 1) ?_ | refine awp_seq (awp_seq (awp_seq (awp_region (id := 1) ?_)))
  all_goals first | refine awpOps_cons (op_mv rfl (Conv.of rfl) rfl) ?_ | refine awpOps_cons (op_mvl rfl rfl rfl rfl) ?_ | refine awpOps_cons (op_mvo rfl rfl rfl rfl) ?_
  all_goals refine awpOps_cons (op_call fb55 (.cons rfl (Conv.of rfl) (.nil _)) (votesOk_ct _) (argOk rfl rfl argOk0) rfl rfl) ?_
  all_goals refine awpOps_cons (op_not rfl rfl) ?_
  all_goals refine awpOps_nil ?_
  first | refine awp_seq (awp_cond rfl (fun h => absurd (not_t h) (by rw [ho]; decide)) (fun h => ?_)) | refine awp_seq (awp_seq (awp_cond rfl (fun h => absurd (not_t h) (by rw [ho]; decide)) (fun h => ?_))) | refine awp_cond rfl (fun h => absurd (not_t h) (by rw [ho]; decide)) (fun h => ?_) | refine awp_seq (awp_seq (awp_seq (awp_cond rfl (fun h => absurd (not_t h) (by rw [ho]; decide)) (fun h => ?_))))
  refine awp_skip ?_
  all_goals first | refine awp_seq (awp_region (id := 3) ?_) | refine awp_seq (awp_seq (awp_region (id := 3) ?_)) | refine awp_region (id := 3) ?_ | refine awp_seq (awp_seq (awp_seq (awp_region (id := 3) ?_)))
  all_goals first | refine awpOps_cons (op_mv rfl (Conv.of rfl) rfl) ?_ | refine awpOps_cons (op_mvl rfl rfl rfl rfl) ?_ | refine awpOps_cons (op_mvo rfl rfl rfl rfl) ?_
  all_goals refine awpOps_cons (op_call fb60 (.cons rfl (Conv.of rfl) (.nil _)) (vfinal_ct _ hg.l hg.v hg.e) (argOk rfl rfl argOk0) rfl rfl) ?_
  all_goals first | refine awpOps_cons (op_as rfl (Conv.of rfl) rfl) ?_ | refine awpOps_cons (op_asl rfl rfl rfl rfl) ?_ | refine awpOps_cons (op_aso rfl rfl rfl rfl) ?_
  all_goals refine awpOps_nil ?_
  refine awp_ret ?_
  repeat first | refine rt_seq ?_ | refine rt_block ?_
  exact finP (.v rfl (Conv.of rfl)) rfl rfl
theorem begins_ct (a b : List Itm) : CtP Tryz.prog 62 [.v a, .v b] (.v (inS a b)) := by
  refine Ct.intro Tryz.func62 rfl rfl ?_
  all_goals first | refine awp_seq (awp_region (id := 0) ?_) | refine awp_seq (awp_seq (awp_region (id := 0) ?_)) | refine awp_region (id := 0) ?_ | refine awp_seq (awp_seq (awp_seq (awp_region (id := 0) ?_)))
  all_goals refine awpOps_cons (op_as rfl (Conv.of rfl) rfl) ?_
  all_goals refine awpOps_nil ?_
  all_goals first | refine awp_seq (awp_region (id := 1) ?_) | refine awp_seq (awp_seq (awp_region (id := 1) ?_)) | refine awp_region (id := 1) ?_ | refine awp_seq (awp_seq (awp_seq (awp_region (id := 1) ?_)))
  all_goals first | refine awpOps_cons (op_mv rfl (Conv.of rfl) rfl) ?_ | refine awpOps_cons (op_mvl rfl rfl rfl rfl) ?_ | refine awpOps_cons (op_mvo rfl rfl rfl rfl) ?_
  all_goals first | refine awpOps_cons (op_len sl35 rfl rfl) ?_ | refine awpOps_cons (op_lenA sl35 rfl rfl rfl) ?_
  all_goals first | refine awpOps_cons (op_mv rfl (Conv.of rfl) rfl) ?_ | refine awpOps_cons (op_mvl rfl rfl rfl rfl) ?_ | refine awpOps_cons (op_mvo rfl rfl rfl rfl) ?_
  all_goals first | refine awpOps_cons (op_len sl35 rfl rfl) ?_ | refine awpOps_cons (op_lenA sl35 rfl rfl rfl) ?_
  all_goals refine awpOps_cons (op_leq rfl rfl rfl) ?_
  all_goals first | refine awpOps_cons (op_mv rfl (Conv.of rfl) rfl) ?_ | refine awpOps_cons (op_mvl rfl rfl rfl rfl) ?_ | refine awpOps_cons (op_mvo rfl rfl rfl rfl) ?_
  all_goals first | refine g_lit (t := 10) (b := true) rfl ?_ | refine g_lit (t := 10) (b := false) rfl ?_ | refine g_ulit (t := 10) rfl ?_ | refine g_split (t := 10) rfl (fun h => ?_) (fun h => ?_)
  all_goals first | refine awpOps_cons (g_off rfl rfl rfl rfl rfl) ?_ | refine awpOps_cons (g_und rfl rfl rfl) ?_ | refine awpOps_cons (g_on rfl rfl rfl (op_mv rfl (Conv.of rfl) rfl)) ?_ | refine awpOps_cons (g_on rfl rfl rfl (op_mvl rfl rfl rfl rfl)) ?_ | refine awpOps_cons (g_on rfl rfl rfl (op_mvo rfl rfl rfl rfl)) ?_
  all_goals first | refine awpOps_cons (g_off rfl rfl rfl rfl rfl) ?_ | refine awpOps_cons (g_und rfl rfl rfl) ?_ | refine awpOps_cons (g_on rfl rfl rfl (op_mv rfl (Conv.of rfl) rfl)) ?_ | refine awpOps_cons (g_on rfl rfl rfl (op_mvl rfl rfl rfl rfl)) ?_ | refine awpOps_cons (g_on rfl rfl rfl (op_mvo rfl rfl rfl rfl)) ?_
  all_goals first | refine awpOps_cons (g_off rfl rfl rfl rfl rfl) ?_ | refine awpOps_cons (g_und rfl rfl rfl) ?_ | refine awpOps_cons (g_on rfl rfl rfl (op_mv rfl (Conv.of rfl) rfl)) ?_ | refine awpOps_cons (g_on rfl rfl rfl (op_mvl rfl rfl rfl rfl)) ?_ | refine awpOps_cons (g_on rfl rfl rfl (op_mvo rfl rfl rfl rfl)) ?_
  all_goals first | refine awpOps_cons (g_off rfl rfl rfl rfl rfl) ?_ | refine awpOps_cons (g_und rfl rfl rfl) ?_ | refine awpOps_cons (g_on rfl rfl rfl (op_len sl35 rfl rfl)) ?_ | refine awpOps_cons (g_on rfl rfl rfl (op_lenA sl35 rfl rfl rfl)) ?_
  all_goals first | refine awpOps_cons (g_off rfl rfl rfl rfl rfl) ?_ | refine awpOps_cons (g_und rfl rfl rfl) ?_ | refine awpOps_cons (g_on rfl rfl rfl (op_slh sl35 rfl rfl rfl ⟨by omega, by (have := of_decide_eq_true h; simp_all)⟩)) ?_
  all_goals first | refine awpOps_cons (g_off rfl rfl rfl rfl rfl) ?_ | refine awpOps_cons (g_und rfl rfl rfl) ?_ | refine awpOps_cons (g_on rfl rfl rfl (op_call fb116 (.cons rfl (Conv.of rfl) (.cons rfl (Conv.of rfl) (.nil _))) (equal_ct _ _) (argOk rfl rfl (argOk rfl rfl argOk0)) rfl rfl)) ?_
  all_goals refine awpOps_cons (op_pick rfl rfl rfl rfl) ?_
  all_goals first | refine awpOps_cons (op_as rfl (Conv.of rfl) rfl) ?_ | refine awpOps_cons (op_asl rfl rfl rfl rfl) ?_ | refine awpOps_cons (op_aso rfl rfl rfl rfl) ?_
  all_goals refine awpOps_nil ?_
  all_goals refine awp_ret ?_
  all_goals refine finP (.v rfl (Conv.of rfl)) rfl ?_
  all_goals (show AV.v _ = AV.v _; congr 1; unfold inS; simp_all; try (intro hh; omega))
theorem chainIn_ct (a b : List Itm) : CtP Tryz.prog 21 [.v a, .v b] (.v (chIn a b)) := by
  refine Ct.intro Tryz.func21 rfl rfl ?_
  all_goals first | refine awp_seq (awp_region (id := 0) ?_) | refine awp_seq (awp_seq (awp_region (id := 0) ?_)) | refine awp_region (id := 0) ?_ | refine awp_seq (awp_seq (awp_seq (awp_region (id := 0) ?_)))
  all_goals refine awpOps_cons (op_as rfl (Conv.of rfl) rfl) ?_
  all_goals refine awpOps_nil ?_
  all_goals first | refine awp_seq (awp_region (id := 1) ?_) | refine awp_seq (awp_seq (awp_region (id := 1) ?_)) | refine awp_region (id := 1) ?_ | refine awp_seq (awp_seq (awp_seq (awp_region (id := 1) ?_)))
  all_goals first | refine awpOps_cons (op_mv rfl (Conv.of rfl) rfl) ?_ | refine awpOps_cons (op_mvl rfl rfl rfl rfl) ?_ | refine awpOps_cons (op_mvo rfl rfl rfl rfl) ?_
  all_goals refine awpOps_cons (op_call fb61 (.cons rfl (Conv.of rfl) (.nil _)) (chainOk_ct _) (argOk rfl rfl argOk0) rfl rfl) ?_
  all_goals first | refine awpOps_cons (op_mv rfl (Conv.of rfl) rfl) ?_ | refine awpOps_cons (op_mvl rfl rfl rfl rfl) ?_ | refine awpOps_cons (op_mvo rfl rfl rfl rfl) ?_
  all_goals first | refine g_lit (t := 7) (b := true) rfl ?_ | refine g_lit (t := 7) (b := false) rfl ?_ | refine g_ulit (t := 7) rfl ?_ | refine g_split (t := 7) rfl (fun h => ?_) (fun h => ?_)
  all_goals first | refine awpOps_cons (g_off rfl rfl rfl rfl rfl) ?_ | refine awpOps_cons (g_und rfl rfl rfl) ?_ | refine awpOps_cons (g_on rfl rfl rfl (op_mv rfl (Conv.of rfl) rfl)) ?_ | refine awpOps_cons (g_on rfl rfl rfl (op_mvl rfl rfl rfl rfl)) ?_ | refine awpOps_cons (g_on rfl rfl rfl (op_mvo rfl rfl rfl rfl)) ?_
  all_goals first | refine awpOps_cons (g_off rfl rfl rfl rfl rfl) ?_ | refine awpOps_cons (g_und rfl rfl rfl) ?_ | refine awpOps_cons (g_on rfl rfl rfl (op_call fb61 (.cons rfl (Conv.of rfl) (.nil _)) (chainOk_ct _) (argOk rfl rfl argOk0) rfl rfl)) ?_
  all_goals refine awpOps_cons (op_pick rfl rfl rfl rfl) ?_
  all_goals first | refine awpOps_cons (op_mv rfl (Conv.of rfl) rfl) ?_ | refine awpOps_cons (op_mvl rfl rfl rfl rfl) ?_ | refine awpOps_cons (op_mvo rfl rfl rfl rfl) ?_
  all_goals first | refine g_lit (t := 11) (b := true) rfl ?_ | refine g_lit (t := 11) (b := false) rfl ?_ | refine g_ulit (t := 11) rfl ?_ | refine g_split (t := 11) rfl (fun h => ?_) (fun h => ?_)
  all_goals first | refine awpOps_cons (g_off rfl rfl rfl rfl rfl) ?_ | refine awpOps_cons (g_und rfl rfl rfl) ?_ | refine awpOps_cons (g_on rfl rfl rfl (op_mv rfl (Conv.of rfl) rfl)) ?_ | refine awpOps_cons (g_on rfl rfl rfl (op_mvl rfl rfl rfl rfl)) ?_ | refine awpOps_cons (g_on rfl rfl rfl (op_mvo rfl rfl rfl rfl)) ?_
  all_goals first | refine awpOps_cons (g_off rfl rfl rfl rfl rfl) ?_ | refine awpOps_cons (g_und rfl rfl rfl) ?_ | refine awpOps_cons (g_on rfl rfl rfl (op_mv rfl (Conv.of rfl) rfl)) ?_ | refine awpOps_cons (g_on rfl rfl rfl (op_mvl rfl rfl rfl rfl)) ?_ | refine awpOps_cons (g_on rfl rfl rfl (op_mvo rfl rfl rfl rfl)) ?_
  all_goals first | refine awpOps_cons (g_off rfl rfl rfl rfl rfl) ?_ | refine awpOps_cons (g_und rfl rfl rfl) ?_ | refine awpOps_cons (g_on rfl rfl rfl (op_call fb62 (.cons rfl (Conv.of rfl) (.cons rfl (Conv.of rfl) (.nil _))) (begins_ct _ _) (argOk rfl rfl (argOk rfl rfl argOk0)) rfl rfl)) ?_
  all_goals refine awpOps_cons (op_pick rfl rfl rfl rfl) ?_
  all_goals first | refine awpOps_cons (op_as rfl (Conv.of rfl) rfl) ?_ | refine awpOps_cons (op_asl rfl rfl rfl rfl) ?_ | refine awpOps_cons (op_aso rfl rfl rfl rfl) ?_
  all_goals refine awpOps_nil ?_
  all_goals refine awp_ret ?_
  all_goals refine finP (.v rfl (Conv.of rfl)) rfl ?_
  all_goals (show AV.v _ = AV.v _; congr 1; unfold chIn; simp_all)
theorem lwFits_ct (a b : List Itm) : CtP Tryz.prog 32 [.v a, .v b] (.v (fitsB a b)) := by
  refine Ct.intro Tryz.func32 rfl rfl ?_
  all_goals first | refine awp_seq (awp_region (id := 0) ?_) | refine awp_seq (awp_seq (awp_region (id := 0) ?_)) | refine awp_region (id := 0) ?_ | refine awp_seq (awp_seq (awp_seq (awp_region (id := 0) ?_)))
  all_goals refine awpOps_cons (op_as rfl (Conv.of rfl) rfl) ?_
  all_goals refine awpOps_nil ?_
  all_goals first | refine awp_seq (awp_region (id := 1) ?_) | refine awp_seq (awp_seq (awp_region (id := 1) ?_)) | refine awp_region (id := 1) ?_ | refine awp_seq (awp_seq (awp_seq (awp_region (id := 1) ?_)))
  all_goals first | refine awpOps_cons (op_mv rfl (Conv.of rfl) rfl) ?_ | refine awpOps_cons (op_mvl rfl rfl rfl rfl) ?_ | refine awpOps_cons (op_mvo rfl rfl rfl rfl) ?_
  all_goals first | refine awpOps_cons (op_mv rfl (Conv.of rfl) rfl) ?_ | refine awpOps_cons (op_mvl rfl rfl rfl rfl) ?_ | refine awpOps_cons (op_mvo rfl rfl rfl rfl) ?_
  all_goals refine awpOps_cons (op_call fb21 (.cons rfl (Conv.of rfl) (.cons rfl (Conv.of rfl) (.nil _))) (chainIn_ct _ _) (argOk rfl rfl (argOk rfl rfl argOk0)) rfl rfl) ?_
  all_goals first | refine awpOps_cons (op_mv rfl (Conv.of rfl) rfl) ?_ | refine awpOps_cons (op_mvl rfl rfl rfl rfl) ?_ | refine awpOps_cons (op_mvo rfl rfl rfl rfl) ?_
  all_goals first | refine g_lit (t := 8) (b := true) rfl ?_ | refine g_lit (t := 8) (b := false) rfl ?_ | refine g_ulit (t := 8) rfl ?_ | refine g_split (t := 8) rfl (fun h => ?_) (fun h => ?_)
  all_goals first | refine awpOps_cons (g_off rfl rfl rfl rfl rfl) ?_ | refine awpOps_cons (g_und rfl rfl rfl) ?_ | refine awpOps_cons (g_on rfl rfl rfl (op_mv rfl (Conv.of rfl) rfl)) ?_ | refine awpOps_cons (g_on rfl rfl rfl (op_mvl rfl rfl rfl rfl)) ?_ | refine awpOps_cons (g_on rfl rfl rfl (op_mvo rfl rfl rfl rfl)) ?_
  all_goals first | refine awpOps_cons (g_off rfl rfl rfl rfl rfl) ?_ | refine awpOps_cons (g_und rfl rfl rfl) ?_ | refine awpOps_cons (g_on rfl rfl rfl (op_mv rfl (Conv.of rfl) rfl)) ?_ | refine awpOps_cons (g_on rfl rfl rfl (op_mvl rfl rfl rfl rfl)) ?_ | refine awpOps_cons (g_on rfl rfl rfl (op_mvo rfl rfl rfl rfl)) ?_
  all_goals first | refine awpOps_cons (g_off rfl rfl rfl rfl rfl) ?_ | refine awpOps_cons (g_und rfl rfl rfl) ?_ | refine awpOps_cons (g_on rfl rfl rfl (op_call fb21 (.cons rfl (Conv.of rfl) (.cons rfl (Conv.of rfl) (.nil _))) (chainIn_ct _ _) (argOk rfl rfl (argOk rfl rfl argOk0)) rfl rfl)) ?_
  all_goals refine awpOps_cons (op_pick rfl rfl rfl rfl) ?_
  all_goals first | refine awpOps_cons (op_as rfl (Conv.of rfl) rfl) ?_ | refine awpOps_cons (op_asl rfl rfl rfl rfl) ?_ | refine awpOps_cons (op_aso rfl rfl rfl rfl) ?_
  all_goals refine awpOps_nil ?_
  all_goals refine awp_ret ?_
  all_goals refine finP (.v rfl (Conv.of rfl)) rfl ?_
  all_goals (show AV.v _ = AV.v _; congr 1; unfold fitsB; simp_all)
set_option maxHeartbeats 1000000 in
theorem lwAgreed_ct (w : Wrld) (hI : Inv w) : CtP Tryz.prog 18 [.v w] (.v true) := by
  have h4 := hI.ok.four
  refine Ct.intro Tryz.func18 rfl rfl ?_
  all_goals first | refine awp_seq (awp_region (id := 0) ?_) | refine awp_seq (awp_seq (awp_region (id := 0) ?_)) | refine awp_region (id := 0) ?_ | refine awp_seq (awp_seq (awp_seq (awp_region (id := 0) ?_)))
  all_goals first | refine awpOps_cons (op_box (o := 0) ty29 rfl (Conv.of rfl) rfl rfl) ?_ | refine awpOps_cons (op_boxm (o := 0) ty29 rfl rfl rfl rfl) ?_
  all_goals refine awpOps_cons (op_as rfl (Conv.of rfl) rfl) ?_
  all_goals refine awpOps_nil ?_
  all_goals first | refine awp_seq (awp_region (id := 1) ?_) | refine awp_seq (awp_seq (awp_region (id := 1) ?_)) | refine awp_region (id := 1) ?_ | refine awp_seq (awp_seq (awp_seq (awp_region (id := 1) ?_)))
  all_goals refine awpOps_cons (op_as rfl (Conv.of rfl) rfl) ?_
  all_goals refine awpOps_nil ?_
  first | refine awp_seq (awp_block ?_) | refine awp_seq (awp_seq (awp_block ?_)) | refine awp_block ?_ | refine awp_seq (awp_seq (awp_seq (awp_block ?_)))
  first | refine awp_seq (awp_loop' (fun n_ s => ∃ (i : Nat), ∃ (hn : n_ + i = 4), s = mkSt 47 [(1, .box 0 (IsLens.whole Wrld)), (3, .v (i : Int))] [(0, .cell w)]) (4) ⟨0, by omega, rfl⟩ (Le.mk rfl (tlb rfl rfl rfl (tle rfl (rfl) rfl tln)) (olk rfl (by first | exact obOk_cell | exact obOk_arr | exact obOkW rfl | exact obOkW0 | exact obOkN | exact obOkS rfl | exact obOkNs | exact obOkS0 | trivial) oln) noS) ?_) | refine awp_seq (awp_seq (awp_loop' (fun n_ s => ∃ (i : Nat), ∃ (hn : n_ + i = 4), s = mkSt 47 [(1, .box 0 (IsLens.whole Wrld)), (3, .v (i : Int))] [(0, .cell w)]) (4) ⟨0, by omega, rfl⟩ (Le.mk rfl (tlb rfl rfl rfl (tle rfl (rfl) rfl tln)) (olk rfl (by first | exact obOk_cell | exact obOk_arr | exact obOkW rfl | exact obOkW0 | exact obOkN | exact obOkS rfl | exact obOkNs | exact obOkS0 | trivial) oln) noS) ?_)) | refine awp_loop' (fun n_ s => ∃ (i : Nat), ∃ (hn : n_ + i = 4), s = mkSt 47 [(1, .box 0 (IsLens.whole Wrld)), (3, .v (i : Int))] [(0, .cell w)]) (4) ⟨0, by omega, rfl⟩ (Le.mk rfl (tlb rfl rfl rfl (tle rfl (rfl) rfl tln)) (olk rfl (by first | exact obOk_cell | exact obOk_arr | exact obOkW rfl | exact obOkW0 | exact obOkN | exact obOkS rfl | exact obOkNs | exact obOkS0 | trivial) oln) noS) ?_ | refine awp_seq (awp_seq (awp_seq (awp_loop' (fun n_ s => ∃ (i : Nat), ∃ (hn : n_ + i = 4), s = mkSt 47 [(1, .box 0 (IsLens.whole Wrld)), (3, .v (i : Int))] [(0, .cell w)]) (4) ⟨0, by omega, rfl⟩ (Le.mk rfl (tlb rfl rfl rfl (tle rfl (rfl) rfl tln)) (olk rfl (by first | exact obOk_cell | exact obOk_arr | exact obOkW rfl | exact obOkW0 | exact obOkN | exact obOkS rfl | exact obOkNs | exact obOkS0 | trivial) oln) noS) ?_)))
  rintro n_ s ⟨i, hn, rfl⟩
  all_goals first | refine awp_seq (awp_region (id := 2) ?_) | refine awp_seq (awp_seq (awp_region (id := 2) ?_)) | refine awp_region (id := 2) ?_ | refine awp_seq (awp_seq (awp_seq (awp_region (id := 2) ?_)))
  all_goals first | refine awpOps_cons (op_mv rfl (Conv.of rfl) rfl) ?_ | refine awpOps_cons (op_mvl rfl rfl rfl rfl) ?_ | refine awpOps_cons (op_mvo rfl rfl rfl rfl) ?_
  all_goals first | refine awpOps_cons (op_fab f29_1 rfl rfl) ?_ | refine awpOps_cons (op_far f29_1 rfl rfl) ?_ | refine awpOps_cons (op_fae f29_1 rfl rfl) ?_
  all_goals first | refine awpOps_cons (op_ld ty26 rfl rfl rfl) ?_ | refine awpOps_cons (op_ldr ty26 rfl rfl) ?_ | refine awpOps_cons (op_lde ty26 rfl rfl (by assumption) rfl) ?_ | refine awpOps_cons (op_ldl ty26 rfl rfl rfl) ?_ | refine awpOps_cons (op_ldd ty26 rfl rfl rfl) ?_ | refine awpOps_cons (op_ldde ty26 rfl rfl (by assumption) rfl) ?_
  all_goals first | refine awpOps_cons (op_len sl26 rfl rfl) ?_ | refine awpOps_cons (op_lenA sl26 rfl rfl rfl) ?_
  all_goals refine awpOps_cons (op_lss rfl rfl rfl) ?_
  all_goals refine awpOps_nil ?_
  first | refine awp_seq (awp_cond rfl (fun h => ?_) (fun h => ?_)) | refine awp_seq (awp_seq (awp_cond rfl (fun h => ?_) (fun h => ?_))) | refine awp_cond rfl (fun h => ?_) (fun h => ?_) | refine awp_seq (awp_seq (awp_seq (awp_cond rfl (fun h => ?_) (fun h => ?_))))
  · have hi : i < w.nodes.length := by simpa using h
    have hx : w.nodes[i]? = some w.nodes[i] := List.getElem?_eq_getElem hi
    generalize w.nodes[i] = a at hx
    have ha := nodeOk_seen (hI.ok.nodes a (List.mem_of_getElem? hx))
    refine awp_skip ?_
    first | refine awp_seq (awp_block ?_) | refine awp_seq (awp_seq (awp_block ?_)) | refine awp_block ?_ | refine awp_seq (awp_seq (awp_seq (awp_block ?_)))
    all_goals first | refine awp_seq (awp_region (id := 4) ?_) | refine awp_seq (awp_seq (awp_region (id := 4) ?_)) | refine awp_region (id := 4) ?_ | refine awp_seq (awp_seq (awp_seq (awp_region (id := 4) ?_)))
    all_goals refine awpOps_cons (op_as rfl (Conv.of rfl) rfl) ?_
    all_goals refine awpOps_nil ?_
    first | refine awp_seq (awp_seq (awp_seq (awp_seq_to (s' := mkSt 47 [(1, .box 0 (IsLens.whole Wrld)), (3, .v (i : Int))] [(0, .cell w)]) ?_ ?_))) | refine awp_seq (awp_seq (awp_seq_to (s' := mkSt 47 [(1, .box 0 (IsLens.whole Wrld)), (3, .v (i : Int))] [(0, .cell w)]) ?_ ?_)) | refine awp_seq (awp_seq_to (s' := mkSt 47 [(1, .box 0 (IsLens.whole Wrld)), (3, .v (i : Int))] [(0, .cell w)]) ?_ ?_) | refine awp_seq_to (s' := mkSt 47 [(1, .box 0 (IsLens.whole Wrld)), (3, .v (i : Int))] [(0, .cell w)]) ?_ ?_ | refine awp_toB (s' := mkSt 47 [(1, .box 0 (IsLens.whole Wrld)), (3, .v (i : Int))] [(0, .cell w)]) ?_ ?_ | refine awp_to (s' := mkSt 47 [(1, .box 0 (IsLens.whole Wrld)), (3, .v (i : Int))] [(0, .cell w)]) ?_ ?_
    · first | refine awp_seq (awp_block ?_) | refine awp_seq (awp_seq (awp_block ?_)) | refine awp_block ?_ | refine awp_seq (awp_seq (awp_seq (awp_block ?_)))
      first | refine awp_seq (awp_loop' (fun n_ s => ∃ (k : Nat), ∃ (hk : n_ + k = i), s = mkSt 47 [(1, .box 0 (IsLens.whole Wrld)), (3, .v (i : Int)), (4, .v (k : Int))] [(0, .cell w)]) (i) ⟨0, by omega, rfl⟩ (Le.mk rfl (tlb rfl rfl rfl (tle rfl (rfl) rfl (tle rfl (rfl) rfl tln))) (olk rfl (by first | exact obOk_cell | exact obOk_arr | exact obOkW rfl | exact obOkW0 | exact obOkN | exact obOkS rfl | exact obOkNs | exact obOkS0 | trivial) oln) noS) ?_) | refine awp_seq (awp_seq (awp_loop' (fun n_ s => ∃ (k : Nat), ∃ (hk : n_ + k = i), s = mkSt 47 [(1, .box 0 (IsLens.whole Wrld)), (3, .v (i : Int)), (4, .v (k : Int))] [(0, .cell w)]) (i) ⟨0, by omega, rfl⟩ (Le.mk rfl (tlb rfl rfl rfl (tle rfl (rfl) rfl (tle rfl (rfl) rfl tln))) (olk rfl (by first | exact obOk_cell | exact obOk_arr | exact obOkW rfl | exact obOkW0 | exact obOkN | exact obOkS rfl | exact obOkNs | exact obOkS0 | trivial) oln) noS) ?_)) | refine awp_loop' (fun n_ s => ∃ (k : Nat), ∃ (hk : n_ + k = i), s = mkSt 47 [(1, .box 0 (IsLens.whole Wrld)), (3, .v (i : Int)), (4, .v (k : Int))] [(0, .cell w)]) (i) ⟨0, by omega, rfl⟩ (Le.mk rfl (tlb rfl rfl rfl (tle rfl (rfl) rfl (tle rfl (rfl) rfl tln))) (olk rfl (by first | exact obOk_cell | exact obOk_arr | exact obOkW rfl | exact obOkW0 | exact obOkN | exact obOkS rfl | exact obOkNs | exact obOkS0 | trivial) oln) noS) ?_ | refine awp_seq (awp_seq (awp_seq (awp_loop' (fun n_ s => ∃ (k : Nat), ∃ (hk : n_ + k = i), s = mkSt 47 [(1, .box 0 (IsLens.whole Wrld)), (3, .v (i : Int)), (4, .v (k : Int))] [(0, .cell w)]) (i) ⟨0, by omega, rfl⟩ (Le.mk rfl (tlb rfl rfl rfl (tle rfl (rfl) rfl (tle rfl (rfl) rfl tln))) (olk rfl (by first | exact obOk_cell | exact obOk_arr | exact obOkW rfl | exact obOkW0 | exact obOkN | exact obOkS rfl | exact obOkNs | exact obOkS0 | trivial) oln) noS) ?_)))
      rintro n_ s ⟨k, hk, rfl⟩
      all_goals first | refine awp_seq (awp_region (id := 5) ?_) | refine awp_seq (awp_seq (awp_region (id := 5) ?_)) | refine awp_region (id := 5) ?_ | refine awp_seq (awp_seq (awp_seq (awp_region (id := 5) ?_)))
      all_goals first | refine awpOps_cons (op_mv rfl (Conv.of rfl) rfl) ?_ | refine awpOps_cons (op_mvl rfl rfl rfl rfl) ?_ | refine awpOps_cons (op_mvo rfl rfl rfl rfl) ?_
      all_goals first | refine awpOps_cons (op_mv rfl (Conv.of rfl) rfl) ?_ | refine awpOps_cons (op_mvl rfl rfl rfl rfl) ?_ | refine awpOps_cons (op_mvo rfl rfl rfl rfl) ?_
      all_goals refine awpOps_cons (op_lss rfl rfl rfl) ?_
      all_goals refine awpOps_nil ?_
      first | refine awp_seq (awp_cond rfl (fun h2 => ?_) (fun h2 => ?_)) | refine awp_seq (awp_seq (awp_cond rfl (fun h2 => ?_) (fun h2 => ?_))) | refine awp_cond rfl (fun h2 => ?_) (fun h2 => ?_) | refine awp_seq (awp_seq (awp_seq (awp_cond rfl (fun h2 => ?_) (fun h2 => ?_))))
      · have hk2 : k < i := by simpa using h2
        have hy : w.nodes[k]? = some (w.nodes[k]'(by omega)) := List.getElem?_eq_getElem (by omega)
        generalize w.nodes[k]'(by omega) = b at hy
        have hb := nodeOk_seen (hI.ok.nodes b (List.mem_of_getElem? hy))
        have hfit := fun e1 e2 => hI.agree hx hy e1 e2
        refine awp_skip ?_
        first | refine awp_seq (awp_block ?_) | refine awp_seq (awp_seq (awp_block ?_)) | refine awp_block ?_ | refine awp_seq (awp_seq (awp_seq (awp_block ?_)))
        first | refine awp_seq (awp_seq (awp_seq (awp_seq_to (s' := mkSt 47 [(1, .box 0 (IsLens.whole Wrld)), (3, .v (i : Int)), (4, .v (k : Int)), (46, .v false)] [(0, .cell w)]) ?_ ?_))) | refine awp_seq (awp_seq (awp_seq_to (s' := mkSt 47 [(1, .box 0 (IsLens.whole Wrld)), (3, .v (i : Int)), (4, .v (k : Int)), (46, .v false)] [(0, .cell w)]) ?_ ?_)) | refine awp_seq (awp_seq_to (s' := mkSt 47 [(1, .box 0 (IsLens.whole Wrld)), (3, .v (i : Int)), (4, .v (k : Int)), (46, .v false)] [(0, .cell w)]) ?_ ?_) | refine awp_seq_to (s' := mkSt 47 [(1, .box 0 (IsLens.whole Wrld)), (3, .v (i : Int)), (4, .v (k : Int)), (46, .v false)] [(0, .cell w)]) ?_ ?_ | refine awp_toB (s' := mkSt 47 [(1, .box 0 (IsLens.whole Wrld)), (3, .v (i : Int)), (4, .v (k : Int)), (46, .v false)] [(0, .cell w)]) ?_ ?_ | refine awp_to (s' := mkSt 47 [(1, .box 0 (IsLens.whole Wrld)), (3, .v (i : Int)), (4, .v (k : Int)), (46, .v false)] [(0, .cell w)]) ?_ ?_
        · all_goals first | refine awp_seq (dr_start (id := 7) ?_) | refine awp_seq (awp_seq (dr_start (id := 7) ?_)) | refine dr_start (id := 7) ?_ | refine awp_seq (awp_seq (awp_seq (dr_start (id := 7) ?_)))
          all_goals first | refine dr_cons (op_mv rfl (Conv.of rfl) rfl) ?_ | refine dr_cons (op_mvl rfl rfl rfl rfl) ?_ | refine dr_cons (op_mvo rfl rfl rfl rfl) ?_
          all_goals refine dr_cons (op_add rfl rfl rfl (by omega)) ?_
          all_goals first | refine dr_cons (op_fab f29_3 rfl rfl) ?_ | refine dr_cons (op_far f29_3 rfl rfl) ?_ | refine dr_cons (op_fae f29_3 rfl rfl) ?_
          all_goals first | refine dr_cons (op_ld ty3 rfl rfl rfl) ?_ | refine dr_cons (op_ldr ty3 rfl rfl) ?_ | refine dr_cons (op_lde ty3 rfl rfl (by assumption) rfl) ?_ | refine dr_cons (op_ldl ty3 rfl rfl rfl) ?_ | refine dr_cons (op_ldd ty3 rfl rfl rfl) ?_ | refine dr_cons (op_ldde ty3 rfl rfl (by assumption) rfl) ?_
          all_goals refine dr_cons (op_neq rfl rfl rfl) ?_
          all_goals first | refine dr_cons (op_mv rfl (Conv.of rfl) rfl) ?_ | refine dr_cons (op_mvl rfl rfl rfl rfl) ?_ | refine dr_cons (op_mvo rfl rfl rfl rfl) ?_
          all_goals first | refine dr_lit (t := 22) (b := true) rfl ?_ | refine dr_lit (t := 22) (b := false) rfl ?_ | refine dr_ulit (t := 22) rfl ?_ | refine dr_split (t := 22) rfl (fun h => ?_) (fun h => ?_)
          all_goals first | refine dr_cons (g_off rfl rfl rfl rfl rfl) ?_ | refine dr_cons (g_und rfl rfl rfl) ?_ | refine dr_cons (g_on rfl rfl rfl (op_mv rfl (Conv.of rfl) rfl)) ?_ | refine dr_cons (g_on rfl rfl rfl (op_mvl rfl rfl rfl rfl)) ?_ | refine dr_cons (g_on rfl rfl rfl (op_mvo rfl rfl rfl rfl)) ?_
          all_goals first | refine dr_cons (g_off rfl rfl rfl rfl rfl) ?_ | refine dr_cons (g_und rfl rfl rfl) ?_ | refine dr_cons (g_on rfl rfl rfl (op_add rfl rfl rfl (by omega))) ?_
          all_goals first | refine dr_cons (g_off rfl rfl rfl rfl rfl) ?_ | refine dr_cons (g_und rfl rfl rfl) ?_ | refine dr_cons (g_on rfl rfl rfl (op_fab f29_3 rfl rfl)) ?_ | refine dr_cons (g_on rfl rfl rfl (op_far f29_3 rfl rfl)) ?_ | refine dr_cons (g_on rfl rfl rfl (op_fae f29_3 rfl rfl)) ?_
          all_goals first | refine dr_cons (g_off rfl rfl rfl rfl rfl) ?_ | refine dr_cons (g_und rfl rfl rfl) ?_ | refine dr_cons (g_on rfl rfl rfl (op_ld ty3 rfl rfl rfl)) ?_ | refine dr_cons (g_on rfl rfl rfl (op_ldr ty3 rfl rfl)) ?_ | refine dr_cons (g_on rfl rfl rfl (op_lde ty3 rfl rfl (by assumption) rfl)) ?_ | refine dr_cons (g_on rfl rfl rfl (op_ldl ty3 rfl rfl rfl)) ?_ | refine dr_cons (g_on rfl rfl rfl (op_ldd ty3 rfl rfl rfl)) ?_ | refine dr_cons (g_on rfl rfl rfl (op_ldde ty3 rfl rfl (by assumption) rfl)) ?_
          all_goals first | refine dr_cons (g_off rfl rfl rfl rfl rfl) ?_ | refine dr_cons (g_und rfl rfl rfl) ?_ | refine dr_cons (g_on rfl rfl rfl (op_neq rfl rfl rfl)) ?_
          all_goals refine dr_cons (op_pick rfl rfl rfl rfl) ?_
          all_goals first | refine dr_cons (op_mv rfl (Conv.of rfl) rfl) ?_ | refine dr_cons (op_mvl rfl rfl rfl rfl) ?_ | refine dr_cons (op_mvo rfl rfl rfl rfl) ?_
          all_goals first | refine dr_lit (t := 29) (b := true) rfl ?_ | refine dr_lit (t := 29) (b := false) rfl ?_ | refine dr_ulit (t := 29) rfl ?_ | refine dr_split (t := 29) rfl (fun h => ?_) (fun h => ?_)
          all_goals first | refine dr_cons (g_off rfl rfl rfl rfl rfl) ?_ | refine dr_cons (g_und rfl rfl rfl) ?_ | refine dr_cons (g_on rfl rfl rfl (op_fab f29_1 rfl rfl)) ?_ | refine dr_cons (g_on rfl rfl rfl (op_far f29_1 rfl rfl)) ?_ | refine dr_cons (g_on rfl rfl rfl (op_fae f29_1 rfl rfl)) ?_
          all_goals first | refine dr_cons (g_off rfl rfl rfl rfl rfl) ?_ | refine dr_cons (g_und rfl rfl rfl) ?_ | refine dr_cons (g_on rfl rfl rfl (op_ld ty26 rfl rfl rfl)) ?_ | refine dr_cons (g_on rfl rfl rfl (op_ldr ty26 rfl rfl)) ?_ | refine dr_cons (g_on rfl rfl rfl (op_lde ty26 rfl rfl (by assumption) rfl)) ?_ | refine dr_cons (g_on rfl rfl rfl (op_ldl ty26 rfl rfl rfl)) ?_ | refine dr_cons (g_on rfl rfl rfl (op_ldd ty26 rfl rfl rfl)) ?_ | refine dr_cons (g_on rfl rfl rfl (op_ldde ty26 rfl rfl (by assumption) rfl)) ?_
          all_goals first | refine dr_cons (g_off rfl rfl rfl rfl rfl) ?_ | refine dr_cons (g_und rfl rfl rfl) ?_ | refine dr_cons (g_on rfl rfl rfl (op_mv rfl (Conv.of rfl) rfl)) ?_ | refine dr_cons (g_on rfl rfl rfl (op_mvl rfl rfl rfl rfl)) ?_ | refine dr_cons (g_on rfl rfl rfl (op_mvo rfl rfl rfl rfl)) ?_
          all_goals first | refine dr_cons (g_off rfl rfl rfl rfl rfl) ?_ | refine dr_cons (g_und rfl rfl rfl) ?_ | refine dr_cons (g_on rfl rfl rfl (op_ix sl26 rfl rfl rfl (by omega) hx)) ?_ | refine dr_cons (g_on rfl rfl rfl (op_ixA sl26 rfl rfl rfl rfl (by omega))) ?_
          all_goals first | refine dr_cons (g_off rfl rfl rfl rfl rfl) ?_ | refine dr_cons (g_und rfl rfl rfl) ?_ | refine dr_cons (g_on rfl rfl rfl (op_fab f39_3 rfl rfl)) ?_ | refine dr_cons (g_on rfl rfl rfl (op_far f39_3 rfl rfl)) ?_ | refine dr_cons (g_on rfl rfl rfl (op_fae f39_3 rfl rfl)) ?_
          all_goals first | refine dr_cons (g_off rfl rfl rfl rfl rfl) ?_ | refine dr_cons (g_und rfl rfl rfl) ?_ | refine dr_cons (g_on rfl rfl rfl (op_ld ty27 rfl rfl rfl)) ?_ | refine dr_cons (g_on rfl rfl rfl (op_ldr ty27 rfl rfl)) ?_ | refine dr_cons (g_on rfl rfl rfl (op_lde ty27 rfl rfl (by assumption) rfl)) ?_ | refine dr_cons (g_on rfl rfl rfl (op_ldl ty27 rfl rfl rfl)) ?_ | refine dr_cons (g_on rfl rfl rfl (op_ldd ty27 rfl rfl rfl)) ?_ | refine dr_cons (g_on rfl rfl rfl (op_ldde ty27 rfl rfl (by assumption) rfl)) ?_
          all_goals first | refine dr_cons (g_off rfl rfl rfl rfl rfl) ?_ | refine dr_cons (g_und rfl rfl rfl) ?_ | refine dr_cons (g_on rfl rfl rfl (op_call fb20 (.cons rfl (Conv.of rfl) (.nil _)) (treeFinal_ct _ ha.1 (by omega)) (argOk rfl rfl argOk0) rfl rfl)) ?_
          all_goals first | refine dr_cons (g_off rfl rfl rfl rfl rfl) ?_ | refine dr_cons (g_und rfl rfl rfl) ?_ | refine dr_cons (g_on rfl rfl rfl (op_fab f29_1 rfl rfl)) ?_ | refine dr_cons (g_on rfl rfl rfl (op_far f29_1 rfl rfl)) ?_ | refine dr_cons (g_on rfl rfl rfl (op_fae f29_1 rfl rfl)) ?_
          all_goals first | refine dr_cons (g_off rfl rfl rfl rfl rfl) ?_ | refine dr_cons (g_und rfl rfl rfl) ?_ | refine dr_cons (g_on rfl rfl rfl (op_ld ty26 rfl rfl rfl)) ?_ | refine dr_cons (g_on rfl rfl rfl (op_ldr ty26 rfl rfl)) ?_ | refine dr_cons (g_on rfl rfl rfl (op_lde ty26 rfl rfl (by assumption) rfl)) ?_ | refine dr_cons (g_on rfl rfl rfl (op_ldl ty26 rfl rfl rfl)) ?_ | refine dr_cons (g_on rfl rfl rfl (op_ldd ty26 rfl rfl rfl)) ?_ | refine dr_cons (g_on rfl rfl rfl (op_ldde ty26 rfl rfl (by assumption) rfl)) ?_
          all_goals first | refine dr_cons (g_off rfl rfl rfl rfl rfl) ?_ | refine dr_cons (g_und rfl rfl rfl) ?_ | refine dr_cons (g_on rfl rfl rfl (op_mv rfl (Conv.of rfl) rfl)) ?_ | refine dr_cons (g_on rfl rfl rfl (op_mvl rfl rfl rfl rfl)) ?_ | refine dr_cons (g_on rfl rfl rfl (op_mvo rfl rfl rfl rfl)) ?_
          all_goals first | refine dr_cons (g_off rfl rfl rfl rfl rfl) ?_ | refine dr_cons (g_und rfl rfl rfl) ?_ | refine dr_cons (g_on rfl rfl rfl (op_ix sl26 rfl rfl rfl (by omega) hy)) ?_ | refine dr_cons (g_on rfl rfl rfl (op_ixA sl26 rfl rfl rfl rfl (by omega))) ?_
          all_goals first | refine dr_cons (g_off rfl rfl rfl rfl rfl) ?_ | refine dr_cons (g_und rfl rfl rfl) ?_ | refine dr_cons (g_on rfl rfl rfl (op_fab f39_3 rfl rfl)) ?_ | refine dr_cons (g_on rfl rfl rfl (op_far f39_3 rfl rfl)) ?_ | refine dr_cons (g_on rfl rfl rfl (op_fae f39_3 rfl rfl)) ?_
          all_goals first | refine dr_cons (g_off rfl rfl rfl rfl rfl) ?_ | refine dr_cons (g_und rfl rfl rfl) ?_ | refine dr_cons (g_on rfl rfl rfl (op_ld ty27 rfl rfl rfl)) ?_ | refine dr_cons (g_on rfl rfl rfl (op_ldr ty27 rfl rfl)) ?_ | refine dr_cons (g_on rfl rfl rfl (op_lde ty27 rfl rfl (by assumption) rfl)) ?_ | refine dr_cons (g_on rfl rfl rfl (op_ldl ty27 rfl rfl rfl)) ?_ | refine dr_cons (g_on rfl rfl rfl (op_ldd ty27 rfl rfl rfl)) ?_ | refine dr_cons (g_on rfl rfl rfl (op_ldde ty27 rfl rfl (by assumption) rfl)) ?_
          all_goals first | refine dr_cons (g_off rfl rfl rfl rfl rfl) ?_ | refine dr_cons (g_und rfl rfl rfl) ?_ | refine dr_cons (g_on rfl rfl rfl (op_call fb20 (.cons rfl (Conv.of rfl) (.nil _)) (treeFinal_ct _ hb.1 (by omega)) (argOk rfl rfl argOk0) rfl rfl)) ?_
          all_goals first | refine dr_cons (g_off rfl rfl rfl rfl rfl) ?_ | refine dr_cons (g_und rfl rfl rfl) ?_ | refine dr_cons (g_on rfl rfl rfl (op_call fb32 (.cons rfl (Conv.cl) (.cons rfl (Conv.cl) (.nil _))) (lwFits_ct _ _) (argOk rfl rfl (argOk rfl rfl argOk0)) rfl rfl)) ?_
          all_goals first | refine dr_cons (g_off rfl rfl rfl rfl rfl) ?_ | refine dr_cons (g_und rfl rfl rfl) ?_ | refine dr_cons (g_on rfl rfl rfl (op_not rfl rfl)) ?_
          all_goals refine dr_cons (op_pick rfl rfl rfl rfl) ?_
          all_goals refine dr_nil mixed rfl ?_
          all_goals exact Le.mk rfl (tlb rfl rfl rfl (tle rfl (rfl) rfl (tle rfl (rfl) rfl (tle rfl (by first | rfl | (show AV.v _ = AV.v _; simp_all)) rfl tln)))) (olk rfl (by first | exact obOk_cell | exact obOk_arr | exact obOkW rfl | exact obOkW0 | exact obOkN | exact obOkS rfl | exact obOkNs | exact obOkS0 | trivial) oln) noS
        first | refine awp_seq (awp_cond rfl (fun h3 => absurd h3 (by decide)) (fun h3 => ?_)) | refine awp_seq (awp_seq (awp_cond rfl (fun h3 => absurd h3 (by decide)) (fun h3 => ?_))) | refine awp_cond rfl (fun h3 => absurd h3 (by decide)) (fun h3 => ?_) | refine awp_seq (awp_seq (awp_seq (awp_cond rfl (fun h3 => absurd h3 (by decide)) (fun h3 => ?_))))
        refine awp_skip ?_
        all_goals first | refine awp_seq (awp_region (id := 6) ?_) | refine awp_seq (awp_seq (awp_region (id := 6) ?_)) | refine awp_region (id := 6) ?_ | refine awp_seq (awp_seq (awp_seq (awp_region (id := 6) ?_)))
        all_goals first | refine awpOps_cons (op_mv rfl (Conv.of rfl) rfl) ?_ | refine awpOps_cons (op_mvl rfl rfl rfl rfl) ?_ | refine awpOps_cons (op_mvo rfl rfl rfl rfl) ?_
        all_goals refine awpOps_cons (op_add rfl rfl rfl (by omega)) ?_
        all_goals first | refine awpOps_cons (op_as rfl (Conv.of rfl) rfl) ?_ | refine awpOps_cons (op_asl rfl rfl rfl rfl) ?_ | refine awpOps_cons (op_aso rfl rfl rfl rfl) ?_
        all_goals refine awpOps_nil ?_
        repeat first | refine nx_seq ?_ | refine nx_block ?_
        exact ⟨n_ - 1, _, by omega, ⟨k + 1, by omega, rfl⟩, Le.mk rfl (tlb rfl rfl rfl (tle rfl (rfl) rfl (tle rfl (rfl) rfl tln))) (olk rfl (by first | exact obOk_cell | exact obOk_arr | exact obOkW rfl | exact obOkW0 | exact obOkN | exact obOkS rfl | exact obOkNs | exact obOkS0 | trivial) oln) noS⟩
      · refine awp_exit ?_
        repeat refine ex_seq ?_
        refine ex_block ?_
        all_goals exact Le.mk rfl (tlb rfl rfl rfl (tle rfl (rfl) rfl tln)) (olk rfl (by first | exact obOk_cell | exact obOk_arr | exact obOkW rfl | exact obOkW0 | exact obOkN | exact obOkS rfl | exact obOkNs | exact obOkS0 | trivial) oln) noS
    · all_goals first | refine awp_seq (awp_region (id := 3) ?_) | refine awp_seq (awp_seq (awp_region (id := 3) ?_)) | refine awp_region (id := 3) ?_ | refine awp_seq (awp_seq (awp_seq (awp_region (id := 3) ?_)))
      all_goals first | refine awpOps_cons (op_mv rfl (Conv.of rfl) rfl) ?_ | refine awpOps_cons (op_mvl rfl rfl rfl rfl) ?_ | refine awpOps_cons (op_mvo rfl rfl rfl rfl) ?_
      all_goals refine awpOps_cons (op_add rfl rfl rfl (by omega)) ?_
      all_goals first | refine awpOps_cons (op_as rfl (Conv.of rfl) rfl) ?_ | refine awpOps_cons (op_asl rfl rfl rfl rfl) ?_ | refine awpOps_cons (op_aso rfl rfl rfl rfl) ?_
      all_goals refine awpOps_nil ?_
      repeat first | refine nx_seq ?_ | refine nx_block ?_
      exact ⟨n_ - 1, _, by omega, ⟨i + 1, by omega, rfl⟩, Le.mk rfl (tlb rfl rfl rfl (tle rfl (rfl) rfl tln)) (olk rfl (by first | exact obOk_cell | exact obOk_arr | exact obOkW rfl | exact obOkW0 | exact obOkN | exact obOkS rfl | exact obOkNs | exact obOkS0 | trivial) oln) noS⟩
  · refine awp_exit ?_
    repeat refine ex_seq ?_
    refine ex_block ?_
    all_goals first | refine awp_seq (awp_region (id := 9) ?_) | refine awp_seq (awp_seq (awp_region (id := 9) ?_)) | refine awp_region (id := 9) ?_ | refine awp_seq (awp_seq (awp_seq (awp_region (id := 9) ?_)))
    all_goals refine awpOps_cons (op_as rfl (Conv.of rfl) rfl) ?_
    all_goals refine awpOps_nil ?_
    refine awp_ret ?_
    repeat first | refine rt_seq ?_ | refine rt_block ?_
    exact finP (.v rfl (Conv.of rfl)) rfl rfl
end Go.Proofs.YtompnmkpgffhkaaGreat

/- Plays with fewer events; what grows. -/
set_option linter.unusedVariables false
set_option linter.unusedSimpArgs false
namespace Go.Wt
theorem tip_nil {l : List Vote} {id : Int} (h : ∀ v ∈ l, v.by_ = id) : tipOf l = [] := by
  by_cases h0 : 0 < (tipOf l).length
  · obtain ⟨n, hn, hm⟩ := quorum1 id (sure_self (tip_sure l) h0)
    exact absurd (h _ hm) hn
  · exact List.eq_nil_of_length_eq_zero (by omega)
theorem final_nil {l : List Vote} {id : Int} (h : ∀ v ∈ l, v.by_ = id) : finalOf l = [] := by
  have : shownOf l = [] := by
    by_cases h0 : 0 < (shownOf l).length
    · obtain ⟨n, hn, hm⟩ := quorum1 id (sure_self (shown_sure l) h0)
      exact absurd (h _ hm) hn
    · exact List.eq_nil_of_length_eq_zero (by omega)
  unfold finalOf; rw [this]; rfl
/-! Forged votes and ticks alone -/
structure Al (w : Wrld) : Prop where
  seen : ∀ n ∈ w.nodes, n.seen = []
  log : ∀ v ∈ w.log, v.by_ = w.bad
theorem Al.do {w : Wrld} {e : Evt} (h : Al w) (he : e.kind = 4 ∨ e.kind = 1) : Al (doF w e) := by
  unfold doF
  rcases he with he | he
  · rw [if_neg (by omega), if_neg (by omega), if_neg (by omega), if_pos he]
    split
    · rename_i hh
      simp only [Bool.and_eq_true, decide_eq_true_eq] at hh
      unfold sendF
      split
      · refine ⟨h.seen, fun v hv => ?_⟩
        rcases List.mem_append.1 hv with hv | hv
        · exact h.log v hv
        · simp at hv; subst hv; exact hh.2
      · exact h
    · exact h
  · rw [if_pos he]
    refine ⟨fun n hn => ?_, h.log⟩
    obtain ⟨m, hm, rfl⟩ := List.mem_map.1 hn
    have := h.seen m hm
    unfold enterF; split <;> exact this
theorem Al.fold : ∀ (l : List Evt) {w : Wrld}, Al w → (∀ e ∈ l, e.kind = 4 ∨ e.kind = 1) → Al (l.foldl doF w)
  | [], _, h, _ => h
  | e :: r, _, h, hl => Al.fold r (h.do (hl e (by simp))) fun e' he => hl e' (by simp [he])
theorem Al.play {bad : Int} {evs : List Evt} (h : ∀ e ∈ evs, e.kind = 4 ∨ e.kind = 1) : Al (playF bad evs) :=
  Al.fold evs ⟨fun n hn => by simp [newW, newN] at hn; rcases hn with rfl | rfl | rfl | rfl <;> rfl, fun v hv => by simp [newW] at hv⟩ h
/-! Nothing is brought -/
def Uh (w : Wrld) : Prop := ∀ n ∈ w.nodes, ∀ v ∈ n.seen, v.by_ = n.id ∧ v.chain.length = 1
theorem send_nodes' (w : Wrld) (v : Vote) : (sendF w v).nodes = w.nodes := by unfold sendF; split <;> rfl
theorem put_nodes' (w : Wrld) (k : Nat) (x : Nod × Vote × Bool) : (putF w k x).nodes = w.nodes.set k x.1 := by
  unfold putF
  split
  · rw [send_nodes']
  · rfl
theorem Uh.do {w : Wrld} {e : Evt} (h : Uh w) (he : e.kind ≠ 3) : Uh (doF w e) := by
  unfold doF
  split
  · intro n hn
    obtain ⟨m, hm, rfl⟩ := List.mem_map.1 hn
    have := h m hm
    unfold enterF; split <;> exact this
  · split
    · unfold wproposeF
      split
      · split
        · rename_i n hn
          intro m hm
          rw [put_nodes'] at hm
          rcases List.mem_or_eq_of_mem_set hm with hm | hm
          · exact h m hm
          · subst hm
            have hN := h n (List.mem_of_getElem? hn)
            rcases propose_cases n e.pay with e1 | ⟨c, hc, e1⟩
            · rw [e1]; exact hN
            · rw [e1]
              have hl := hc.len
              rw [tip_nil fun v hv => (hN v hv).1] at hl
              unfold voteF
              split
              · exact hN
              · intro v hv
                rcases List.mem_append.1 hv with hv | hv
                · exact hN v hv
                · simp at hv; subst hv; exact ⟨rfl, by simpa using hl⟩
        · exact h
      · exact h
    · split
      · split
        · intro n hn; rw [send_nodes'] at hn; exact h n hn
        · exact h
      · exact h
theorem Uh.fold : ∀ (l : List Evt) {w : Wrld}, Uh w → (∀ e ∈ l, e.kind ≠ 3) → Uh (l.foldl doF w)
  | [], _, h, _ => h
  | e :: r, _, h, hl => Uh.fold r (h.do (hl e (by simp))) fun e' he => hl e' (by simp [he])
theorem Uh.play {bad : Int} {evs : List Evt} (h : ∀ e ∈ evs, e.kind ≠ 3) : Uh (playF bad evs) :=
  Uh.fold evs (fun n hn v hv => by simp [newW, newN] at hn; rcases hn with rfl | rfl | rfl | rfl <;> simp at hv) h
/-! Nothing is forged -/
theorem log_put {w : Wrld} {k : Nat} {x : Nod × Vote × Bool} {v : Vote} (h : v ∈ (putF w k x).log) : v ∈ w.log ∨ (x.2.2 = true ∧ v = x.2.1) := by
  unfold putF at h
  split at h
  · rename_i hx
    unfold sendF at h
    split at h
    · rcases List.mem_append.1 h with h | h
      · exact .inl h
      · simp at h; exact .inr ⟨hx, h⟩
    · exact .inl h
  · exact .inl h
theorem voteF_by {n : Nod} {c : List Itm} (h : (voteF n c).2.2 = true) : (voteF n c).2.1.by_ = n.id := by
  unfold voteF at h ⊢
  split at h
  · cases h
  · rename_i hh; rw [if_neg hh]
theorem propose_by {n : Nod} {p : Pay} (h : (proposeF n p).2.2 = true) : (proposeF n p).2.1.by_ = n.id := by
  rcases propose_cases n p with e | ⟨c, _, e⟩
  · rw [e] at h; cases h
  · rw [e] at h ⊢; exact voteF_by h
theorem tryF_by {n : Nod} : ∀ {l : List Vote}, (tryF n l).2.2 = true → (tryF n l).2.1.by_ = n.id
  | [], h => by cases h
  | u :: r, h => by
    simp only [tryF] at h ⊢
    split at h
    · rename_i hf; rw [if_pos hf]; exact voteF_by h
    · rename_i hf; rw [if_neg hf]; exact tryF_by h
theorem hear_by {n : Nod} {v : Vote} (h : (hearF n v).2.2 = true) : (hearF n v).2.1.by_ = n.id := by
  unfold hearF at h ⊢
  split at h
  · rename_i hh
    rw [if_pos hh]
    split at h
    · rename_i hm
      rw [if_pos hm, ← (seeF_epoch n v).2.1]
      exact tryF_by h
    · cases h
  · cases h
def Si (w : Wrld) : Prop := ∀ v ∈ w.log, v.by_ ≠ w.bad
theorem Si.do {w : Wrld} {e : Evt} (hI : Inv w) (h : Si w) (he : e.kind ≠ 4) : Si (doF w e) := by
  intro v hv
  rw [doF_bad]
  unfold doF at hv
  split at hv
  · exact h v hv
  · split at hv
    · unfold wproposeF at hv
      split at hv
      · rename_i hh
        simp only [honestB, Bool.and_eq_true, Bool.not_eq_true', decide_eq_false_iff_not, decide_eq_true_eq] at hh
        have hid : 1 ≤ e.a ∧ e.a ≤ 4 := by simpa [within] using hh.1.1.1
        split at hv
        · rename_i n hn
          rcases log_put hv with hv | ⟨h1, rfl⟩
          · exact h v hv
          · rw [propose_by h1, node_id hI hid hn]; exact hh.1.1.2
        · exact h v hv
      · exact h v hv
    · split at hv
      · unfold wbringF at hv
        split at hv
        · rename_i hh
          simp only [honestB, Bool.and_eq_true, Bool.not_eq_true', decide_eq_false_iff_not, decide_eq_true_eq] at hh
          have hid : 1 ≤ e.b ∧ e.b ≤ 4 := by simpa [within] using hh.1.1.1
          split at hv
          · rename_i n u hn hu
            rcases log_put hv with hv | ⟨h1, rfl⟩
            · exact h v hv
            · rw [hear_by h1, node_id hI hid hn]; exact hh.1.1.2
          · exact h v hv
        · exact h v hv
      · exact h v hv
theorem Si.fold : ∀ (l : List Evt) {w : Wrld}, Inv w → Si w → (∀ e ∈ l, e.kind ≠ 4) → Si (l.foldl doF w)
  | [], _, _, h, _ => h
  | e :: r, _, hI, h, hl => Si.fold r (hI.do e) (h.do hI (hl e (by simp))) fun e' he => hl e' (by simp [he])
theorem Si.play {bad : Int} (hb : within bad 0 4 = true) {evs : List Evt} (h : ∀ e ∈ evs, e.kind ≠ 4) : Si (playF bad evs) :=
  Si.fold evs (Inv.new hb) (fun v hv => by simp [newW] at hv) h
theorem doF_epoch (w : Wrld) (e : Evt) : (doF w e).epoch = if e.kind = 1 then min (w.epoch + 1) 30 else w.epoch := by
  have hs : ∀ (w : Wrld) v, (sendF w v).epoch = w.epoch := fun w v => by unfold sendF; split <;> rfl
  have hp : ∀ (w : Wrld) k x, (putF w k x).epoch = w.epoch := fun w k x => by
    unfold putF
    split
    · rw [hs]
    · rfl
  unfold doF
  split
  · rfl
  · split
    · unfold wproposeF
      split
      · split
        · exact hp _ _ _
        · rfl
      · rfl
    · split
      · unfold wbringF
        split
        · split
          · exact hp _ _ _
          · rfl
        · rfl
      · split
        · split
          · exact hs _ _
          · rfl
        · rfl
theorem epoch_filter (p : Evt → Bool) (hp : ∀ e, e.kind = 1 → p e = true) : ∀ (l : List Evt) (w w' : Wrld), w.epoch = w'.epoch → ((l.filter p).foldl doF w).epoch = (l.foldl doF w').epoch
  | [], _, _, h => h
  | e :: r, w, w', h => by
    simp only [List.filter_cons, List.foldl_cons]
    by_cases hk : p e = true
    · rw [if_pos hk]
      exact epoch_filter p hp r _ _ (by rw [doF_epoch, doF_epoch, h])
    · rw [if_neg hk]
      refine epoch_filter p hp r _ _ ?_
      rw [doF_epoch, if_neg (fun h1 => hk (hp e h1))]; exact h
/-! What was seen stays seen -/
structure Grw (w w' : Wrld) : Prop where
  log : ∀ v ∈ w.log, v ∈ w'.log
  seen : ∀ (i : Nat) (n : Nod), w.nodes[i]? = some n → ∃ n', w'.nodes[i]? = some n' ∧ ∀ v ∈ n.seen, v ∈ n'.seen
theorem Grw.refl (w : Wrld) : Grw w w := ⟨fun _ h => h, fun i n h => ⟨n, h, fun _ h => h⟩⟩
theorem Grw.trans {a b c : Wrld} (h : Grw a b) (k : Grw b c) : Grw a c := ⟨fun v hv => k.log v (h.log v hv), fun i n hn => by
  obtain ⟨m, h1, h2⟩ := h.seen i n hn
  obtain ⟨o, h3, h4⟩ := k.seen i m h1
  exact ⟨o, h3, fun v hv => h4 v (h2 v hv)⟩⟩
theorem Grw.send (w : Wrld) (v : Vote) : Grw w (sendF w v) := ⟨fun u hu => by
  unfold sendF; split
  · exact List.mem_append_left _ hu
  · exact hu, fun i n hn => ⟨n, by rw [send_nodes']; exact hn, fun _ h => h⟩⟩
theorem Grw.set {w : Wrld} {k : Nat} {n m : Nod} (hn : w.nodes[k]? = some n) (hm : ∀ v ∈ n.seen, v ∈ m.seen) : Grw w { w with nodes := w.nodes.set k m } := ⟨fun _ h => h, fun i a ha => by
  by_cases e : i = k
  · subst e
    rw [hn] at ha
    injection ha with ha
    subst ha
    exact ⟨m, List.getElem?_set_self (List.getElem?_eq_some_iff.1 hn).1, hm⟩
  · exact ⟨a, by show (w.nodes.set k m)[i]? = _; rw [List.getElem?_set_ne (Ne.symm e)]; exact ha, fun _ h => h⟩⟩
theorem Grw.put {w : Wrld} {k : Nat} {n : Nod} {x : Nod × Vote × Bool} (hn : w.nodes[k]? = some n) (hm : ∀ v ∈ n.seen, v ∈ x.1.seen) : Grw w (putF w k x) := by
  unfold putF
  split
  · exact (Grw.set hn hm).trans (Grw.send _ _)
  · exact Grw.set hn hm
theorem voteF_seen (n : Nod) (c : List Itm) : ∀ v ∈ n.seen, v ∈ (voteF n c).1.seen := fun v hv => by
  unfold voteF; split
  · exact hv
  · exact List.mem_append_left _ hv
theorem proposeF_seen (n : Nod) (p : Pay) : ∀ v ∈ n.seen, v ∈ (proposeF n p).1.seen := by
  rcases propose_cases n p with e | ⟨c, _, e⟩
  · rw [e]; exact fun _ h => h
  · rw [e]; exact voteF_seen n c
theorem tryF_seen (n : Nod) : ∀ l : List Vote, ∀ v ∈ n.seen, v ∈ (tryF n l).1.seen
  | [] => fun _ h => h
  | u :: r => by
    simp only [tryF]
    split
    · exact voteF_seen n _
    · exact tryF_seen n r
theorem seeF_seen (n : Nod) (u : Vote) : ∀ v ∈ n.seen, v ∈ (seeF n u).seen := fun v hv => by
  unfold seeF; split
  · exact hv
  · exact List.mem_append_left _ hv
theorem hearF_seen (n : Nod) (u : Vote) : ∀ v ∈ n.seen, v ∈ (hearF n u).1.seen := fun v hv => by
  unfold hearF
  split
  · split
    · exact tryF_seen _ _ v (seeF_seen n u v hv)
    · exact seeF_seen n u v hv
  · exact hv
theorem Grw.do (w : Wrld) (e : Evt) : Grw w (doF w e) := by
  unfold doF
  split
  · refine ⟨fun _ h => h, fun i n hn => ⟨enterF n (min (w.epoch + 1) 30), ?_, ?_⟩⟩
    · show (w.nodes.map _)[i]? = _
      rw [List.getElem?_map, hn]; rfl
    · unfold enterF; split <;> exact fun _ h => h
  · split
    · unfold wproposeF
      split
      · split
        · rename_i n hn; exact Grw.put hn (proposeF_seen n _)
        · exact Grw.refl w
      · exact Grw.refl w
    · split
      · unfold wbringF
        split
        · split
          · rename_i n v hn hv; exact Grw.put hn (hearF_seen n v)
          · exact Grw.refl w
        · exact Grw.refl w
      · split
        · split
          · exact Grw.send _ _
          · exact Grw.refl w
        · exact Grw.refl w
theorem Grw.fold : ∀ (l : List Evt) (w : Wrld), Grw w (l.foldl doF w)
  | [], w => Grw.refl w
  | e :: r, w => (Grw.do w e).trans (Grw.fold r _)
theorem Grw.play (bad : Int) (evs : List Evt) (n : Nat) : Grw (playF bad (evs.take n)) (playF bad evs) := by
  have : playF bad evs = (evs.drop n).foldl doF (playF bad (evs.take n)) := by
    unfold playF; rw [← List.foldl_append, List.take_append_drop]
  rw [this]; exact Grw.fold _ _
theorem allStep_pos (l : List Vote) : ∀ (r : List Vote) (o : List (List Itm)) (x : List Itm), o[0]? = some x → (r.foldl (allStep l) o)[0]? = some x
  | [], _, _, h => h
  | v :: r, o, x, h => by
    refine allStep_pos l r _ x ?_
    unfold allStep
    split
    · have := (List.getElem?_eq_some_iff.1 h).1
      rw [List.getElem?_append_left this]; exact h
    · exact h
theorem allFold_nodup (l : List Vote) : ∀ (r : List Vote) (o : List (List Itm)), o.Nodup → (r.foldl (allStep l) o).Nodup
  | [], _, h => h
  | v :: r, o, h => by
    refine allFold_nodup l r _ ?_
    unfold allStep
    split
    · rename_i hh
      simp only [Bool.and_eq_true, Bool.not_eq_true', decide_eq_false_iff_not] at hh
      rw [List.nodup_append]
      refine ⟨h, by simp, fun a ha b hb => ?_⟩
      simp at hb
      rintro rfl
      exact hh.1 (hb ▸ ha)
    · exact h
theorem allOf_nodup (l : List Vote) : (allOf l).Nodup := allFold_nodup l l [[]] (by simp)
end Go.Wt

/- Worlds in form. -/
set_option linter.unusedVariables false
set_option linter.unusedSimpArgs false
namespace Go.Wt
def shownB (w : Wrld) (v : Vote) : Bool := decide (v.by_ = w.bad) || decide (v ∈ w.log)
def nodeIn (w : Wrld) (i : Nat) (n : Nod) : Bool := nodeOk n && decide (n.id = (i : Int) + 1) && decide (n.epoch = w.epoch) && !(n.seen.any fun v => !shownB w v)
def nodesOkFrom (w : Wrld) : List Nod → Nat → Bool
  | [], _ => true
  | n :: r, i => nodeIn w i n && nodesOkFrom w r (i + 1)
def worldOk0 (w : Wrld) : Bool := within w.epoch 0 30 && within w.bad 0 4 && decide (w.nodes.length = 4) && decide (w.log.length ≤ 80) && votesOk w.log
def worldOk (w : Wrld) : Bool := worldOk0 w && nodesOkFrom w w.nodes 0
theorem nodesOk_drop {w : Wrld} {l : List Nod} {k : Nat} {x : Nod} (h : l[k]? = some x) : nodesOkFrom w (l.drop k) k = (nodeIn w k x && nodesOkFrom w (l.drop (k + 1)) (k + 1)) := by
  rw [drop_at h]; rfl
theorem nodesOk_iff (w : Wrld) : ∀ (l : List Nod) (j : Nat), nodesOkFrom w l j = true ↔ ∀ (i : Nat) (n : Nod), l[i]? = some n → nodeIn w (j + i) n = true
  | [], j => by simp [nodesOkFrom]
  | x :: r, j => by
    simp only [nodesOkFrom, Bool.and_eq_true, nodesOk_iff w r (j + 1)]
    constructor
    · rintro ⟨h1, h2⟩ i n hi
      cases i with
      | zero => simp at hi; subst hi; exact h1
      | succ i =>
        have := h2 i n (by simpa using hi)
        rwa [show j + 1 + i = j + (i + 1) by omega] at this
    · intro h
      refine ⟨h 0 x rfl, fun i n hi => ?_⟩
      have := h (i + 1) n (by simpa using hi)
      rwa [show j + 1 + i = j + (i + 1) by omega]
structure WOk (w : Wrld) : Prop where
  fx : FineX w
  bad : within w.bad 0 4 = true
  node : ∀ (i : Nat) (n : Nod), w.nodes[i]? = some n → n.id = (i : Int) + 1 ∧ n.epoch = w.epoch ∧ ∀ v ∈ n.seen, v.by_ = w.bad ∨ v ∈ w.log
theorem worldOk_iff {w : Wrld} : worldOk w = true ↔ WOk w := by
  unfold worldOk worldOk0
  simp only [Bool.and_eq_true, nodesOk_iff, Nat.zero_add, decide_eq_true_eq]
  have hin : ∀ i n, nodeIn w i n = true ↔ nodeOk n = true ∧ n.id = (i : Int) + 1 ∧ n.epoch = w.epoch ∧ ∀ v ∈ n.seen, v.by_ = w.bad ∨ v ∈ w.log := fun i n => by
    unfold nodeIn shownB
    simp only [Bool.and_eq_true, decide_eq_true_eq, Bool.not_eq_true', List.any_eq_false, Bool.or_eq_false_iff, decide_eq_false_iff_not, and_assoc, Bool.not_eq_false', Bool.or_eq_true, Bool.not_eq_true]
    constructor
    · rintro ⟨a, b, c, d⟩
      exact ⟨a, b, c, fun v hv => by have := d v hv; by_cases hb : v.by_ = w.bad <;> simp_all⟩
    · rintro ⟨a, b, c, d⟩
      exact ⟨a, b, c, fun v hv => by have := d v hv; by_cases hb : v.by_ = w.bad <;> simp_all⟩
  constructor
  · rintro ⟨⟨⟨⟨⟨h1, h2⟩, h3⟩, h4⟩, h5⟩, h6⟩
    refine ⟨⟨by simpa [within] using h1, h3, h4, h5, fun n hn => ?_⟩, h2, fun i n hn => ((hin i n).1 (h6 i n hn)).2⟩
    obtain ⟨i, hi⟩ := List.mem_iff_getElem?.1 hn
    exact ((hin i n).1 (h6 i n hi)).1
  · rintro ⟨h1, h2, h3⟩
    refine ⟨⟨⟨⟨⟨by have := h1.ep; simpa [within] using this, h2⟩, h1.four⟩, h1.ll⟩, h1.log⟩, fun i n hn => (hin i n).2 ⟨h1.nodes n (List.mem_of_getElem? hn), h3 i n hn⟩⟩
theorem Inv.wok {w : Wrld} (h : Inv w) : WOk w := ⟨h.ok, h.bad, fun i n hn => by
  have hN := h.nodes i n hn
  refine ⟨hN.id, hN.ep, fun v hv => ?_⟩
  by_cases hb : n.id = w.bad
  · rw [hN.idle hb] at hv; cases hv
  · exact .inr (hN.sub hb v hv)⟩
theorem Inv.worldOk {w : Wrld} (h : Inv w) : worldOk w = true := worldOk_iff.2 h.wok
end Go.Wt

/- Worlds in form; what happens in a world, for outsiders. -/
set_option linter.unusedVariables false
set_option linter.unusedSimpArgs false
namespace Go.Proofs.YtompnmkpgffhkaaGreat
open Go Go.Wt
theorem shown_w_ct (v : Vote) (hO : Nat → Wt.Obj) (w : Wrld) (ho : hO 0 = .cell w) (hf : hO 9 = .free) (hH : ∀ o, obOk (pH hO) (hO o)) :
    Ct Tryz.prog 59 [.box 0 (IsLens.whole Wrld), .v v] hO (fun r1 h1 => r1 = .v (shownB w v) ∧ h1 = hO) := by
  refine Ct.intro Tryz.func59 rfl rfl ?_
  all_goals refine awp_seq (awp_region (id := 0) ?_)
  all_goals refine awpOps_cons (op_box (o := 9) ty48 rfl (Conv.of rfl) hf rfl) ?_
  all_goals refine awpOps_cons (op_as rfl (Conv.of rfl) rfl) ?_
  all_goals refine awpOps_nil ?_
  all_goals refine awp_seq (dr_start (id := 1) ?_)
  all_goals refine dr_cons (op_fab f48_0 rfl rfl) ?_
  all_goals refine dr_cons (op_ld ty3 rfl rfl rfl) ?_
  all_goals refine dr_cons (op_mv rfl (Conv.of rfl) rfl) ?_
  all_goals refine dr_cons (op_nilc_box rfl rfl) ?_
  all_goals refine dr_cons (op_fab f29_3 rfl rfl) ?_
  all_goals refine dr_cons (op_ld ty3 rfl ho rfl) ?_
  all_goals refine dr_cons (op_eql rfl rfl rfl) ?_
  all_goals refine dr_cons (op_mv rfl (Conv.of rfl) rfl) ?_
  all_goals refine dr_split (t := 12) rfl (fun h => ?_) (fun h => ?_)
  all_goals first | refine dr_cons (g_off rfl rfl rfl rfl rfl) ?_ | refine dr_cons (g_on rfl rfl rfl (op_mv rfl (Conv.of rfl) rfl)) ?_
  all_goals first | refine dr_cons (g_off rfl rfl rfl rfl rfl) ?_ | refine dr_cons (g_on rfl rfl rfl (op_nilc_box rfl rfl)) ?_
  all_goals first | refine dr_cons (g_off rfl rfl rfl rfl rfl) ?_ | refine dr_cons (g_on rfl rfl rfl (op_fab f29_2 rfl rfl)) ?_
  all_goals first | refine dr_cons (g_off rfl rfl rfl rfl rfl) ?_ | refine dr_cons (g_on rfl rfl rfl (op_ld ty27 rfl ho rfl)) ?_
  all_goals first | refine dr_cons (g_off rfl rfl rfl rfl rfl) ?_ | refine dr_cons (g_on rfl rfl rfl (op_ld ty48 rfl rfl rfl)) ?_
  all_goals first | refine dr_cons (g_off rfl rfl rfl rfl rfl) ?_ | refine dr_cons (g_on rfl rfl rfl (op_call fb109 (.cons rfl (Conv.of rfl) (.cons rfl (Conv.of rfl) (.nil _))) (has_ct _ _) (argOk rfl rfl (argOk rfl rfl argOk0)) rfl rfl)) ?_
  all_goals refine dr_cons (op_pick rfl rfl rfl rfl) ?_
  all_goals refine dr_cons (op_as rfl (Conv.of rfl) rfl) ?_
  all_goals refine dr_nil mixed rfl ?_
  all_goals refine awp_ret ?_
  all_goals refine finF (.v rfl (Conv.of rfl)) rfl ?_ (by intro o ho; by_cases e : o = 9 <;> first | (exfalso; subst e; rw [hf] at ho; exact absurd ho (by decide)) | simp only [st0, St.upd, lk, orr, if_neg e]) hH
  all_goals (simp_all [FV.av, shownB])
theorem okFn_ct (v : Vote) (hO : Nat → Wt.Obj) (w : Wrld) (ho : hO 0 = .cell w) (hf : hO 8 = .free) (hf9 : hO 9 = .free) (hH : ∀ o, obOk (pH hO) (hO o)) :
    Ct Tryz.prog 58 [.v v, .box 0 (IsLens.whole Wrld)] hO (fun r1 h1 => r1 = .v (!shownB w v) ∧ h1 = hO) := by
  refine Ct.intro Tryz.func58 rfl rfl ?_
  all_goals refine awp_seq (awp_region (id := 0) ?_)
  all_goals refine awpOps_cons (op_box (o := 8) ty48 rfl (Conv.of rfl) hf rfl) ?_
  all_goals refine awpOps_cons (op_as rfl (Conv.of rfl) rfl) ?_
  all_goals refine awpOps_nil ?_
  have hH' : ∀ o, obOk (pH (fun o => orr (lk [(8, Wt.Obj.cell v)] o) (hO o))) (orr (lk [(8, Wt.Obj.cell v)] o) (hO o)) := fun o => by
    by_cases e : o = 8
    · subst e; exact plain_refs _
    · have := hH o
      simp only [lk, if_neg e, orr]
      cases hx : hO o with
      | free => trivial
      | dead => trivial
      | cell x =>
        rw [hx] at this
        intro o' h'
        have h2 := this o' h'
        unfold pH at h2 ⊢
        by_cases e' : o' = 8
        · subst e'; rfl
        · simpa [lk, e', orr] using h2
      | arr xs =>
        rw [hx] at this
        intro x hx' o' h'
        have h2 := this x hx' o' h'
        unfold pH at h2 ⊢
        by_cases e' : o' = 8
        · subst e'; rfl
        · simpa [lk, e', orr] using h2
  all_goals refine awp_seq (awp_region (id := 1) ?_)
  all_goals refine awpOps_cons (op_ld ty48 rfl rfl rfl) ?_
  all_goals refine awpOps_callH (h := fun o => orr (lk [(8, Wt.Obj.cell v)] o) (hO o)) rfl (fb59) (.cons rfl (Conv.of rfl) (.cons rfl (Conv.of rfl) (.nil _))) rfl (shown_w_ct v _ w (by simpa [lk, orr] using ho) (by simpa [lk, orr] using hf9) hH') (Hand.none (Hand.l1 ⟨rfl, fun o ho' => by simp [AV.refs] at ho'; subst ho'; simp [pH, lk, orr, ho, isFree]⟩ (Hand.l1 (Hand.of rfl rfl) Hand.l0))) hH' rfl rfl ?_
  all_goals refine awpOps_cons (op_not rfl rfl) ?_
  all_goals refine awpOps_cons (op_as rfl (Conv.of rfl) rfl) ?_
  all_goals refine awpOps_nil ?_
  all_goals refine awp_ret ?_
  all_goals refine finF (.v rfl (Conv.of rfl)) rfl rfl (by intro o ho'; by_cases e : o = 8 <;> first | (exfalso; subst e; rw [hf] at ho'; exact absurd ho' (by decide)) | simp only [st0, St.upd, lk, orr, if_neg e]) hH
set_option maxHeartbeats 2000000 in
theorem worldOk_ct (w : Wrld) : CtP Tryz.prog 19 [.v w] (.v (worldOk w)) := by
  refine Ct.intro Tryz.func19 rfl rfl ?_
  all_goals refine awp_seq (awp_region (id := 0) ?_)
  all_goals refine awpOps_cons (op_box (o := 0) ty29 rfl (Conv.of rfl) rfl rfl) ?_
  all_goals refine awpOps_cons (op_as rfl (Conv.of rfl) rfl) ?_
  all_goals refine awpOps_nil ?_
  refine awp_seq (awp_seq_to (s' := mkSt 63 [(1, .box 0 (IsLens.whole Wrld)), (32, .v (!worldOk0 w))] [(0, .cell w)]) ?_ ?_)
  · all_goals refine awp_region (id := 1) ?_
    all_goals refine awpOps_cons (op_fab f29_0 rfl rfl) ?_
    all_goals refine awpOps_cons (op_ld ty3 rfl rfl rfl) ?_
    all_goals refine awpOps_cons (op_call fb54 (.cons rfl (Conv.of rfl) (.cons rfl (Conv.of rfl) (.cons rfl (Conv.of rfl) (.nil _)))) (within_ct _ _ _) (argOk rfl rfl (argOk rfl rfl (argOk rfl rfl argOk0))) rfl rfl) ?_
    all_goals refine awpOps_cons (op_not rfl rfl) ?_
    all_goals refine awpOps_cons (op_mv rfl (Conv.of rfl) rfl) ?_
    all_goals refine g_split (t := 9) rfl (fun h => ?_) (fun h => ?_)
    all_goals first | refine awpOps_cons (g_off rfl rfl rfl rfl rfl) ?_ | refine awpOps_cons (g_on rfl rfl rfl (op_fab f29_3 rfl rfl)) ?_
    all_goals first | refine awpOps_cons (g_off rfl rfl rfl rfl rfl) ?_ | refine awpOps_cons (g_on rfl rfl rfl (op_ld ty3 rfl rfl rfl)) ?_
    all_goals first | refine awpOps_cons (g_off rfl rfl rfl rfl rfl) ?_ | refine awpOps_cons (g_on rfl rfl rfl (op_call fb54 (.cons rfl (Conv.of rfl) (.cons rfl (Conv.of rfl) (.cons rfl (Conv.of rfl) (.nil _)))) (within_ct _ _ _) (argOk rfl rfl (argOk rfl rfl (argOk rfl rfl argOk0))) rfl rfl)) ?_
    all_goals first | refine awpOps_cons (g_off rfl rfl rfl rfl rfl) ?_ | refine awpOps_cons (g_on rfl rfl rfl (op_not rfl rfl)) ?_
    all_goals refine awpOps_cons (op_pick rfl rfl rfl rfl) ?_
    all_goals refine awpOps_cons (op_mv rfl (Conv.of rfl) rfl) ?_
    all_goals first | refine g_lit (t := 15) (b := true) rfl ?_ | refine g_split (t := 15) rfl (fun h => ?_) (fun h => ?_)
    all_goals first | refine awpOps_cons (g_off rfl rfl rfl rfl rfl) ?_ | refine awpOps_cons (g_on rfl rfl rfl (op_fab f29_1 rfl rfl)) ?_
    all_goals first | refine awpOps_cons (g_off rfl rfl rfl rfl rfl) ?_ | refine awpOps_cons (g_on rfl rfl rfl (op_ld ty26 rfl rfl rfl)) ?_
    all_goals first | refine awpOps_cons (g_off rfl rfl rfl rfl rfl) ?_ | refine awpOps_cons (g_on rfl rfl rfl (op_len sl26 rfl rfl)) ?_
    all_goals first | refine awpOps_cons (g_off rfl rfl rfl rfl rfl) ?_ | refine awpOps_cons (g_on rfl rfl rfl (op_neq rfl rfl rfl)) ?_
    all_goals refine awpOps_cons (op_pick rfl rfl rfl rfl) ?_
    all_goals refine awpOps_cons (op_mv rfl (Conv.of rfl) rfl) ?_
    all_goals first | refine g_lit (t := 21) (b := true) rfl ?_ | refine g_split (t := 21) rfl (fun h => ?_) (fun h => ?_)
    all_goals first | refine awpOps_cons (g_off rfl rfl rfl rfl rfl) ?_ | refine awpOps_cons (g_on rfl rfl rfl (op_fab f29_2 rfl rfl)) ?_
    all_goals first | refine awpOps_cons (g_off rfl rfl rfl rfl rfl) ?_ | refine awpOps_cons (g_on rfl rfl rfl (op_ld ty27 rfl rfl rfl)) ?_
    all_goals first | refine awpOps_cons (g_off rfl rfl rfl rfl rfl) ?_ | refine awpOps_cons (g_on rfl rfl rfl (op_len sl27 rfl rfl)) ?_
    all_goals first | refine awpOps_cons (g_off rfl rfl rfl rfl rfl) ?_ | refine awpOps_cons (g_on rfl rfl rfl (op_gtr rfl rfl rfl)) ?_
    all_goals refine awpOps_cons (op_pick rfl rfl rfl rfl) ?_
    all_goals refine awpOps_cons (op_mv rfl (Conv.of rfl) rfl) ?_
    all_goals first | refine g_lit (t := 27) (b := true) rfl ?_ | refine g_split (t := 27) rfl (fun h => ?_) (fun h => ?_)
    all_goals first | refine awpOps_cons (g_off rfl rfl rfl rfl rfl) ?_ | refine awpOps_cons (g_on rfl rfl rfl (op_fab f29_2 rfl rfl)) ?_
    all_goals first | refine awpOps_cons (g_off rfl rfl rfl rfl rfl) ?_ | refine awpOps_cons (g_on rfl rfl rfl (op_ld ty27 rfl rfl rfl)) ?_
    all_goals first | refine awpOps_cons (g_off rfl rfl rfl rfl rfl) ?_ | refine awpOps_cons (g_on rfl rfl rfl (op_call fb55 (.cons rfl (Conv.of rfl) (.nil _)) (votesOk_ct _) (argOk rfl rfl argOk0) rfl rfl)) ?_
    all_goals first | refine awpOps_cons (g_off rfl rfl rfl rfl rfl) ?_ | refine awpOps_cons (g_on rfl rfl rfl (op_not rfl rfl)) ?_
    all_goals refine awpOps_cons (op_pick rfl rfl rfl rfl) ?_
    all_goals refine awpOps_nil ?_
    all_goals exact Le.mk rfl (tlb rfl rfl rfl (tle rfl (by (simp_all [worldOk0] <;> omega)) rfl tln)) (olk rfl (by exact obOk_cell) oln) noS
  refine awp_cond rfl (fun h => ?_) (fun h => ?_)
  · all_goals refine awp_seq (awp_region (id := 2) ?_)
    all_goals refine awpOps_cons (op_as rfl (Conv.of rfl) rfl) ?_
    all_goals refine awpOps_nil ?_
    refine awp_ret ?_
    repeat first | refine rt_seq ?_ | refine rt_block ?_
    refine finP (.v rfl (Conv.of rfl)) rfl ?_
    show AV.v false = _
    simp [worldOk, not_t h]
  · have h0 := not_f h
    have heq : worldOk w = nodesOkFrom w w.nodes 0 := by rw [worldOk, h0, Bool.true_and]
    refine awp_skip ?_
    all_goals refine awp_seq (awp_seq (awp_region (id := 3) ?_))
    all_goals refine awpOps_cons (op_fab f29_1 rfl rfl) ?_
    all_goals refine awpOps_cons (op_ld ty26 rfl rfl rfl) ?_
    refine awpOps_bigL 34 rfl (fun hB => ?_)
    all_goals refine awpOps_cons (op_len sl26 rfl rfl) ?_
    all_goals refine awpOps_cons (op_mv rfl (Conv.of rfl) rfl) ?_
    all_goals refine awpOps_nil ?_
    refine awp_block ?_
    refine awp_loop' (fun n_ s => ∃ (k : Nat), ∃ (hn : n_ + k = w.nodes.length), ∃ (hall : worldOk w = nodesOkFrom w (w.nodes.drop k) k), s = mkSt 63 [(1, .box 0 (IsLens.whole Wrld)), (34, .v w.nodes), (35, .v (w.nodes.length : Int)), (36, .v (k : Int))] [(0, .cell w)]) (w.nodes.length) ⟨0, by omega, heq, rfl⟩ (Le.mk rfl (tlb rfl rfl rfl (tle rfl (rfl) rfl (tle rfl (rfl) rfl (tle rfl (rfl) rfl tln)))) (olk rfl (by exact obOk_cell) oln) noS) ?_
    rintro n_ s ⟨k, hn, hall, rfl⟩
    all_goals refine awp_seq (awp_region (id := 4) ?_)
    all_goals refine awpOps_cons (op_lss rfl rfl rfl) ?_
    all_goals refine awpOps_nil ?_
    refine awp_seq (awp_cond rfl (fun h => ?_) (fun h => ?_))
    · have hlt : k < w.nodes.length := by simpa using h
      have hx : w.nodes[k]? = some w.nodes[k] := List.getElem?_eq_getElem hlt
      generalize w.nodes[k] = a at hx
      have hs := nodesOk_drop (w := w) hx
      refine awp_skip ?_
      refine awp_seq (awp_block ?_)
      all_goals refine awp_seq (awp_region (id := 5) ?_)
      all_goals refine awpOps_cons (op_mv rfl (Conv.of rfl) rfl) ?_
      all_goals refine awpOps_cons (op_ix sl26 rfl rfl rfl (by omega) hx) ?_
      all_goals refine awpOps_cons (op_ldr ty39 rfl rfl) ?_
      all_goals refine awpOps_cons (op_alloc (o := 1) z39 rfl rfl) ?_
      all_goals refine awpOps_cons (op_as rfl (Conv.of rfl) rfl) ?_
      all_goals refine awpOps_cons (op_st ty39 rfl rfl (Conv.of rfl) rfl) ?_
      all_goals refine awpOps_nil ?_
      refine awp_seq (awp_seq_to (s' := mkSt 63 [(1, .box 0 (IsLens.whole Wrld)), (4, .box 1 (IsLens.whole Nod)), (34, .v w.nodes), (35, .v (w.nodes.length : Int)), (36, .v (k : Int)), (57, .v (!(nodeOk a && decide (a.id = (k : Int) + 1) && decide (a.epoch = w.epoch))))] [(0, .cell w), (1, .cell a)]) ?_ ?_)
      · all_goals refine awp_region (id := 6) ?_
        all_goals refine awpOps_cons (op_ld ty39 rfl rfl rfl) ?_
        all_goals refine awpOps_cons (op_call fb56 (.cons rfl (Conv.of rfl) (.nil _)) (nodeOk_ct _) (argOk rfl rfl argOk0) rfl rfl) ?_
        all_goals refine awpOps_cons (op_not rfl rfl) ?_
        all_goals refine awpOps_cons (op_mv rfl (Conv.of rfl) rfl) ?_
        all_goals refine g_split (t := 44) rfl (fun h => ?_) (fun h => ?_)
        all_goals first | refine awpOps_cons (g_off rfl rfl rfl rfl rfl) ?_ | refine awpOps_cons (g_on rfl rfl rfl (op_fab f39_0 rfl rfl)) ?_
        all_goals first | refine awpOps_cons (g_off rfl rfl rfl rfl rfl) ?_ | refine awpOps_cons (g_on rfl rfl rfl (op_ld ty3 rfl rfl rfl)) ?_
        all_goals first | refine awpOps_cons (g_off rfl rfl rfl rfl rfl) ?_ | refine awpOps_cons (g_on rfl rfl rfl (op_mv rfl (Conv.of rfl) rfl)) ?_
        all_goals first | refine awpOps_cons (g_off rfl rfl rfl rfl rfl) ?_ | refine awpOps_cons (g_on rfl rfl rfl (op_add rfl rfl rfl (by omega))) ?_
        all_goals first | refine awpOps_cons (g_off rfl rfl rfl rfl rfl) ?_ | refine awpOps_cons (g_on rfl rfl rfl (op_neq rfl rfl rfl)) ?_
        all_goals refine awpOps_cons (op_pick rfl rfl rfl rfl) ?_
        all_goals refine awpOps_cons (op_mv rfl (Conv.of rfl) rfl) ?_
        all_goals first | refine g_lit (t := 51) (b := true) rfl ?_ | refine g_split (t := 51) rfl (fun h => ?_) (fun h => ?_)
        all_goals first | refine awpOps_cons (g_off rfl rfl rfl rfl rfl) ?_ | refine awpOps_cons (g_on rfl rfl rfl (op_fab f39_1 rfl rfl)) ?_
        all_goals first | refine awpOps_cons (g_off rfl rfl rfl rfl rfl) ?_ | refine awpOps_cons (g_on rfl rfl rfl (op_ld ty3 rfl rfl rfl)) ?_
        all_goals first | refine awpOps_cons (g_off rfl rfl rfl rfl rfl) ?_ | refine awpOps_cons (g_on rfl rfl rfl (op_fab f29_0 rfl rfl)) ?_
        all_goals first | refine awpOps_cons (g_off rfl rfl rfl rfl rfl) ?_ | refine awpOps_cons (g_on rfl rfl rfl (op_ld ty3 rfl rfl rfl)) ?_
        all_goals first | refine awpOps_cons (g_off rfl rfl rfl rfl rfl) ?_ | refine awpOps_cons (g_on rfl rfl rfl (op_neq rfl rfl rfl)) ?_
        all_goals refine awpOps_cons (op_pick rfl rfl rfl rfl) ?_
        all_goals refine awpOps_nil ?_
        all_goals exact Le.mk rfl (tlb rfl rfl rfl (tlb rfl rfl rfl (tle rfl (rfl) rfl (tle rfl (rfl) rfl (tle rfl (rfl) rfl (tle rfl (by (simp_all; try rfl)) rfl tln)))))) (olk rfl (by exact obOk_cell) (olk rfl (by exact obOk_cell) oln)) noS
      refine awp_cond rfl (fun h2 => ?_) (fun h2 => ?_)
      · all_goals refine awp_seq (awp_region (id := 7) ?_)
        all_goals refine awpOps_cons (op_as rfl (Conv.of rfl) rfl) ?_
        all_goals refine awpOps_nil ?_
        refine awp_ret ?_
        repeat first | refine rt_seq ?_ | refine rt_block ?_
        refine finP (.v rfl (Conv.of rfl)) rfl ?_
        show AV.v false = _
        rw [hall, hs, nodeIn, not_t h2, Bool.false_and, Bool.false_and]
      · have h2' := not_f h2
        refine awp_skip ?_
        all_goals refine awp_seq (awp_region (id := 8) ?_)
        all_goals refine awpOps_cons (op_fab f39_3 rfl rfl) ?_
        all_goals refine awpOps_cons (op_ld ty27 rfl rfl rfl) ?_
        all_goals refine awpOps_cons (op_mf (f := 58) .nil (.cons (r := .box 0 (IsLens.whole Wrld)) rfl (Conv.of rfl) .nil) rfl) ?_
        all_goals refine awpOps_callH rfl (fb57) (.cons rfl (Conv.of rfl) (.cons rfl (Conv.of rfl) (.nil _))) rfl (containsV_ct _ _ [] [.box 0 (IsLens.whole Wrld)] _ (fun v => !shownB w v) (fb58) (fun x hx => okFn_ct x _ w rfl rfl rfl (fun o => by by_cases e : o = 0 <;> by_cases e1 : o = 1 <;> simp [mkSt, st0, St.upd, lk, lk0, orr, e, e1, obOk, noObj] <;> exact plain_refs _)) (by intro z hz; simp [avs, FV.av] at hz; subst hz; exact ⟨rfl, fun o ho => by simp [AV.refs] at ho; subst ho; rfl⟩) (fun o => by by_cases e : o = 0 <;> by_cases e1 : o = 1 <;> simp [mkSt, st0, St.upd, lk, lk0, orr, e, e1, obOk, noObj] <;> exact plain_refs _)) (Hand.none (Hand.l1 (Hand.of rfl rfl) (Hand.l1 ⟨rfl, fun o ho => by simp [AV.refs, FV.refs] at ho; subst ho; rfl⟩ Hand.l0))) (fun o => by by_cases e : o = 0 <;> by_cases e1 : o = 1 <;> simp [mkSt, st0, St.upd, lk, lk0, orr, e, e1, obOk, noObj] <;> exact plain_refs _) rfl rfl ?_
        all_goals refine awpOps_nil ?_
        refine awp_cond rfl (fun h3 => ?_) (fun h3 => ?_)
        · all_goals refine awp_seq (awp_region (id := 9) ?_)
          all_goals refine awpOps_cons (op_as rfl (Conv.of rfl) rfl) ?_
          all_goals refine awpOps_nil ?_
          refine awp_ret ?_
          repeat first | refine rt_seq ?_ | refine rt_block ?_
          refine finP (.v rfl (Conv.of rfl)) rfl ?_
          show AV.v false = _
          rw [hall, hs, nodeIn, h3, Bool.not_true, Bool.and_false, Bool.false_and]
        · refine awp_skip ?_
          all_goals refine awp_region (id := 10) ?_
          all_goals refine awpOps_cons (op_add rfl rfl rfl (by omega)) ?_
          all_goals refine awpOps_cons (op_mv rfl (Conv.of rfl) rfl) ?_
          all_goals refine awpOps_nil ?_
          repeat first | refine nx_seq ?_ | refine nx_block ?_
          exact ⟨n_ - 1, _, by omega, ⟨k + 1, by omega, by rw [hall, hs, nodeIn, h2', h3]; rfl, rfl⟩, Le.mk rfl (tlb rfl rfl rfl (tle rfl (rfl) rfl (tle rfl (rfl) rfl (tle rfl (rfl) rfl tln)))) (olk rfl (by exact obOk_cell) oln) noS⟩
    · refine awp_exit ?_
      repeat refine ex_seq ?_
      refine ex_block ?_
      have hk : w.nodes.length ≤ k := by simpa using h
      all_goals refine awp_seq (awp_region (id := 11) ?_)
      all_goals refine awpOps_cons (op_as rfl (Conv.of rfl) rfl) ?_
      all_goals refine awpOps_nil ?_
      refine awp_ret ?_
      repeat first | refine rt_seq ?_ | refine rt_block ?_
      refine finP (.v rfl (Conv.of rfl)) rfl ?_
      show AV.v true = _
      rw [hall, drop_end hk]; rfl
theorem worldDoBad_ct (w : Wrld) (e : Evt) (h : worldOk w = false) : CtP Tryz.prog 25 [.v w, .v e] (.v Wrld.zero) := by
  refine Ct.intro Tryz.func25 rfl rfl ?_
  all_goals refine awp_seq (awp_region (id := 0) ?_)
  all_goals refine awpOps_cons (op_box (o := 0) ty29 rfl (Conv.of rfl) rfl rfl) ?_
  all_goals refine awpOps_cons (op_box (o := 1) ty50 rfl (Conv.of rfl) rfl rfl) ?_
  all_goals refine awpOps_cons (op_alloc (o := 2) z29 rfl rfl) ?_
  all_goals refine awpOps_nil ?_
  all_goals refine awp_seq (awp_seq (awp_region (id := 1) ?_))
  all_goals refine awpOps_cons (op_ld ty29 rfl rfl rfl) ?_
  all_goals refine awpOps_cons (op_call fb19 (.cons rfl (Conv.of rfl) (.nil _)) (worldOk_ct _) (argOk rfl rfl argOk0) rfl rfl) ?_
  all_goals refine awpOps_cons (op_not rfl rfl) ?_
  all_goals refine awpOps_nil ?_
  refine awp_cond rfl (fun h2 => ?_) (fun h2 => absurd (not_f h2) (by rw [h]; decide))
  all_goals refine awp_seq (awp_region (id := 2) ?_)
  all_goals refine awpOps_cons (op_build (.nil _) z29 rfl pl29 rfl) ?_
  all_goals refine awpOps_cons (op_st ty29 rfl rfl (Conv.of rfl) rfl) ?_
  all_goals refine awpOps_nil ?_
  refine awp_ret ?_
  repeat first | refine rt_seq ?_ | refine rt_block ?_
  exact finP (.rc ty29 rfl rfl) rfl rfl
theorem worldDoA_ct (w : Wrld) (e : Evt) (h : worldOk w = true) : Ct Tryz.prog 25 [.v w, .v e] noObj (fun r1 h1 => r1 = .v (WrldA.mk (doF w e).epoch (.ref 2) (doF w e).log (doF w e).bad) ∧ h1 = obs [(2, .arr (doF w e).nodes)]) := by
  have hf := (worldOk_iff.1 h).fx.fine
  have hfd := doF_fine e hf
  refine Ct.intro Tryz.func25 rfl rfl ?_
  all_goals refine awp_seq (awp_region (id := 0) ?_)
  all_goals refine awpOps_cons (op_box (o := 5) ty29 rfl (Conv.of rfl) rfl rfl) ?_
  all_goals refine awpOps_cons (op_box (o := 6) ty50 rfl (Conv.of rfl) rfl rfl) ?_
  all_goals refine awpOps_cons (op_alloc (o := 7) z29_WrldA rfl rfl) ?_
  all_goals refine awpOps_nil ?_
  all_goals refine awp_seq (awp_seq (awp_region (id := 1) ?_))
  all_goals refine awpOps_cons (op_ld ty29_Wrld rfl rfl rfl) ?_
  all_goals refine awpOps_cons (op_call fb19 (.cons rfl (Conv.of rfl) (.nil _)) (worldOk_ct _) (argOk rfl rfl argOk0) rfl rfl) ?_
  all_goals refine awpOps_cons (op_not rfl rfl) ?_
  all_goals refine awpOps_nil ?_
  refine awp_cond rfl (fun h2 => absurd (not_t h2) (by rw [h]; decide)) (fun h2 => ?_)
  refine awp_skip ?_
  all_goals refine awp_seq (awp_region (id := 3) ?_)
  all_goals refine awpOps_cons (op_ld ty29_Wrld rfl rfl rfl) ?_
  refine awpOps_callO [] rfl fb49 (.cons rfl (Conv.of rfl) (.nil _)) (copiedP_w w hf) ols0 oks0 (argOk' rfl rfl argO0) rfl ?_
  rintro r h' ⟨rfl, rfl⟩
  refine ⟨[(1, .arr w.nodes)], rfl, (fun o ho => by cases ho), fun o ho _ => ?_, oksk obOk_arr oks0, fun o ho => ?_, ?_⟩
  · have : o = 1 := by simpa [keys, lk0] using ho
    subst this; rfl
  · have : o = 1 := by simpa using (show o ∈ [1] from ho)
    subst this; rfl
  all_goals refine awpOps_cons (op_alloc (o := 0) z29_WrldA rfl rfl) ?_
  all_goals refine awpOps_cons (op_st ty29_WrldA rfl rfl (Conv.of rfl) rfl) ?_
  all_goals refine awpOps_nil ?_
  all_goals refine awp_seq (awp_region (id := 4) ?_)
  all_goals refine awpOps_cons (op_ld ty50 rfl rfl rfl) ?_
  all_goals refine awpOps_cons (op_callO fb48 (.cons rfl (Conv.of rfl) (.cons rfl (Conv.of rfl) (.nil _))) (do_ct w e hf) (olsk rfl (olsk rfl ols0)) (oksk (by exact obOkW rfl) (oksk (by exact obOk_arr) oks0)) (oksk (by exact obOkW rfl) (oksk (by exact obOk_arr) oks0)) rfl (argOb rfl rfl rfl (argOk' rfl rfl argO0)) (fun o ho => by cases ho) rfl) ?_
  all_goals refine awpOps_nil ?_
  all_goals refine awp_seq (awp_region (id := 5) ?_)
  all_goals refine awpOps_cons (op_ld ty29_WrldA rfl rfl rfl) ?_
  refine awpOps_callO [(1, .arr (doF w e).nodes)] rfl fb49 (.cons rfl (Conv.of rfl) (.nil _)) (copiedA_w _ hfd) (olsk rfl ols0) (oksk obOk_arr oks0) (argOb rfl rfl rfl argO0) rfl ?_
  rintro r h' ⟨rfl, rfl⟩
  refine ⟨[(1, .arr (doF w e).nodes), (2, .arr (doF w e).nodes)], rfl, fun o ho => ?_, fun o ho h1 => ?_, oksk obOk_arr (oksk obOk_arr oks0), fun o ho => ?_, ?_⟩
  · have : o = 1 := by simpa [keys, lk0] using ho
    subst this; rfl
  · by_cases e1 : o = 1
    · subst e1; cases h1
    · have : o = 2 := by simpa [keys, lk0, e1] using ho
      subst this; rfl
  · have : o = 2 := by simpa using (show o ∈ [2] from ho)
    subst this; rfl
  all_goals refine awpOps_cons (op_st ty29_WrldA rfl rfl (Conv.of rfl) rfl) ?_
  all_goals refine awpOps_nil ?_
  refine awp_ret ?_
  repeat first | refine rt_seq ?_ | refine rt_block ?_
  refine ⟨_, _, res1 (ol := [(2, .arr (doF w e).nodes)]) (.rc ty29_WrldA rfl rfl) (fun o ho => ?_) (olk rfl obOk_arr oln) noS, rfl, rfl⟩
  have : o = 2 := by simpa using (show o ∈ [2] from ho)
  subst this; rfl
def worldDoR (w : Wrld) (e : Evt) : Wrld := if worldOk w then doF w e else Wrld.zero
theorem worldDo_ct (w : Wrld) (e : Evt) : CtP Tryz.prog 25 [.v w, .v e] (.v (worldDoR w e)) := by
  unfold worldDoR
  cases h : worldOk w with
  | false => exact worldDoBad_ct w e h
  | true => exact Ct.frz (worldDoA_ct w e h) (frz_one (big4 (doF_fine e (worldOk_iff.1 h).fx.fine).four))
end Go.Proofs.YtompnmkpgffhkaaGreat

/- Quiet epochs: all votes are brought to all. -/
set_option linter.unusedVariables false
set_option linter.unusedSimpArgs false
namespace Go.Wt
def b4 (w : Wrld) (a : Int) : Wrld := wbringF (wbringF (wbringF (wbringF w a 1) a 2) a 3) a 4
def sprF : Nat → Nat → Wrld → Wrld
  | 0, _, w => w
  | n + 1, a, w => if a < w.log.length then sprF n (a + 1) (b4 w a) else w
def spreadF (w : Wrld) : Wrld := sprF 100 0 w
def calmF (w : Wrld) (p : Pay) : Wrld := spreadF (wproposeF (spreadF (tickF w)) (leader (spreadF (tickF w)).epoch) p)
def worldCalmR (w : Wrld) (pays : List Pay) : Wrld := if worldOk w && decide (pays.length ≤ 30) then pays.foldl calmF w else .zero
theorem sprF_stop {n a : Nat} {w : Wrld} (h : ¬ a < w.log.length) : sprF n a w = w := by
  cases n with
  | zero => rfl
  | succ n => simp only [sprF]; rw [if_neg h]
theorem sprF_go {n a : Nat} {w : Wrld} (h : a < w.log.length) : sprF (n + 1) a w = sprF n (a + 1) (b4 w a) := by simp only [sprF]; rw [if_pos h]
theorem bring_fine {w : Wrld} (h : Fine w) (a id : Int) : Fine (wbringF w a id) := doF_fine ⟨3, a, id, .zero, .zero⟩ h
theorem propose_fine {w : Wrld} (h : Fine w) (id : Int) (p : Pay) : Fine (wproposeF w id p) := doF_fine ⟨2, id, 0, p, .zero⟩ h
theorem tick_fine {w : Wrld} (h : Fine w) : Fine (tickF w) := doF_fine ⟨1, 0, 0, .zero, .zero⟩ h
def brN (w : Wrld) (a : Int) : Nat → Wrld
  | 0 => w
  | k + 1 => wbringF (brN w a k) a ((k : Int) + 1)
theorem brN_fine {w : Wrld} (h : Fine w) (a : Int) : ∀ k, Fine (brN w a k)
  | 0 => h
  | k + 1 => bring_fine (brN_fine h a k) a _
theorem b4_eq (w : Wrld) (a : Int) : brN w a 4 = b4 w a := rfl
theorem b4_fine {w : Wrld} (h : Fine w) (a : Int) : Fine (b4 w a) := brN_fine h a 4
theorem sprF_fine : ∀ (n a : Nat) {w : Wrld}, Fine w → Fine (sprF n a w)
  | 0, _, _, h => h
  | n + 1, a, w, h => by
    simp only [sprF]
    split
    · exact sprF_fine n (a + 1) (b4_fine h a)
    · exact h
theorem spread_fine {w : Wrld} (h : Fine w) : Fine (spreadF w) := sprF_fine 100 0 h
theorem calm_fine {w : Wrld} (h : Fine w) (p : Pay) : Fine (calmF w p) := spread_fine (propose_fine (spread_fine (tick_fine h)) _ p)
theorem calmFold_fine : ∀ (l : List Pay) {w : Wrld}, Fine w → Fine (l.foldl calmF w)
  | [], _, h => h
  | p :: l, _, h => calmFold_fine l (calm_fine h p)
/-! ### Lists without one twice -/
theorem nodup_len {α : Type} [DecidableEq α] : ∀ (l m : List α), l.Nodup → (∀ x ∈ l, x ∈ m) → l.length ≤ m.length
  | [], m, _, _ => Nat.zero_le _
  | x :: l, m, h, hs => by
    rw [List.nodup_cons] at h
    have hx := hs x (by simp)
    have := nodup_len l (m.erase x) h.2 fun y hy => (List.mem_erase_of_ne (show y ≠ x from fun e => h.1 (by rw [← e]; exact hy))).2 (hs y (by simp [hy]))
    rw [List.length_erase_of_mem hx] at this
    have := List.length_pos_of_mem hx
    simp only [List.length_cons]
    omega
theorem map_nodup {α β : Type} (f : α → β) : ∀ (l : List α), l.Nodup → (∀ x ∈ l, ∀ y ∈ l, f x = f y → x = y) → (l.map f).Nodup
  | [], _, _ => by simp
  | x :: l, h, hi => by
    rw [List.nodup_cons] at h
    rw [List.map_cons, List.nodup_cons]
    refine ⟨fun hm => ?_, map_nodup f l h.2 fun a ha b hb => hi a (by simp [ha]) b (by simp [hb])⟩
    obtain ⟨y, hy, e⟩ := List.mem_map.1 hm
    exact h.1 (hi y (by simp [hy]) x (by simp) e ▸ hy)
/-! ### What one event sends -/
theorem putF_log (w : Wrld) (k : Nat) (x : Nod × Vote × Bool) : (putF w k x).log = w.log ∨ (x.2.2 = true ∧ (putF w k x).log = w.log ++ [x.2.1]) := by
  unfold putF
  split
  · rename_i hx
    unfold sendF
    split
    · exact .inr ⟨hx, rfl⟩
    · exact .inl rfl
  · exact .inl rfl
theorem voteF_ch {n : Nod} {c : List Itm} (h : (voteF n c).2.2 = true) : (voteF n c).2.1.chain = c := by
  unfold voteF at h ⊢
  split at h
  · cases h
  · rename_i hh; rw [if_neg hh]
theorem tryF_last {n : Nod} : ∀ {l : List Vote}, (tryF n l).2.2 = true → lastEp (tryF n l).2.1.chain = n.epoch
  | [], h => by cases h
  | u :: r, h => by
    simp only [tryF] at h ⊢
    split at h
    · rename_i hf
      rw [if_pos hf, voteF_ch h]
      simp only [fits, Bool.and_eq_true, decide_eq_true_eq] at hf
      exact hf.1.1.2
    · rename_i hf; rw [if_neg hf]; exact tryF_last h
theorem hear_last {n : Nod} {v : Vote} (h : (hearF n v).2.2 = true) : lastEp (hearF n v).2.1.chain = n.epoch := by
  unfold hearF at h ⊢
  split at h
  · rename_i h1
    rw [if_pos h1]
    split at h
    · rename_i h2
      rw [if_pos h2, tryF_last h, (seeF_epoch n v).1]
    · cases h
  · cases h
theorem propose_last {n : Nod} {p : Pay} (h : (proposeF n p).2.2 = true) : lastEp (proposeF n p).2.1.chain = n.epoch := by
  rcases propose_cases n p with e | ⟨c, hc, e⟩
  · rw [e] at h; cases h
  · rw [e] at h ⊢; rw [voteF_ch h]; exact hc.last
/-- At most one vote is sent, by one that does not lie, of this epoch. -/
def Sent (w w' : Wrld) : Prop := w'.epoch = w.epoch ∧ w'.bad = w.bad ∧ (w'.log = w.log ∨ ∃ v, w'.log = w.log ++ [v] ∧ v.by_ ≠ w.bad ∧ lastEp v.chain = w.epoch)
theorem Sent.refl (w : Wrld) : Sent w w := ⟨rfl, rfl, .inl rfl⟩
theorem putF_eb (w : Wrld) (k : Nat) (x : Nod × Vote × Bool) : (putF w k x).epoch = w.epoch ∧ (putF w k x).bad = w.bad := by
  unfold putF sendF
  split
  · split <;> exact ⟨rfl, rfl⟩
  · exact ⟨rfl, rfl⟩
theorem Sent.bring {w : Wrld} (h : Inv w) (a id : Int) : Sent w (wbringF w a id) := by
  unfold wbringF
  split
  · rename_i hh
    simp only [honestB, Bool.and_eq_true, Bool.not_eq_true', decide_eq_false_iff_not, decide_eq_true_eq] at hh
    have hid : 1 ≤ id ∧ id ≤ 4 := by simpa [within] using hh.1.1.1
    split
    · rename_i n v hn hv
      have hi := node_id h hid hn
      have hN := h.nodes _ n hn
      refine ⟨(putF_eb _ _ _).1, (putF_eb _ _ _).2, ?_⟩
      rcases putF_log w (id - 1).toNat (hearF n v) with e | ⟨hx, e⟩
      · exact .inl e
      · exact .inr ⟨_, e, by rw [hear_by hx, hi]; exact hh.1.1.2, by rw [hear_last hx, hN.ep]⟩
    · exact Sent.refl w
  · exact Sent.refl w
theorem Sent.propose {w : Wrld} (h : Inv w) (id : Int) (p : Pay) : Sent w (wproposeF w id p) := by
  unfold wproposeF
  split
  · rename_i hh
    simp only [honestB, Bool.and_eq_true, Bool.not_eq_true', decide_eq_false_iff_not, decide_eq_true_eq] at hh
    have hid : 1 ≤ id ∧ id ≤ 4 := by simpa [within] using hh.1.1.1
    split
    · rename_i n hn
      have hi := node_id h hid hn
      have hN := h.nodes _ n hn
      refine ⟨(putF_eb _ _ _).1, (putF_eb _ _ _).2, ?_⟩
      rcases putF_log w (id - 1).toNat (proposeF n p) with e | ⟨hx, e⟩
      · exact .inl e
      · exact .inr ⟨_, e, by rw [propose_by hx, hi]; exact hh.1.1.2, by rw [propose_last hx, hN.ep]⟩
    · exact Sent.refl w
  · exact Sent.refl w
/-- An epoch that began with these votes sent. -/
structure Ep (L0 : List Vote) (e bad : Int) (w : Wrld) : Prop where
  inv : Inv w
  ep : w.epoch = e
  bd : w.bad = bad
  new : ∃ N, w.log = L0 ++ N ∧ ∀ v ∈ N, v.by_ ≠ bad ∧ lastEp v.chain = e
theorem Ep.sent {L0 : List Vote} {e bad : Int} {w w' : Wrld} (h : Ep L0 e bad w) (hI : Inv w') (hs : Sent w w') : Ep L0 e bad w' := by
  obtain ⟨N, hN, hv⟩ := h.new
  refine ⟨hI, by rw [hs.1, h.ep], by rw [hs.2.1, h.bd], ?_⟩
  rcases hs.2.2 with e' | ⟨v, e', h1, h2⟩
  · exact ⟨N, by rw [e', hN], hv⟩
  · refine ⟨N ++ [v], by rw [e', hN, List.append_assoc], fun u hu => ?_⟩
    rcases List.mem_append.1 hu with hu | hu
    · exact hv u hu
    · simp at hu; subst hu
      exact ⟨by rw [← h.bd]; exact h1, by rw [← h.ep]; exact h2⟩
theorem Ep.bring {L0 : List Vote} {e bad : Int} {w : Wrld} (h : Ep L0 e bad w) (a id : Int) : Ep L0 e bad (wbringF w a id) := h.sent (h.inv.bring a id) (Sent.bring h.inv a id)
theorem Ep.propose {L0 : List Vote} {e bad : Int} {w : Wrld} (h : Ep L0 e bad w) (id : Int) (p : Pay) : Ep L0 e bad (wproposeF w id p) := h.sent (h.inv.propose id p) (Sent.propose h.inv id p)
theorem Ep.b4 {L0 : List Vote} {e bad : Int} {w : Wrld} (h : Ep L0 e bad w) (a : Int) : Ep L0 e bad (b4 w a) := (((h.bring a 1).bring a 2).bring a 3).bring a 4
theorem log_nodup {w : Wrld} (h : Inv w) : w.log.Nodup := (votesOk_iff.1 h.ok.log).2
/-- Each sends one at most. -/
theorem Ep.four {L0 : List Vote} {e bad : Int} {w : Wrld} (h : Ep L0 e bad w) : w.log.length ≤ L0.length + 4 := by
  obtain ⟨N, hN, hv⟩ := h.new
  have hnd := log_nodup h.inv
  rw [hN, List.nodup_append] at hnd
  have hm : ∀ v ∈ N, v ∈ w.log := fun v hv' => by rw [hN]; exact List.mem_append_right _ hv'
  have hinj := map_nodup Vote.by_ N hnd.2.1 fun u hu v hv' e' => h.inv.safe.one u (hm u hu) v (hm v hv') e' (by rw [h.bd]; exact (hv u hu).1) (by rw [(hv u hu).2, (hv v hv').2])
  have hle := nodup_len (N.map Vote.by_) [1, 2, 3, 4] hinj fun x hx => by
    obtain ⟨v, hv', rfl⟩ := List.mem_map.1 hx
    have := votesOk_mem h.inv.ok.log v (hm v hv')
    simp only [voteOk, Bool.and_eq_true, within, decide_eq_true_eq] at this
    have h1 := this.1.1
    simp only [List.mem_cons, List.not_mem_nil, or_false]
    omega
  rw [hN, List.length_append]
  simp at hle
  omega
theorem Ep.tick {w : Wrld} (h : Inv w) (h30 : w.epoch + 1 ≤ 30) : Ep w.log (w.epoch + 1) w.bad (tickF w) :=
  ⟨h.tick, by show min (w.epoch + 1) 30 = _; omega, rfl, [], by simp [tickF], fun v hv => by cases hv⟩
theorem Grw.bring (w : Wrld) (a id : Int) : Grw w (wbringF w a id) := Grw.do w ⟨3, a, id, .zero, .zero⟩
theorem Grw.propose (w : Wrld) (id : Int) (p : Pay) : Grw w (wproposeF w id p) := Grw.do w ⟨2, id, 0, p, .zero⟩
theorem Grw.tick (w : Wrld) : Grw w (tickF w) := Grw.do w ⟨1, 0, 0, .zero, .zero⟩
theorem Grw.b4 (w : Wrld) (a : Int) : Grw w (b4 w a) := (((Grw.bring w a 1).trans (Grw.bring _ a 2)).trans (Grw.bring _ a 3)).trans (Grw.bring _ a 4)
/-- Who is brought a vote has seen it. -/
theorem hearF_has {n : Nod} {v : Vote} (hv : voteOk v = true) (hb : v.by_ ≠ n.id) (hl : n.seen.length < 80) : v ∈ (hearF n v).1.seen := by
  have hs : v ∈ (seeF n v).seen := by
    unfold seeF
    split
    · rename_i h; simpa using h
    · simp
  unfold hearF
  rw [if_pos (by simp [hv, hb, hl])]
  split
  · exact tryF_seen _ _ _ hs
  · exact hs
theorem seen_le {w : Wrld} (h : Inv w) {k : Nat} {n : Nod} (hn : w.nodes[k]? = some n) (hb : (k : Int) + 1 ≠ w.bad) : n.seen.length ≤ w.log.length := by
  have hN := h.nodes k n hn
  exact nodup_len _ _ (votesOk_iff.1 (nodeOk_seen (h.ok.nodes n (List.mem_of_getElem? hn))).1).2 (hN.sub (by rw [hN.id]; exact hb))
theorem node_at {w : Wrld} (h : Inv w) {k : Nat} (hk : k < 4) : ∃ n, w.nodes[k]? = some n := ⟨_, List.getElem?_eq_getElem (by have := h.ok.four; omega)⟩
theorem bring_has {w : Wrld} (h : Inv w) {a k : Nat} {v : Vote} (hk : k < 4) (hb : (k : Int) + 1 ≠ w.bad) (ha : w.log[a]? = some v) (hl : w.log.length < 80) : ∃ n, (wbringF w a ((k : Int) + 1)).nodes[k]? = some n ∧ v ∈ n.seen := by
  obtain ⟨n, hn⟩ := node_at h hk
  have hN := h.nodes k n hn
  have hk' : ((k : Int) + 1 - 1).toNat = k := by omega
  have hal := (List.getElem?_eq_some_iff.1 ha).1
  have hidb : n.id ≠ w.bad := by rw [hN.id]; exact hb
  unfold wbringF
  rw [if_pos (by simp only [honestB, within, Bool.and_eq_true, decide_eq_true_eq, Bool.not_eq_true', decide_eq_false_iff_not]; omega), hk', hn]
  simp only [Int.toNat_natCast, ha]
  refine ⟨(hearF n v).1, by rw [put_nodes', List.getElem?_set_self (by have := h.ok.four; omega)], ?_⟩
  by_cases hby : v.by_ = n.id
  · exact hearF_seen n v v (hN.own hidb v (List.mem_of_getElem? ha) hby)
  · exact hearF_has (votesOk_mem h.ok.log v (List.mem_of_getElem? ha)) hby (by have := seen_le h hn hb; omega)
/-- All that do not lie have seen what was sent first. -/
def Had (a : Nat) (w : Wrld) : Prop := ∀ (j : Nat) (v : Vote), j < a → w.log[j]? = some v → ∀ (k : Nat) (n : Nod), w.nodes[k]? = some n → (k : Int) + 1 ≠ w.bad → v ∈ n.seen
theorem Grw.node {w w' : Wrld} (h : Grw w w') (hI : Inv w) (hI' : Inv w') {k : Nat} {v : Vote} (hx : ∃ n, w.nodes[k]? = some n ∧ v ∈ n.seen) : ∃ n, w'.nodes[k]? = some n ∧ v ∈ n.seen := by
  obtain ⟨n, hn, hv⟩ := hx
  obtain ⟨m, hm, hs⟩ := h.seen k n hn
  exact ⟨m, hm, hs v hv⟩
def LogPre (w w' : Wrld) : Prop := ∃ N, w'.log = w.log ++ N
theorem LogPre.refl (w : Wrld) : LogPre w w := ⟨[], by simp⟩
theorem LogPre.trans {a b c : Wrld} (h : LogPre a b) (k : LogPre b c) : LogPre a c := by
  obtain ⟨N, h⟩ := h
  obtain ⟨M, k⟩ := k
  exact ⟨N ++ M, by rw [k, h, List.append_assoc]⟩
theorem Sent.pre {w w' : Wrld} (h : Sent w w') : LogPre w w' := by
  rcases h.2.2 with e | ⟨v, e, _⟩
  · exact ⟨[], by simp [e]⟩
  · exact ⟨[v], e⟩
theorem LogPre.at {w w' : Wrld} (h : LogPre w w') {j : Nat} {v : Vote} (hj : w.log[j]? = some v) : w'.log[j]? = some v := by
  obtain ⟨N, h⟩ := h
  rw [h, List.getElem?_append_left (List.getElem?_eq_some_iff.1 hj).1, hj]
theorem b4_has {L0 : List Vote} {e bad : Int} {w : Wrld} (h : Ep L0 e bad w) (hL : L0.length + 4 < 80) {a k : Nat} {v : Vote} (hk : k < 4) (hb : (k : Int) + 1 ≠ bad) (ha : w.log[a]? = some v) : ∃ n, (b4 w a).nodes[k]? = some n ∧ v ∈ n.seen := by
  have e1 := h.bring a 1
  have e2 := e1.bring a 2
  have e3 := e2.bring a 3
  have e4 := e3.bring a 4
  have a1 := (Sent.bring h.inv a 1).pre.at ha
  have a2 := (Sent.bring e1.inv a 2).pre.at a1
  have a3 := (Sent.bring e2.inv a 3).pre.at a2
  have l0 := h.four
  have l1 := e1.four
  have l2 := e2.four
  have l3 := e3.four
  have hcase : k = 0 ∨ k = 1 ∨ k = 2 ∨ k = 3 := by omega
  rcases hcase with rfl | rfl | rfl | rfl
  · exact ((Grw.bring _ a 2).trans ((Grw.bring _ a 3).trans (Grw.bring _ a 4))).node e1.inv e4.inv (bring_has h.inv (k := 0) (by omega) (by rw [h.bd]; exact hb) ha (by omega))
  · exact ((Grw.bring _ a 3).trans (Grw.bring _ a 4)).node e2.inv e4.inv (bring_has e1.inv (k := 1) (by omega) (by rw [e1.bd]; exact hb) a1 (by omega))
  · exact (Grw.bring _ a 4).node e3.inv e4.inv (bring_has e2.inv (k := 2) (by omega) (by rw [e2.bd]; exact hb) a2 (by omega))
  · exact bring_has e3.inv (k := 3) (by omega) (by rw [e3.bd]; exact hb) a3 (by omega)
theorem b4_pre {L0 : List Vote} {e bad : Int} {w : Wrld} (h : Ep L0 e bad w) (a : Int) : LogPre w (b4 w a) :=
  (((Sent.bring h.inv a 1).pre.trans (Sent.bring (h.bring a 1).inv a 2).pre).trans (Sent.bring ((h.bring a 1).bring a 2).inv a 3).pre).trans (Sent.bring (((h.bring a 1).bring a 2).bring a 3).inv a 4).pre
theorem Had.b4 {L0 : List Vote} {e bad : Int} {w : Wrld} (h : Ep L0 e bad w) (hL : L0.length + 4 < 80) {a : Nat} (ha : a < w.log.length) (hh : Had a w) : Had (a + 1) (b4 w a) := fun j v hj hv k n hn hb => by
  have h' := h.b4 a
  have hk : k < 4 := by have := h'.inv.ok.four; have := (List.getElem?_eq_some_iff.1 hn).1; omega
  have hjl : j < w.log.length := by omega
  have hv0 : w.log[j]? = some w.log[j] := List.getElem?_eq_getElem hjl
  have hv1 := (b4_pre h a).at hv0
  rw [hv] at hv1
  injection hv1 with hv1
  rw [← hv1] at hv0
  have hbad : (k : Int) + 1 ≠ bad := by rw [← h'.bd]; exact hb
  by_cases e : j = a
  · subst e
    obtain ⟨m, hm, hmv⟩ := b4_has h hL hk hbad hv0
    rw [hn] at hm; injection hm with hm; subst hm; exact hmv
  · obtain ⟨n0, hn0⟩ := node_at h.inv hk
    have := hh j v (by omega) hv0 k n0 hn0 (by rw [h.bd]; exact hbad)
    obtain ⟨m, hm, hmv⟩ := (Grw.b4 w a).node h.inv h'.inv ⟨n0, hn0, this⟩
    rw [hn] at hm; injection hm with hm; subst hm; exact hmv
theorem sprF_ep {L0 : List Vote} {e bad : Int} (hL : L0.length + 4 < 80) : ∀ (n a : Nat) {w : Wrld}, 80 ≤ n + a → Ep L0 e bad w → Had a w → Ep L0 e bad (sprF n a w) ∧ Had (sprF n a w).log.length (sprF n a w) ∧ Grw w (sprF n a w) ∧ LogPre w (sprF n a w)
  | 0, a, w, hf, h, hh => ⟨h, fun j v hj hv => hh j v (by have := h.four; simp only [sprF] at hj; omega) hv, Grw.refl w, LogPre.refl w⟩
  | n + 1, a, w, hf, h, hh => by
    by_cases ha : a < w.log.length
    · rw [sprF_go ha]
      obtain ⟨r1, r3, r4, r5⟩ := sprF_ep hL n (a + 1) (by omega) (h.b4 a) (Had.b4 h hL ha hh)
      exact ⟨r1, r3, (Grw.b4 w a).trans r4, (b4_pre h a).trans r5⟩
    · rw [sprF_stop ha]
      exact ⟨h, fun j v hj hv => hh j v (by omega) hv, Grw.refl w, LogPre.refl w⟩
theorem Ep.spread {L0 : List Vote} {e bad : Int} {w : Wrld} (hL : L0.length + 4 < 80) (h : Ep L0 e bad w) : Ep L0 e bad (spreadF w) ∧ Had (spreadF w).log.length (spreadF w) ∧ Grw w (spreadF w) ∧ LogPre w (spreadF w) := by
  obtain ⟨a, c, d, e⟩ := sprF_ep hL 100 0 (by omega) h (fun j v hj => absurd hj (by omega))
  exact ⟨a, c, d, e⟩
theorem Ep.calm {w : Wrld} (p : Pay) (h : Inv w) (h30 : w.epoch + 1 ≤ 30) (hL : w.log.length + 4 < 80) : Ep w.log (w.epoch + 1) w.bad (calmF w p) ∧ Had (calmF w p).log.length (calmF w p) ∧ Grw w (calmF w p) ∧ LogPre w (calmF w p) := by
  have h1 := Ep.tick h h30
  obtain ⟨h2, _, g2, l2⟩ := Ep.spread hL h1
  have h3 := h2.propose (leader (spreadF (tickF w)).epoch) p
  obtain ⟨h4, c4, g4, l4⟩ := Ep.spread hL h3
  exact ⟨h4, c4, ((Grw.tick w).trans g2).trans ((Grw.propose _ _ _).trans g4), (LogPre.trans ⟨[], by simp [tickF]⟩ l2).trans ((Sent.propose h2.inv _ _).pre.trans l4)⟩
/-- All that do not lie have seen all. -/
theorem had_all {w : Wrld} (h : Inv w) (hh : Had w.log.length w) {k : Nat} {n : Nod} (hn : w.nodes[k]? = some n) (hb : (k : Int) + 1 ≠ w.bad) : (∀ v ∈ w.log, v ∈ n.seen) ∧ (∀ v ∈ n.seen, v ∈ w.log) ∧ n.seen.length = w.log.length := by
  have hN := h.nodes k n hn
  have h1 : ∀ v ∈ w.log, v ∈ n.seen := fun v hv => by
    obtain ⟨j, hj⟩ := List.mem_iff_getElem?.1 hv
    exact hh j v (List.getElem?_eq_some_iff.1 hj).1 hj k n hn hb
  have h2 := hN.sub (by rw [hN.id]; exact hb)
  have := seen_le h hn hb
  have := nodup_len _ _ (log_nodup h) h1
  exact ⟨h1, h2, by omega⟩
end Go.Wt
namespace Go.Wt
/-! ### What comes late -/
def lateF (w : Wrld) (id : Int) : Nat → Wrld
  | 0 => w
  | k + 1 => doF (lateF w id k) ⟨3, (k : Int), id, .zero, .zero⟩
theorem late_inv {w : Wrld} (h : Inv w) (id : Int) : ∀ k, Inv (lateF w id k)
  | 0 => h
  | k + 1 => (late_inv h id k).do _
theorem late_grw (w : Wrld) (id : Int) : ∀ k, Grw w (lateF w id k)
  | 0 => Grw.refl w
  | k + 1 => (late_grw w id k).trans (Grw.do _ _)
theorem late_bad (w : Wrld) (id : Int) : ∀ k, (lateF w id k).bad = w.bad
  | 0 => rfl
  | k + 1 => (doF_bad _ _).trans (late_bad w id k)
end Go.Wt
namespace Go.Wt
/-! ### Room for so many epochs -/
def roomB (w : Wrld) (k : Nat) : Bool := decide (w.epoch + (k : Int) ≤ 30) && decide ((w.log.length : Int) + 4 * (k : Int) < 80) && w.log.all fun v => decide ((v.chain.length : Int) + (k : Int) ≤ 16)
theorem roomB_no1 {w : Wrld} {k : Nat} (h : (decide (30 < w.epoch + (k : Int)) || decide (80 ≤ (w.log.length : Int) + 4 * (k : Int))) = true) : roomB w k = false := by
  cases hr : roomB w k with
  | false => rfl
  | true =>
    exfalso
    simp only [roomB, Bool.and_eq_true, decide_eq_true_eq] at hr
    simp only [Bool.or_eq_true, decide_eq_true_eq] at h
    omega
theorem roomB_no2 {w : Wrld} {k i : Nat} {v : Vote} (hv : w.log[i]? = some v) (h : 16 < (v.chain.length : Int) + (k : Int)) : roomB w k = false := by
  cases hr : roomB w k with
  | false => rfl
  | true =>
    exfalso
    simp only [roomB, Bool.and_eq_true, List.all_eq_true, decide_eq_true_eq] at hr
    have := hr.2 v (List.mem_of_getElem? hv)
    omega
theorem roomB_yes {w : Wrld} {k : Nat} (h : (decide (30 < w.epoch + (k : Int)) || decide (80 ≤ (w.log.length : Int) + 4 * (k : Int))) = false) (ha : ∀ j < w.log.length, ∀ v, w.log[j]? = some v → (v.chain.length : Int) + (k : Int) ≤ 16) : roomB w k = true := by
  simp only [Bool.or_eq_false_iff, decide_eq_false_iff_not] at h
  simp only [roomB, Bool.and_eq_true, List.all_eq_true, decide_eq_true_eq]
  refine ⟨⟨by omega, by omega⟩, fun v hv => ?_⟩
  obtain ⟨j, hj⟩ := List.mem_iff_getElem?.1 hv
  exact ha j (List.getElem?_eq_some_iff.1 hj).1 v hj
structure Small (w : Wrld) : Prop where
  e1 : -1000000 ≤ w.epoch ∧ w.epoch ≤ 1000000
  e2 : w.log.length ≤ 1000000
  e3 : ∀ v ∈ w.log, v.chain.length ≤ 1000000
theorem Inv.small {w : Wrld} (h : Inv w) : Small w := ⟨by have := h.ok.ep; omega, by have := h.ok.ll; omega, fun v hv => voteOk_len (votesOk_mem h.ok.log v hv)⟩
theorem small_zero : Small .zero := ⟨by simp [Wrld.zero], by simp [Wrld.zero], fun v hv => by cases hv⟩
end Go.Wt

/- Quiet epochs. -/
set_option linter.unusedVariables false
set_option linter.unusedSimpArgs false
namespace Go.Proofs.YtompnmkpgffhkaaGreat
open Go Go.Wt
set_option maxHeartbeats 1000000 in
theorem spread_ct (w : Wrld) (hw : Fine w) : CtO Tryz.prog 121 [.box 0 (IsLens.whole WrldA)] (wo w) (.tup []) (wo (spreadF w)) := by
  refine Ct.intro Tryz.func121 rfl rfl ?_
  all_goals first | refine awp_seq (awp_region (id := 0) ?_) | refine awp_seq (awp_seq (awp_region (id := 0) ?_)) | refine awp_region (id := 0) ?_ | refine awp_seq (awp_seq (awp_seq (awp_region (id := 0) ?_)))
  all_goals refine awpOps_cons (op_as rfl (Conv.of rfl) rfl) ?_
  all_goals refine awpOps_nil ?_
  first | refine awp_seq (awp_block ?_) | refine awp_seq (awp_seq (awp_block ?_)) | refine awp_block ?_ | refine awp_seq (awp_seq (awp_seq (awp_block ?_)))
  first | refine awp_seq (awp_loop' (fun n_ s => ∃ (a : Nat), ∃ (x : Wrld), ∃ (hx : Fine x), ∃ (he : sprF (100 - a) a x = spreadF w), ∃ (hn : n_ + a = 100), s = mkSt 21 [(0, .box 0 (IsLens.whole WrldA)), (2, .v (a : Int))] [(0, .cell (wA x)), (1, .arr x.nodes)]) (100) ⟨0, w, hw, rfl, by omega, rfl⟩ (Le.mk rfl (tlb rfl rfl rfl (tle rfl (rfl) rfl tln)) (olk rfl (by first | exact obOk_cell | exact obOk_arr | exact obOkW rfl | exact obOkW0 | exact obOkN | exact obOkS rfl | exact obOkNs | exact obOkS0 | trivial) (olk rfl (by first | exact obOk_cell | exact obOk_arr | exact obOkW rfl | exact obOkW0 | exact obOkN | exact obOkS rfl | exact obOkNs | exact obOkS0 | trivial) oln)) (hS_sub (a := wo w) rfl)) ?_) | refine awp_seq (awp_seq (awp_loop' (fun n_ s => ∃ (a : Nat), ∃ (x : Wrld), ∃ (hx : Fine x), ∃ (he : sprF (100 - a) a x = spreadF w), ∃ (hn : n_ + a = 100), s = mkSt 21 [(0, .box 0 (IsLens.whole WrldA)), (2, .v (a : Int))] [(0, .cell (wA x)), (1, .arr x.nodes)]) (100) ⟨0, w, hw, rfl, by omega, rfl⟩ (Le.mk rfl (tlb rfl rfl rfl (tle rfl (rfl) rfl tln)) (olk rfl (by first | exact obOk_cell | exact obOk_arr | exact obOkW rfl | exact obOkW0 | exact obOkN | exact obOkS rfl | exact obOkNs | exact obOkS0 | trivial) (olk rfl (by first | exact obOk_cell | exact obOk_arr | exact obOkW rfl | exact obOkW0 | exact obOkN | exact obOkS rfl | exact obOkNs | exact obOkS0 | trivial) oln)) (hS_sub (a := wo w) rfl)) ?_)) | refine awp_loop' (fun n_ s => ∃ (a : Nat), ∃ (x : Wrld), ∃ (hx : Fine x), ∃ (he : sprF (100 - a) a x = spreadF w), ∃ (hn : n_ + a = 100), s = mkSt 21 [(0, .box 0 (IsLens.whole WrldA)), (2, .v (a : Int))] [(0, .cell (wA x)), (1, .arr x.nodes)]) (100) ⟨0, w, hw, rfl, by omega, rfl⟩ (Le.mk rfl (tlb rfl rfl rfl (tle rfl (rfl) rfl tln)) (olk rfl (by first | exact obOk_cell | exact obOk_arr | exact obOkW rfl | exact obOkW0 | exact obOkN | exact obOkS rfl | exact obOkNs | exact obOkS0 | trivial) (olk rfl (by first | exact obOk_cell | exact obOk_arr | exact obOkW rfl | exact obOkW0 | exact obOkN | exact obOkS rfl | exact obOkNs | exact obOkS0 | trivial) oln)) (hS_sub (a := wo w) rfl)) ?_ | refine awp_seq (awp_seq (awp_seq (awp_loop' (fun n_ s => ∃ (a : Nat), ∃ (x : Wrld), ∃ (hx : Fine x), ∃ (he : sprF (100 - a) a x = spreadF w), ∃ (hn : n_ + a = 100), s = mkSt 21 [(0, .box 0 (IsLens.whole WrldA)), (2, .v (a : Int))] [(0, .cell (wA x)), (1, .arr x.nodes)]) (100) ⟨0, w, hw, rfl, by omega, rfl⟩ (Le.mk rfl (tlb rfl rfl rfl (tle rfl (rfl) rfl tln)) (olk rfl (by first | exact obOk_cell | exact obOk_arr | exact obOkW rfl | exact obOkW0 | exact obOkN | exact obOkS rfl | exact obOkNs | exact obOkS0 | trivial) (olk rfl (by first | exact obOk_cell | exact obOk_arr | exact obOkW rfl | exact obOkW0 | exact obOkN | exact obOkS rfl | exact obOkNs | exact obOkS0 | trivial) oln)) (hS_sub (a := wo w) rfl)) ?_)))
  rintro n_ s ⟨a, x, hx, he, hn, rfl⟩
  all_goals first | refine awp_seq (awp_region (id := 1) ?_) | refine awp_seq (awp_seq (awp_region (id := 1) ?_)) | refine awp_region (id := 1) ?_ | refine awp_seq (awp_seq (awp_seq (awp_region (id := 1) ?_)))
  all_goals first | refine awpOps_cons (op_mv rfl (Conv.of rfl) rfl) ?_ | refine awpOps_cons (op_mvl rfl rfl rfl rfl) ?_ | refine awpOps_cons (op_mvo rfl rfl rfl rfl) ?_
  all_goals first | refine awpOps_cons (op_mv rfl (Conv.of rfl) rfl) ?_ | refine awpOps_cons (op_mvl rfl rfl rfl rfl) ?_ | refine awpOps_cons (op_mvo rfl rfl rfl rfl) ?_
  all_goals first | refine awpOps_cons (op_nilc_box rfl rfl) ?_ | refine awpOps_cons (op_nilc_elm rfl rfl) ?_
  all_goals first | refine awpOps_cons (op_fab f29_2_WrldA rfl rfl) ?_ | refine awpOps_cons (op_far f29_2_WrldA rfl rfl) ?_ | refine awpOps_cons (op_fae f29_2_WrldA rfl rfl) ?_
  all_goals first | refine awpOps_cons (op_ld ty27 rfl rfl rfl) ?_ | refine awpOps_cons (op_ldr ty27 rfl rfl) ?_ | refine awpOps_cons (op_lde ty27 rfl rfl (by assumption) rfl) ?_ | refine awpOps_cons (op_ldl ty27 rfl rfl rfl) ?_ | refine awpOps_cons (op_ldd ty27 rfl rfl rfl) ?_ | refine awpOps_cons (op_ldde ty27 rfl rfl (by assumption) rfl) ?_
  all_goals first | refine awpOps_cons (op_len sl27 rfl rfl) ?_ | refine awpOps_cons (op_lenA sl27 rfl rfl rfl) ?_
  all_goals refine awpOps_cons (op_lss rfl rfl rfl) ?_
  all_goals refine awpOps_nil ?_
  first | refine awp_seq (awp_cond rfl (fun h => ?_) (fun h => ?_)) | refine awp_seq (awp_seq (awp_cond rfl (fun h => ?_) (fun h => ?_))) | refine awp_cond rfl (fun h => ?_) (fun h => ?_) | refine awp_seq (awp_seq (awp_seq (awp_cond rfl (fun h => ?_) (fun h => ?_))))
  · have ha : a < x.log.length := by simpa using h
    have hll := hx.ll
    refine awp_skip ?_
    first | refine awp_seq (awp_block ?_) | refine awp_seq (awp_seq (awp_block ?_)) | refine awp_block ?_ | refine awp_seq (awp_seq (awp_seq (awp_block ?_)))
    all_goals first | refine awp_seq (awp_region (id := 3) ?_) | refine awp_seq (awp_seq (awp_region (id := 3) ?_)) | refine awp_region (id := 3) ?_ | refine awp_seq (awp_seq (awp_seq (awp_region (id := 3) ?_)))
    all_goals refine awpOps_cons (op_as rfl (Conv.of rfl) rfl) ?_
    all_goals refine awpOps_nil ?_
    first | refine awp_seq (awp_seq (awp_seq (awp_seq_to (s' := mkSt 21 [(0, .box 0 (IsLens.whole WrldA)), (2, .v (a : Int))] [(0, .cell (wA (b4 x a))), (1, .arr (b4 x a).nodes)]) ?_ ?_))) | refine awp_seq (awp_seq (awp_seq_to (s' := mkSt 21 [(0, .box 0 (IsLens.whole WrldA)), (2, .v (a : Int))] [(0, .cell (wA (b4 x a))), (1, .arr (b4 x a).nodes)]) ?_ ?_)) | refine awp_seq (awp_seq_to (s' := mkSt 21 [(0, .box 0 (IsLens.whole WrldA)), (2, .v (a : Int))] [(0, .cell (wA (b4 x a))), (1, .arr (b4 x a).nodes)]) ?_ ?_) | refine awp_seq_to (s' := mkSt 21 [(0, .box 0 (IsLens.whole WrldA)), (2, .v (a : Int))] [(0, .cell (wA (b4 x a))), (1, .arr (b4 x a).nodes)]) ?_ ?_ | refine awp_toB (s' := mkSt 21 [(0, .box 0 (IsLens.whole WrldA)), (2, .v (a : Int))] [(0, .cell (wA (b4 x a))), (1, .arr (b4 x a).nodes)]) ?_ ?_ | refine awp_to (s' := mkSt 21 [(0, .box 0 (IsLens.whole WrldA)), (2, .v (a : Int))] [(0, .cell (wA (b4 x a))), (1, .arr (b4 x a).nodes)]) ?_ ?_
    · first | refine awp_seq (awp_block ?_) | refine awp_seq (awp_seq (awp_block ?_)) | refine awp_block ?_ | refine awp_seq (awp_seq (awp_seq (awp_block ?_)))
      first | refine awp_seq (awp_loop' (fun n_ s => ∃ (k : Nat), ∃ (hk : n_ + k = 4), s = mkSt 21 [(0, .box 0 (IsLens.whole WrldA)), (2, .v (a : Int)), (3, .v ((k : Int) + 1))] [(0, .cell (wA (brN x a k))), (1, .arr (brN x a k).nodes)]) (4) ⟨0, by omega, rfl⟩ (Le.mk rfl (tlb rfl rfl rfl (tle rfl (rfl) rfl (tle rfl (rfl) rfl tln))) (olk rfl (by first | exact obOk_cell | exact obOk_arr | exact obOkW rfl | exact obOkW0 | exact obOkN | exact obOkS rfl | exact obOkNs | exact obOkS0 | trivial) (olk rfl (by first | exact obOk_cell | exact obOk_arr | exact obOkW rfl | exact obOkW0 | exact obOkN | exact obOkS rfl | exact obOkNs | exact obOkS0 | trivial) oln)) (hS_sub (a := wo w) rfl)) ?_) | refine awp_seq (awp_seq (awp_loop' (fun n_ s => ∃ (k : Nat), ∃ (hk : n_ + k = 4), s = mkSt 21 [(0, .box 0 (IsLens.whole WrldA)), (2, .v (a : Int)), (3, .v ((k : Int) + 1))] [(0, .cell (wA (brN x a k))), (1, .arr (brN x a k).nodes)]) (4) ⟨0, by omega, rfl⟩ (Le.mk rfl (tlb rfl rfl rfl (tle rfl (rfl) rfl (tle rfl (rfl) rfl tln))) (olk rfl (by first | exact obOk_cell | exact obOk_arr | exact obOkW rfl | exact obOkW0 | exact obOkN | exact obOkS rfl | exact obOkNs | exact obOkS0 | trivial) (olk rfl (by first | exact obOk_cell | exact obOk_arr | exact obOkW rfl | exact obOkW0 | exact obOkN | exact obOkS rfl | exact obOkNs | exact obOkS0 | trivial) oln)) (hS_sub (a := wo w) rfl)) ?_)) | refine awp_loop' (fun n_ s => ∃ (k : Nat), ∃ (hk : n_ + k = 4), s = mkSt 21 [(0, .box 0 (IsLens.whole WrldA)), (2, .v (a : Int)), (3, .v ((k : Int) + 1))] [(0, .cell (wA (brN x a k))), (1, .arr (brN x a k).nodes)]) (4) ⟨0, by omega, rfl⟩ (Le.mk rfl (tlb rfl rfl rfl (tle rfl (rfl) rfl (tle rfl (rfl) rfl tln))) (olk rfl (by first | exact obOk_cell | exact obOk_arr | exact obOkW rfl | exact obOkW0 | exact obOkN | exact obOkS rfl | exact obOkNs | exact obOkS0 | trivial) (olk rfl (by first | exact obOk_cell | exact obOk_arr | exact obOkW rfl | exact obOkW0 | exact obOkN | exact obOkS rfl | exact obOkNs | exact obOkS0 | trivial) oln)) (hS_sub (a := wo w) rfl)) ?_ | refine awp_seq (awp_seq (awp_seq (awp_loop' (fun n_ s => ∃ (k : Nat), ∃ (hk : n_ + k = 4), s = mkSt 21 [(0, .box 0 (IsLens.whole WrldA)), (2, .v (a : Int)), (3, .v ((k : Int) + 1))] [(0, .cell (wA (brN x a k))), (1, .arr (brN x a k).nodes)]) (4) ⟨0, by omega, rfl⟩ (Le.mk rfl (tlb rfl rfl rfl (tle rfl (rfl) rfl (tle rfl (rfl) rfl tln))) (olk rfl (by first | exact obOk_cell | exact obOk_arr | exact obOkW rfl | exact obOkW0 | exact obOkN | exact obOkS rfl | exact obOkNs | exact obOkS0 | trivial) (olk rfl (by first | exact obOk_cell | exact obOk_arr | exact obOkW rfl | exact obOkW0 | exact obOkN | exact obOkS rfl | exact obOkNs | exact obOkS0 | trivial) oln)) (hS_sub (a := wo w) rfl)) ?_)))
      rintro n_ s ⟨k, hk, rfl⟩
      all_goals first | refine awp_seq (awp_region (id := 4) ?_) | refine awp_seq (awp_seq (awp_region (id := 4) ?_)) | refine awp_region (id := 4) ?_ | refine awp_seq (awp_seq (awp_seq (awp_region (id := 4) ?_)))
      all_goals first | refine awpOps_cons (op_mv rfl (Conv.of rfl) rfl) ?_ | refine awpOps_cons (op_mvl rfl rfl rfl rfl) ?_ | refine awpOps_cons (op_mvo rfl rfl rfl rfl) ?_
      all_goals refine awpOps_cons (op_leq rfl rfl rfl) ?_
      all_goals refine awpOps_nil ?_
      first | refine awp_seq (awp_cond rfl (fun h2 => ?_) (fun h2 => ?_)) | refine awp_seq (awp_seq (awp_cond rfl (fun h2 => ?_) (fun h2 => ?_))) | refine awp_cond rfl (fun h2 => ?_) (fun h2 => ?_) | refine awp_seq (awp_seq (awp_seq (awp_cond rfl (fun h2 => ?_) (fun h2 => ?_))))
      · have hk2 : k < 4 := by simp at h2; omega
        refine awp_skip ?_
        first | refine awp_seq (awp_block ?_) | refine awp_seq (awp_seq (awp_block ?_)) | refine awp_block ?_ | refine awp_seq (awp_seq (awp_seq (awp_block ?_)))
        all_goals first | refine awp_seq (awp_region (id := 6) ?_) | refine awp_seq (awp_seq (awp_region (id := 6) ?_)) | refine awp_region (id := 6) ?_ | refine awp_seq (awp_seq (awp_seq (awp_region (id := 6) ?_)))
        all_goals first | refine awpOps_cons (op_mv rfl (Conv.of rfl) rfl) ?_ | refine awpOps_cons (op_mvl rfl rfl rfl rfl) ?_ | refine awpOps_cons (op_mvo rfl rfl rfl rfl) ?_
        all_goals first | refine awpOps_cons (op_mv rfl (Conv.of rfl) rfl) ?_ | refine awpOps_cons (op_mvl rfl rfl rfl rfl) ?_ | refine awpOps_cons (op_mvo rfl rfl rfl rfl) ?_
        all_goals first | refine awpOps_cons (op_mv rfl (Conv.of rfl) rfl) ?_ | refine awpOps_cons (op_mvl rfl rfl rfl rfl) ?_ | refine awpOps_cons (op_mvo rfl rfl rfl rfl) ?_
        all_goals refine awpOps_cons (op_callO fb100 (.cons rfl (Conv.of rfl) (.cons rfl (Conv.of rfl) (.cons rfl (Conv.of rfl) (.nil _)))) (wbring_ct _ _ _ (brN_fine hx a k)) (olsk rfl (olsk rfl ols0)) (oksk (by first | exact obOk_cell | exact obOk_arr | exact obOkW rfl | exact obOkW0 | exact obOkN | exact obOkS rfl | exact obOkNs | exact obOkS0 | trivial) (oksk (by first | exact obOk_cell | exact obOk_arr | exact obOkW rfl | exact obOkW0 | exact obOkN | exact obOkS rfl | exact obOkNs | exact obOkS0 | trivial) oks0)) (oksk (by first | exact obOk_cell | exact obOk_arr | exact obOkW rfl | exact obOkW0 | exact obOkN | exact obOkS rfl | exact obOkNs | exact obOkS0 | trivial) (oksk (by first | exact obOk_cell | exact obOk_arr | exact obOkW rfl | exact obOkW0 | exact obOkN | exact obOkS rfl | exact obOkNs | exact obOkS0 | trivial) oks0)) rfl (argOb rfl rfl rfl (argOk' rfl rfl (argOk' rfl rfl argO0))) (fun o ho => by cases ho) rfl) ?_
        all_goals refine awpOps_nil ?_
        all_goals first | refine awp_seq (awp_region (id := 5) ?_) | refine awp_seq (awp_seq (awp_region (id := 5) ?_)) | refine awp_region (id := 5) ?_ | refine awp_seq (awp_seq (awp_seq (awp_region (id := 5) ?_)))
        all_goals first | refine awpOps_cons (op_mv rfl (Conv.of rfl) rfl) ?_ | refine awpOps_cons (op_mvl rfl rfl rfl rfl) ?_ | refine awpOps_cons (op_mvo rfl rfl rfl rfl) ?_
        all_goals refine awpOps_cons (op_add rfl rfl rfl (by omega)) ?_
        all_goals first | refine awpOps_cons (op_as rfl (Conv.of rfl) rfl) ?_ | refine awpOps_cons (op_asl rfl rfl rfl rfl) ?_ | refine awpOps_cons (op_aso rfl rfl rfl rfl) ?_
        all_goals refine awpOps_nil ?_
        repeat first | refine nx_seq ?_ | refine nx_block ?_
        exact ⟨n_ - 1, _, by omega, ⟨k + 1, by omega, rfl⟩, Le.mk rfl (tlb rfl rfl rfl (tle rfl (rfl) rfl (tle rfl (rfl) rfl tln))) (olk rfl (by first | exact obOk_cell | exact obOk_arr | exact obOkW rfl | exact obOkW0 | exact obOkN | exact obOkS rfl | exact obOkNs | exact obOkS0 | trivial) (olk rfl (by first | exact obOk_cell | exact obOk_arr | exact obOkW rfl | exact obOkW0 | exact obOkN | exact obOkS rfl | exact obOkNs | exact obOkS0 | trivial) oln)) (hS_sub (a := wo w) rfl)⟩
      · refine awp_exit ?_
        repeat refine ex_seq ?_
        refine ex_block ?_
        have hk4 : k = 4 := by simp at h2; omega
        subst hk4
        all_goals exact Le.mk rfl (tlb rfl rfl rfl (tle rfl (rfl) rfl tln)) (olk rfl (by first | exact obOk_cell | exact obOk_arr | exact obOkW rfl | exact obOkW0 | exact obOkN | exact obOkS rfl | exact obOkNs | exact obOkS0 | trivial) (olk rfl (by first | exact obOk_cell | exact obOk_arr | exact obOkW rfl | exact obOkW0 | exact obOkN | exact obOkS rfl | exact obOkNs | exact obOkS0 | trivial) oln)) (hS_sub (a := wo w) rfl)
    · all_goals first | refine awp_seq (awp_region (id := 2) ?_) | refine awp_seq (awp_seq (awp_region (id := 2) ?_)) | refine awp_region (id := 2) ?_ | refine awp_seq (awp_seq (awp_seq (awp_region (id := 2) ?_)))
      all_goals first | refine awpOps_cons (op_mv rfl (Conv.of rfl) rfl) ?_ | refine awpOps_cons (op_mvl rfl rfl rfl rfl) ?_ | refine awpOps_cons (op_mvo rfl rfl rfl rfl) ?_
      all_goals refine awpOps_cons (op_add rfl rfl rfl (by omega)) ?_
      all_goals first | refine awpOps_cons (op_as rfl (Conv.of rfl) rfl) ?_ | refine awpOps_cons (op_asl rfl rfl rfl rfl) ?_ | refine awpOps_cons (op_aso rfl rfl rfl rfl) ?_
      all_goals refine awpOps_nil ?_
      repeat first | refine nx_seq ?_ | refine nx_block ?_
      exact ⟨n_ - 1, _, by omega, ⟨a + 1, b4 x a, b4_fine hx a, (by rw [← he, show 100 - a = (100 - (a + 1)) + 1 by omega, sprF_go ha]), by omega, rfl⟩, Le.mk rfl (tlb rfl rfl rfl (tle rfl (rfl) rfl tln)) (olk rfl (by first | exact obOk_cell | exact obOk_arr | exact obOkW rfl | exact obOkW0 | exact obOkN | exact obOkS rfl | exact obOkNs | exact obOkS0 | trivial) (olk rfl (by first | exact obOk_cell | exact obOk_arr | exact obOkW rfl | exact obOkW0 | exact obOkN | exact obOkS rfl | exact obOkNs | exact obOkS0 | trivial) oln)) (hS_sub (a := wo w) rfl)⟩
  · refine awp_exit ?_
    repeat refine ex_seq ?_
    refine ex_block ?_
    have ha : ¬ a < x.log.length := by simpa using h
    rw [sprF_stop ha] at he
    subst he
    refine finO (wo (spreadF w)) .nil rfl (fun o ho => by cases ho) ?_ (hS_keys rfl) rfl
    exact (olk rfl (obOkW rfl) (olk rfl obOk_arr oln))
set_option maxHeartbeats 1000000 in
theorem calm_ct (w : Wrld) (p : Pay) (hw : Fine w) : CtO Tryz.prog 74 [.box 0 (IsLens.whole WrldA), .v p] (wo w) (.tup []) (wo (calmF w p)) := by
  have h1 := tick_fine hw
  have h2 := spread_fine h1
  have h3 := propose_fine h2 (leader (spreadF (tickF w)).epoch) p
  refine Ct.intro Tryz.func74 rfl rfl ?_
  all_goals first | refine awp_seq (awp_region (id := 0) ?_) | refine awp_seq (awp_seq (awp_region (id := 0) ?_)) | refine awp_region (id := 0) ?_ | refine awp_seq (awp_seq (awp_seq (awp_region (id := 0) ?_)))
  all_goals first | refine awpOps_cons (op_box (o := 2) ty46 rfl (Conv.of rfl) rfl rfl) ?_ | refine awpOps_cons (op_boxm (o := 2) ty46 rfl rfl rfl rfl) ?_
  all_goals refine awpOps_nil ?_
  all_goals first | refine awp_seq (awp_region (id := 1) ?_) | refine awp_seq (awp_seq (awp_region (id := 1) ?_)) | refine awp_region (id := 1) ?_ | refine awp_seq (awp_seq (awp_seq (awp_region (id := 1) ?_)))
  all_goals first | refine awpOps_cons (op_mv rfl (Conv.of rfl) rfl) ?_ | refine awpOps_cons (op_mvl rfl rfl rfl rfl) ?_ | refine awpOps_cons (op_mvo rfl rfl rfl rfl) ?_
  all_goals refine awpOps_cons (op_callO fb98 (.cons rfl (Conv.of rfl) (.nil _)) (tick_ct w hw) (olsk rfl (olsk rfl ols0)) (oksk (by first | exact obOk_cell | exact obOk_arr | exact obOkW rfl | exact obOkW0 | exact obOkN | exact obOkS rfl | exact obOkNs | exact obOkS0 | trivial) (oksk (by first | exact obOk_cell | exact obOk_arr | exact obOkW rfl | exact obOkW0 | exact obOkN | exact obOkS rfl | exact obOkNs | exact obOkS0 | trivial) oks0)) (oksk (by first | exact obOk_cell | exact obOk_arr | exact obOkW rfl | exact obOkW0 | exact obOkN | exact obOkS rfl | exact obOkNs | exact obOkS0 | trivial) (oksk (by first | exact obOk_cell | exact obOk_arr | exact obOkW rfl | exact obOkW0 | exact obOkN | exact obOkS rfl | exact obOkNs | exact obOkS0 | trivial) oks0)) rfl (argOb rfl rfl rfl argO0) (fun o ho => by cases ho) rfl) ?_
  all_goals refine awpOps_nil ?_
  all_goals first | refine awp_seq (awp_region (id := 2) ?_) | refine awp_seq (awp_seq (awp_region (id := 2) ?_)) | refine awp_region (id := 2) ?_ | refine awp_seq (awp_seq (awp_seq (awp_region (id := 2) ?_)))
  all_goals first | refine awpOps_cons (op_mv rfl (Conv.of rfl) rfl) ?_ | refine awpOps_cons (op_mvl rfl rfl rfl rfl) ?_ | refine awpOps_cons (op_mvo rfl rfl rfl rfl) ?_
  all_goals refine awpOps_cons (op_callO fb121 (.cons rfl (Conv.of rfl) (.nil _)) (spread_ct _ h1) (olsk rfl (olsk rfl ols0)) (oksk (by first | exact obOk_cell | exact obOk_arr | exact obOkW rfl | exact obOkW0 | exact obOkN | exact obOkS rfl | exact obOkNs | exact obOkS0 | trivial) (oksk (by first | exact obOk_cell | exact obOk_arr | exact obOkW rfl | exact obOkW0 | exact obOkN | exact obOkS rfl | exact obOkNs | exact obOkS0 | trivial) oks0)) (oksk (by first | exact obOk_cell | exact obOk_arr | exact obOkW rfl | exact obOkW0 | exact obOkN | exact obOkS rfl | exact obOkNs | exact obOkS0 | trivial) (oksk (by first | exact obOk_cell | exact obOk_arr | exact obOkW rfl | exact obOkW0 | exact obOkN | exact obOkS rfl | exact obOkNs | exact obOkS0 | trivial) oks0)) rfl (argOb rfl rfl rfl argO0) (fun o ho => by cases ho) rfl) ?_
  all_goals refine awpOps_nil ?_
  all_goals first | refine awp_seq (dr_start (id := 3) ?_) | refine awp_seq (awp_seq (dr_start (id := 3) ?_)) | refine dr_start (id := 3) ?_ | refine awp_seq (awp_seq (awp_seq (dr_start (id := 3) ?_)))
  all_goals first | refine dr_cons (op_mv rfl (Conv.of rfl) rfl) ?_ | refine dr_cons (op_mvl rfl rfl rfl rfl) ?_ | refine dr_cons (op_mvo rfl rfl rfl rfl) ?_
  all_goals first | refine dr_cons (op_mv rfl (Conv.of rfl) rfl) ?_ | refine dr_cons (op_mvl rfl rfl rfl rfl) ?_ | refine dr_cons (op_mvo rfl rfl rfl rfl) ?_
  all_goals first | refine dr_cons (op_nilc_box rfl rfl) ?_ | refine dr_cons (op_nilc_elm rfl rfl) ?_
  all_goals first | refine dr_cons (op_fab f29_0_WrldA rfl rfl) ?_ | refine dr_cons (op_far f29_0_WrldA rfl rfl) ?_ | refine dr_cons (op_fae f29_0_WrldA rfl rfl) ?_
  all_goals first | refine dr_cons (op_ld ty3 rfl rfl rfl) ?_ | refine dr_cons (op_ldr ty3 rfl rfl) ?_ | refine dr_cons (op_lde ty3 rfl rfl (by assumption) rfl) ?_ | refine dr_cons (op_ldl ty3 rfl rfl rfl) ?_ | refine dr_cons (op_ldd ty3 rfl rfl rfl) ?_ | refine dr_cons (op_ldde ty3 rfl rfl (by assumption) rfl) ?_
  all_goals refine dr_cons (op_call fb122 (.cons rfl (Conv.of rfl) (.nil _)) (leader_ct _) (argOk rfl rfl argOk0) rfl rfl) ?_
  all_goals first | refine dr_cons (op_ld ty46 rfl rfl rfl) ?_ | refine dr_cons (op_ldr ty46 rfl rfl) ?_ | refine dr_cons (op_lde ty46 rfl rfl (by assumption) rfl) ?_ | refine dr_cons (op_ldl ty46 rfl rfl rfl) ?_ | refine dr_cons (op_ldd ty46 rfl rfl rfl) ?_ | refine dr_cons (op_ldde ty46 rfl rfl (by assumption) rfl) ?_
  all_goals refine dr_cons (op_callO fb99 (.cons rfl (Conv.of rfl) (.cons rfl (Conv.of rfl) (.cons rfl (Conv.of rfl) (.nil _)))) (wpropose_ct _ _ _ h2) (olsk rfl (olsk rfl ols0)) (oksk (by first | exact obOk_cell | exact obOk_arr | exact obOkW rfl | exact obOkW0 | exact obOkN | exact obOkS rfl | exact obOkNs | exact obOkS0 | trivial) (oksk (by first | exact obOk_cell | exact obOk_arr | exact obOkW rfl | exact obOkW0 | exact obOkN | exact obOkS rfl | exact obOkNs | exact obOkS0 | trivial) oks0)) (oksk (by first | exact obOk_cell | exact obOk_arr | exact obOkW rfl | exact obOkW0 | exact obOkN | exact obOkS rfl | exact obOkNs | exact obOkS0 | trivial) (oksk (by first | exact obOk_cell | exact obOk_arr | exact obOkW rfl | exact obOkW0 | exact obOkN | exact obOkS rfl | exact obOkNs | exact obOkS0 | trivial) oks0)) rfl (argOb rfl rfl rfl (argOk' rfl rfl (argOk' rfl rfl argO0))) (fun o ho => by cases ho) rfl) ?_
  all_goals refine dr_nil mixed rfl ?_
  all_goals first | refine awp_seq (awp_region (id := 4) ?_) | refine awp_seq (awp_seq (awp_region (id := 4) ?_)) | refine awp_region (id := 4) ?_ | refine awp_seq (awp_seq (awp_seq (awp_region (id := 4) ?_)))
  all_goals first | refine awpOps_cons (op_mv rfl (Conv.of rfl) rfl) ?_ | refine awpOps_cons (op_mvl rfl rfl rfl rfl) ?_ | refine awpOps_cons (op_mvo rfl rfl rfl rfl) ?_
  all_goals refine awpOps_cons (op_callO fb121 (.cons rfl (Conv.of rfl) (.nil _)) (spread_ct _ h3) (olsk rfl (olsk rfl ols0)) (oksk (by first | exact obOk_cell | exact obOk_arr | exact obOkW rfl | exact obOkW0 | exact obOkN | exact obOkS rfl | exact obOkNs | exact obOkS0 | trivial) (oksk (by first | exact obOk_cell | exact obOk_arr | exact obOkW rfl | exact obOkW0 | exact obOkN | exact obOkS rfl | exact obOkNs | exact obOkS0 | trivial) oks0)) (oksk (by first | exact obOk_cell | exact obOk_arr | exact obOkW rfl | exact obOkW0 | exact obOkN | exact obOkS rfl | exact obOkNs | exact obOkS0 | trivial) (oksk (by first | exact obOk_cell | exact obOk_arr | exact obOkW rfl | exact obOkW0 | exact obOkN | exact obOkS rfl | exact obOkNs | exact obOkS0 | trivial) oks0)) rfl (argOb rfl rfl rfl argO0) (fun o ho => by cases ho) rfl) ?_
  all_goals refine awpOps_nil ?_
  refine finO (wo (calmF w p)) .nil rfl (fun o ho => by cases ho) ?_ (hS_keys rfl) rfl
  exact (olk rfl (obOkW rfl) (olk rfl obOk_arr oln))
theorem worldCalmBad_ct (w : Wrld) (pays : List Pay) (h : (worldOk w && decide (pays.length ≤ 30)) = false) : CtP Tryz.prog 35 [.v w, .v pays] (.v Wrld.zero) := by
  have hl : worldOk w = true → (30 : Int) < (pays.length : Int) := fun e => by
    rw [e] at h
    simp at h
    omega
  clear h
  refine Ct.intro Tryz.func35 rfl rfl ?_
  all_goals first | refine awp_seq (awp_region (id := 0) ?_) | refine awp_seq (awp_seq (awp_region (id := 0) ?_)) | refine awp_region (id := 0) ?_ | refine awp_seq (awp_seq (awp_seq (awp_region (id := 0) ?_)))
  all_goals first | refine awpOps_cons (op_box (o := 0) ty29 rfl (Conv.of rfl) rfl rfl) ?_ | refine awpOps_cons (op_boxm (o := 0) ty29 rfl rfl rfl rfl) ?_
  all_goals refine awpOps_cons (op_alloc (o := 1) z29 rfl rfl) ?_
  all_goals refine awpOps_nil ?_
  first | refine awp_seq (awp_seq (awp_seq (awp_seq_to (s' := mkSt 30 [(1, .v pays), (4, .box 1 (IsLens.whole Wrld)), (15, .v true)] [(1, .cell Wrld.zero)]) ?_ ?_))) | refine awp_seq (awp_seq (awp_seq_to (s' := mkSt 30 [(1, .v pays), (4, .box 1 (IsLens.whole Wrld)), (15, .v true)] [(1, .cell Wrld.zero)]) ?_ ?_)) | refine awp_seq (awp_seq_to (s' := mkSt 30 [(1, .v pays), (4, .box 1 (IsLens.whole Wrld)), (15, .v true)] [(1, .cell Wrld.zero)]) ?_ ?_) | refine awp_seq_to (s' := mkSt 30 [(1, .v pays), (4, .box 1 (IsLens.whole Wrld)), (15, .v true)] [(1, .cell Wrld.zero)]) ?_ ?_ | refine awp_toB (s' := mkSt 30 [(1, .v pays), (4, .box 1 (IsLens.whole Wrld)), (15, .v true)] [(1, .cell Wrld.zero)]) ?_ ?_ | refine awp_to (s' := mkSt 30 [(1, .v pays), (4, .box 1 (IsLens.whole Wrld)), (15, .v true)] [(1, .cell Wrld.zero)]) ?_ ?_
  · all_goals first | refine awp_seq (awp_region (id := 1) ?_) | refine awp_seq (awp_seq (awp_region (id := 1) ?_)) | refine awp_region (id := 1) ?_ | refine awp_seq (awp_seq (awp_seq (awp_region (id := 1) ?_)))
    all_goals first | refine awpOps_cons (op_ld ty29 rfl rfl rfl) ?_ | refine awpOps_cons (op_ldr ty29 rfl rfl) ?_ | refine awpOps_cons (op_lde ty29 rfl rfl (by assumption) rfl) ?_ | refine awpOps_cons (op_ldl ty29 rfl rfl rfl) ?_ | refine awpOps_cons (op_ldd ty29 rfl rfl rfl) ?_ | refine awpOps_cons (op_ldde ty29 rfl rfl (by assumption) rfl) ?_
    all_goals refine awpOps_cons (op_call fb19 (.cons rfl (Conv.of rfl) (.nil _)) (worldOk_ct _) (argOk rfl rfl argOk0) rfl rfl) ?_
    all_goals refine awpOps_cons (op_not rfl rfl) ?_
    all_goals first | refine awpOps_cons (op_mv rfl (Conv.of rfl) rfl) ?_ | refine awpOps_cons (op_mvl rfl rfl rfl rfl) ?_ | refine awpOps_cons (op_mvo rfl rfl rfl rfl) ?_
    all_goals first | refine g_lit (t := 11) (b := true) rfl ?_ | refine g_lit (t := 11) (b := false) rfl ?_ | refine g_ulit (t := 11) rfl ?_ | refine g_split (t := 11) rfl (fun h => ?_) (fun h => ?_)
    all_goals first | refine awpOps_cons (g_off rfl rfl rfl rfl rfl) ?_ | refine awpOps_cons (g_und rfl rfl rfl) ?_ | refine awpOps_cons (g_on rfl rfl rfl (op_mv rfl (Conv.of rfl) rfl)) ?_ | refine awpOps_cons (g_on rfl rfl rfl (op_mvl rfl rfl rfl rfl)) ?_ | refine awpOps_cons (g_on rfl rfl rfl (op_mvo rfl rfl rfl rfl)) ?_
    all_goals first | refine awpOps_cons (g_off rfl rfl rfl rfl rfl) ?_ | refine awpOps_cons (g_und rfl rfl rfl) ?_ | refine awpOps_cons (g_on rfl rfl rfl (op_len sl65 rfl rfl)) ?_ | refine awpOps_cons (g_on rfl rfl rfl (op_lenA sl65 rfl rfl rfl)) ?_
    all_goals first | refine awpOps_cons (g_off rfl rfl rfl rfl rfl) ?_ | refine awpOps_cons (g_und rfl rfl rfl) ?_ | refine awpOps_cons (g_on rfl rfl rfl (op_gtr rfl rfl rfl)) ?_
    all_goals refine awpOps_cons (op_pick rfl rfl rfl rfl) ?_
    all_goals refine awpOps_nil ?_
    all_goals exact Le.mk rfl (tle rfl (rfl) rfl (tlb rfl rfl rfl (tle rfl (by first | rfl | (show AV.v _ = AV.v _; simp_all; try omega)) rfl tln))) (olk rfl (by first | exact obOk_cell | exact obOk_arr | exact obOkW rfl | exact obOkW0 | exact obOkN | exact obOkS rfl | exact obOkNs | exact obOkS0 | trivial) oln) noS
  first | refine awp_seq (awp_cond rfl (fun h2 => ?_) (fun h2 => absurd h2 (by decide))) | refine awp_seq (awp_seq (awp_cond rfl (fun h2 => ?_) (fun h2 => absurd h2 (by decide)))) | refine awp_cond rfl (fun h2 => ?_) (fun h2 => absurd h2 (by decide)) | refine awp_seq (awp_seq (awp_seq (awp_cond rfl (fun h2 => ?_) (fun h2 => absurd h2 (by decide)))))
  all_goals first | refine awp_seq (awp_region (id := 2) ?_) | refine awp_seq (awp_seq (awp_region (id := 2) ?_)) | refine awp_region (id := 2) ?_ | refine awp_seq (awp_seq (awp_seq (awp_region (id := 2) ?_)))
  all_goals refine awpOps_cons (op_build (.nil _) z29 rfl pl29 rfl) ?_
  all_goals first | refine awpOps_cons (op_st ty29 rfl rfl (Conv.of rfl) rfl) ?_ | refine awpOps_cons (op_ste ty29 rfl rfl (Conv.of rfl) rfl (by assumption)) ?_ | refine awpOps_cons (op_stm ty29 rfl rfl rfl) ?_ | refine awpOps_cons (op_stme ty29 rfl rfl rfl (by assumption)) ?_
  all_goals refine awpOps_nil ?_
  refine awp_ret ?_
  repeat first | refine rt_seq ?_ | refine rt_block ?_
  exact finP (.rc ty29 rfl rfl) rfl rfl
theorem worldCalmA_ct (w : Wrld) (pays : List Pay) (h : worldOk w = true) (hp : pays.length ≤ 30) : Ct Tryz.prog 35 [.v w, .v pays] noObj (fun r1 h1 => r1 = .v (WrldA.mk (pays.foldl calmF w).epoch (.ref 2) (pays.foldl calmF w).log (pays.foldl calmF w).bad) ∧ h1 = obs [(2, .arr (pays.foldl calmF w).nodes)]) := by
  have hf := (worldOk_iff.1 h).fx.fine
  refine Ct.intro Tryz.func35 rfl rfl ?_
  all_goals first | refine awp_seq (awp_region (id := 0) ?_) | refine awp_seq (awp_seq (awp_region (id := 0) ?_)) | refine awp_region (id := 0) ?_ | refine awp_seq (awp_seq (awp_seq (awp_region (id := 0) ?_)))
  all_goals first | refine awpOps_cons (op_box (o := 5) ty29 rfl (Conv.of rfl) rfl rfl) ?_ | refine awpOps_cons (op_boxm (o := 5) ty29 rfl rfl rfl rfl) ?_
  all_goals refine awpOps_cons (op_alloc (o := 6) z29_WrldA rfl rfl) ?_
  all_goals refine awpOps_nil ?_
  first | refine awp_seq (awp_seq (awp_seq (awp_seq_to (s' := mkSt 30 [(1, .v pays), (2, .box 5 (IsLens.whole Wrld)), (4, .box 6 (IsLens.whole WrldA)), (15, .v false)] [(5, .cell w), (6, .cell WrldA.zero)]) ?_ ?_))) | refine awp_seq (awp_seq (awp_seq_to (s' := mkSt 30 [(1, .v pays), (2, .box 5 (IsLens.whole Wrld)), (4, .box 6 (IsLens.whole WrldA)), (15, .v false)] [(5, .cell w), (6, .cell WrldA.zero)]) ?_ ?_)) | refine awp_seq (awp_seq_to (s' := mkSt 30 [(1, .v pays), (2, .box 5 (IsLens.whole Wrld)), (4, .box 6 (IsLens.whole WrldA)), (15, .v false)] [(5, .cell w), (6, .cell WrldA.zero)]) ?_ ?_) | refine awp_seq_to (s' := mkSt 30 [(1, .v pays), (2, .box 5 (IsLens.whole Wrld)), (4, .box 6 (IsLens.whole WrldA)), (15, .v false)] [(5, .cell w), (6, .cell WrldA.zero)]) ?_ ?_ | refine awp_toB (s' := mkSt 30 [(1, .v pays), (2, .box 5 (IsLens.whole Wrld)), (4, .box 6 (IsLens.whole WrldA)), (15, .v false)] [(5, .cell w), (6, .cell WrldA.zero)]) ?_ ?_ | refine awp_to (s' := mkSt 30 [(1, .v pays), (2, .box 5 (IsLens.whole Wrld)), (4, .box 6 (IsLens.whole WrldA)), (15, .v false)] [(5, .cell w), (6, .cell WrldA.zero)]) ?_ ?_
  · all_goals first | refine awp_seq (awp_region (id := 1) ?_) | refine awp_seq (awp_seq (awp_region (id := 1) ?_)) | refine awp_region (id := 1) ?_ | refine awp_seq (awp_seq (awp_seq (awp_region (id := 1) ?_)))
    all_goals first | refine awpOps_cons (op_ld ty29_Wrld rfl rfl rfl) ?_ | refine awpOps_cons (op_ldr ty29_Wrld rfl rfl) ?_ | refine awpOps_cons (op_lde ty29_Wrld rfl rfl (by assumption) rfl) ?_ | refine awpOps_cons (op_ldl ty29_Wrld rfl rfl rfl) ?_ | refine awpOps_cons (op_ldd ty29_Wrld rfl rfl rfl) ?_ | refine awpOps_cons (op_ldde ty29_Wrld rfl rfl (by assumption) rfl) ?_
    all_goals refine awpOps_cons (op_call fb19 (.cons rfl (Conv.of rfl) (.nil _)) (worldOk_ct _) (argOk rfl rfl argOk0) rfl rfl) ?_
    all_goals refine awpOps_cons (op_not rfl rfl) ?_
    all_goals first | refine awpOps_cons (op_mv rfl (Conv.of rfl) rfl) ?_ | refine awpOps_cons (op_mvl rfl rfl rfl rfl) ?_ | refine awpOps_cons (op_mvo rfl rfl rfl rfl) ?_
    all_goals first | refine g_lit (t := 11) (b := true) rfl ?_ | refine g_lit (t := 11) (b := false) rfl ?_ | refine g_ulit (t := 11) rfl ?_ | refine g_split (t := 11) rfl (fun h => ?_) (fun h => ?_)
    all_goals first | refine awpOps_cons (g_off rfl rfl rfl rfl rfl) ?_ | refine awpOps_cons (g_und rfl rfl rfl) ?_ | refine awpOps_cons (g_on rfl rfl rfl (op_mv rfl (Conv.of rfl) rfl)) ?_ | refine awpOps_cons (g_on rfl rfl rfl (op_mvl rfl rfl rfl rfl)) ?_ | refine awpOps_cons (g_on rfl rfl rfl (op_mvo rfl rfl rfl rfl)) ?_
    all_goals first | refine awpOps_cons (g_off rfl rfl rfl rfl rfl) ?_ | refine awpOps_cons (g_und rfl rfl rfl) ?_ | refine awpOps_cons (g_on rfl rfl rfl (op_len sl65 rfl rfl)) ?_ | refine awpOps_cons (g_on rfl rfl rfl (op_lenA sl65 rfl rfl rfl)) ?_
    all_goals first | refine awpOps_cons (g_off rfl rfl rfl rfl rfl) ?_ | refine awpOps_cons (g_und rfl rfl rfl) ?_ | refine awpOps_cons (g_on rfl rfl rfl (op_gtr rfl rfl rfl)) ?_
    all_goals refine awpOps_cons (op_pick rfl rfl rfl rfl) ?_
    all_goals refine awpOps_nil ?_
    all_goals exact Le.mk rfl (tle rfl (rfl) rfl (tlb rfl rfl rfl (tlb rfl rfl rfl (tle rfl (by first | rfl | (show AV.v _ = AV.v _; simp_all; try omega)) rfl tln)))) (olk rfl (by first | exact obOk_cell | exact obOk_arr | exact obOkW rfl | exact obOkW0 | exact obOkN | exact obOkS rfl | exact obOkNs | exact obOkS0 | trivial) (olk rfl (by first | exact obOk_cell | exact obOk_arr | exact obOkW rfl | exact obOkW0 | exact obOkN | exact obOkS rfl | exact obOkNs | exact obOkS0 | trivial) oln)) noS
  first | refine awp_seq (awp_cond rfl (fun h2 => absurd h2 (by decide)) (fun h2 => ?_)) | refine awp_seq (awp_seq (awp_cond rfl (fun h2 => absurd h2 (by decide)) (fun h2 => ?_))) | refine awp_cond rfl (fun h2 => absurd h2 (by decide)) (fun h2 => ?_) | refine awp_seq (awp_seq (awp_seq (awp_cond rfl (fun h2 => absurd h2 (by decide)) (fun h2 => ?_))))
  refine awp_skip ?_
  all_goals first | refine awp_seq (awp_region (id := 3) ?_) | refine awp_seq (awp_seq (awp_region (id := 3) ?_)) | refine awp_region (id := 3) ?_ | refine awp_seq (awp_seq (awp_seq (awp_region (id := 3) ?_)))
  all_goals first | refine awpOps_cons (op_ld ty29_Wrld rfl rfl rfl) ?_ | refine awpOps_cons (op_ldr ty29_Wrld rfl rfl) ?_ | refine awpOps_cons (op_lde ty29_Wrld rfl rfl (by assumption) rfl) ?_ | refine awpOps_cons (op_ldl ty29_Wrld rfl rfl rfl) ?_ | refine awpOps_cons (op_ldd ty29_Wrld rfl rfl rfl) ?_ | refine awpOps_cons (op_ldde ty29_Wrld rfl rfl (by assumption) rfl) ?_
  refine awpOps_callO [] rfl fb49 (.cons rfl (Conv.of rfl) (.nil _)) (copiedP_w w hf) ols0 oks0 (argOk' rfl rfl argO0) rfl ?_
  rintro r h' ⟨rfl, rfl⟩
  refine ⟨[(1, .arr w.nodes)], rfl, (fun o ho => by cases ho), fun o ho _ => ?_, oksk obOk_arr oks0, fun o ho => ?_, ?_⟩
  · have : o = 1 := by simpa [keys, lk0] using ho
    subst this; rfl
  · have : o = 1 := by simpa using (show o ∈ [1] from ho)
    subst this; rfl
  all_goals refine awpOps_cons (op_alloc (o := 0) z29_WrldA rfl rfl) ?_
  all_goals first | refine awpOps_cons (op_st ty29_WrldA rfl rfl (Conv.of rfl) rfl) ?_ | refine awpOps_cons (op_ste ty29_WrldA rfl rfl (Conv.of rfl) rfl (by assumption)) ?_ | refine awpOps_cons (op_stm ty29_WrldA rfl rfl rfl) ?_ | refine awpOps_cons (op_stme ty29_WrldA rfl rfl rfl (by assumption)) ?_
  all_goals refine awpOps_nil ?_
  all_goals first | refine awp_seq (awp_region (id := 4) ?_) | refine awp_seq (awp_seq (awp_region (id := 4) ?_)) | refine awp_region (id := 4) ?_ | refine awp_seq (awp_seq (awp_seq (awp_region (id := 4) ?_)))
  all_goals first | refine awpOps_cons (op_mv rfl (Conv.of rfl) rfl) ?_ | refine awpOps_cons (op_mvl rfl rfl rfl rfl) ?_ | refine awpOps_cons (op_mvo rfl rfl rfl rfl) ?_
  all_goals first | refine awpOps_cons (op_len sl65 rfl rfl) ?_ | refine awpOps_cons (op_lenA sl65 rfl rfl rfl) ?_
  all_goals refine awpOps_cons (op_mv rfl (Conv.of rfl) rfl) ?_
  all_goals refine awpOps_nil ?_
  first | refine awp_seq (awp_block ?_) | refine awp_seq (awp_seq (awp_block ?_)) | refine awp_block ?_ | refine awp_seq (awp_seq (awp_seq (awp_block ?_)))
  first | refine awp_seq (awp_loop' (fun n s => ∃ (k : Nat), ∃ (hn : n + k = pays.length), s = mkSt 30 [(4, .box 6 (IsLens.whole WrldA)), (5, .box 0 (IsLens.whole WrldA)), (19, .v pays), (20, .v (pays.length : Int)), (21, .v (k : Int))] [(0, .cell (wA ((pays.take k).foldl calmF w))), (1, .arr ((pays.take k).foldl calmF w).nodes), (6, .cell WrldA.zero)]) (pays.length) ⟨0, by omega, rfl⟩ (Le.mk rfl (tlb rfl rfl rfl (tlb rfl rfl rfl (tle rfl (rfl) rfl (tle rfl (rfl) rfl (tle rfl (rfl) rfl tln))))) (olk (by first | rfl | (rw [foldl_at calmF _ hx]; rfl)) (by first | exact obOk_cell | exact obOk_arr | exact obOkW rfl | exact obOkW0 | exact obOkN | exact obOkS rfl | exact obOkNs | exact obOkS0 | trivial) (olk (by first | rfl | (rw [foldl_at calmF _ hx]; rfl)) (by first | exact obOk_cell | exact obOk_arr | exact obOkW rfl | exact obOkW0 | exact obOkN | exact obOkS rfl | exact obOkNs | exact obOkS0 | trivial) (olk rfl (by first | exact obOk_cell | exact obOk_arr | exact obOkW rfl | exact obOkW0 | exact obOkN | exact obOkS rfl | exact obOkNs | exact obOkS0 | trivial) oln))) noS) ?_) | refine awp_seq (awp_seq (awp_loop' (fun n s => ∃ (k : Nat), ∃ (hn : n + k = pays.length), s = mkSt 30 [(4, .box 6 (IsLens.whole WrldA)), (5, .box 0 (IsLens.whole WrldA)), (19, .v pays), (20, .v (pays.length : Int)), (21, .v (k : Int))] [(0, .cell (wA ((pays.take k).foldl calmF w))), (1, .arr ((pays.take k).foldl calmF w).nodes), (6, .cell WrldA.zero)]) (pays.length) ⟨0, by omega, rfl⟩ (Le.mk rfl (tlb rfl rfl rfl (tlb rfl rfl rfl (tle rfl (rfl) rfl (tle rfl (rfl) rfl (tle rfl (rfl) rfl tln))))) (olk (by first | rfl | (rw [foldl_at calmF _ hx]; rfl)) (by first | exact obOk_cell | exact obOk_arr | exact obOkW rfl | exact obOkW0 | exact obOkN | exact obOkS rfl | exact obOkNs | exact obOkS0 | trivial) (olk (by first | rfl | (rw [foldl_at calmF _ hx]; rfl)) (by first | exact obOk_cell | exact obOk_arr | exact obOkW rfl | exact obOkW0 | exact obOkN | exact obOkS rfl | exact obOkNs | exact obOkS0 | trivial) (olk rfl (by first | exact obOk_cell | exact obOk_arr | exact obOkW rfl | exact obOkW0 | exact obOkN | exact obOkS rfl | exact obOkNs | exact obOkS0 | trivial) oln))) noS) ?_)) | refine awp_loop' (fun n s => ∃ (k : Nat), ∃ (hn : n + k = pays.length), s = mkSt 30 [(4, .box 6 (IsLens.whole WrldA)), (5, .box 0 (IsLens.whole WrldA)), (19, .v pays), (20, .v (pays.length : Int)), (21, .v (k : Int))] [(0, .cell (wA ((pays.take k).foldl calmF w))), (1, .arr ((pays.take k).foldl calmF w).nodes), (6, .cell WrldA.zero)]) (pays.length) ⟨0, by omega, rfl⟩ (Le.mk rfl (tlb rfl rfl rfl (tlb rfl rfl rfl (tle rfl (rfl) rfl (tle rfl (rfl) rfl (tle rfl (rfl) rfl tln))))) (olk (by first | rfl | (rw [foldl_at calmF _ hx]; rfl)) (by first | exact obOk_cell | exact obOk_arr | exact obOkW rfl | exact obOkW0 | exact obOkN | exact obOkS rfl | exact obOkNs | exact obOkS0 | trivial) (olk (by first | rfl | (rw [foldl_at calmF _ hx]; rfl)) (by first | exact obOk_cell | exact obOk_arr | exact obOkW rfl | exact obOkW0 | exact obOkN | exact obOkS rfl | exact obOkNs | exact obOkS0 | trivial) (olk rfl (by first | exact obOk_cell | exact obOk_arr | exact obOkW rfl | exact obOkW0 | exact obOkN | exact obOkS rfl | exact obOkNs | exact obOkS0 | trivial) oln))) noS) ?_ | refine awp_seq (awp_seq (awp_seq (awp_loop' (fun n s => ∃ (k : Nat), ∃ (hn : n + k = pays.length), s = mkSt 30 [(4, .box 6 (IsLens.whole WrldA)), (5, .box 0 (IsLens.whole WrldA)), (19, .v pays), (20, .v (pays.length : Int)), (21, .v (k : Int))] [(0, .cell (wA ((pays.take k).foldl calmF w))), (1, .arr ((pays.take k).foldl calmF w).nodes), (6, .cell WrldA.zero)]) (pays.length) ⟨0, by omega, rfl⟩ (Le.mk rfl (tlb rfl rfl rfl (tlb rfl rfl rfl (tle rfl (rfl) rfl (tle rfl (rfl) rfl (tle rfl (rfl) rfl tln))))) (olk (by first | rfl | (rw [foldl_at calmF _ hx]; rfl)) (by first | exact obOk_cell | exact obOk_arr | exact obOkW rfl | exact obOkW0 | exact obOkN | exact obOkS rfl | exact obOkNs | exact obOkS0 | trivial) (olk (by first | rfl | (rw [foldl_at calmF _ hx]; rfl)) (by first | exact obOk_cell | exact obOk_arr | exact obOkW rfl | exact obOkW0 | exact obOkN | exact obOkS rfl | exact obOkNs | exact obOkS0 | trivial) (olk rfl (by first | exact obOk_cell | exact obOk_arr | exact obOkW rfl | exact obOkW0 | exact obOkN | exact obOkS rfl | exact obOkNs | exact obOkS0 | trivial) oln))) noS) ?_)))
  rintro n s ⟨k, hn, rfl⟩
  have hfine : Fine ((pays.take k).foldl calmF w) := calmFold_fine _ hf
  all_goals first | refine awp_seq (awp_region (id := 5) ?_) | refine awp_seq (awp_seq (awp_region (id := 5) ?_)) | refine awp_region (id := 5) ?_ | refine awp_seq (awp_seq (awp_seq (awp_region (id := 5) ?_)))
  all_goals refine awpOps_cons (op_lss rfl rfl rfl) ?_
  all_goals refine awpOps_nil ?_
  first | refine awp_seq (awp_cond rfl (fun h => ?_) (fun h => ?_)) | refine awp_seq (awp_seq (awp_cond rfl (fun h => ?_) (fun h => ?_))) | refine awp_cond rfl (fun h => ?_) (fun h => ?_) | refine awp_seq (awp_seq (awp_seq (awp_cond rfl (fun h => ?_) (fun h => ?_))))
  · have hlt : k < pays.length := by simpa using h
    have hx : pays[k]? = some pays[k] := List.getElem?_eq_getElem hlt
    refine awp_skip ?_
    first | refine awp_seq (awp_block ?_) | refine awp_seq (awp_seq (awp_block ?_)) | refine awp_block ?_ | refine awp_seq (awp_seq (awp_seq (awp_block ?_)))
    all_goals first | refine awp_seq (awp_region (id := 6) ?_) | refine awp_seq (awp_seq (awp_region (id := 6) ?_)) | refine awp_region (id := 6) ?_ | refine awp_seq (awp_seq (awp_seq (awp_region (id := 6) ?_)))
    all_goals first | refine awpOps_cons (op_ix sl65 rfl rfl rfl (by omega) hx) ?_ | refine awpOps_cons (op_ixA sl65 rfl rfl rfl rfl (by omega)) ?_
    all_goals first | refine awpOps_cons (op_ld ty46 rfl rfl rfl) ?_ | refine awpOps_cons (op_ldr ty46 rfl rfl) ?_ | refine awpOps_cons (op_lde ty46 rfl rfl (by assumption) rfl) ?_ | refine awpOps_cons (op_ldl ty46 rfl rfl rfl) ?_ | refine awpOps_cons (op_ldd ty46 rfl rfl rfl) ?_ | refine awpOps_cons (op_ldde ty46 rfl rfl (by assumption) rfl) ?_
    all_goals refine awpOps_cons (op_alloc (o := 7) z46 rfl rfl) ?_
    all_goals first | refine awpOps_cons (op_st ty46 rfl rfl (Conv.of rfl) rfl) ?_ | refine awpOps_cons (op_ste ty46 rfl rfl (Conv.of rfl) rfl (by assumption)) ?_ | refine awpOps_cons (op_stm ty46 rfl rfl rfl) ?_ | refine awpOps_cons (op_stme ty46 rfl rfl rfl (by assumption)) ?_
    all_goals refine awpOps_nil ?_
    all_goals first | refine awp_seq (awp_region (id := 7) ?_) | refine awp_seq (awp_seq (awp_region (id := 7) ?_)) | refine awp_region (id := 7) ?_ | refine awp_seq (awp_seq (awp_seq (awp_region (id := 7) ?_)))
    all_goals first | refine awpOps_cons (op_ld ty46 rfl rfl rfl) ?_ | refine awpOps_cons (op_ldr ty46 rfl rfl) ?_ | refine awpOps_cons (op_lde ty46 rfl rfl (by assumption) rfl) ?_ | refine awpOps_cons (op_ldl ty46 rfl rfl rfl) ?_ | refine awpOps_cons (op_ldd ty46 rfl rfl rfl) ?_ | refine awpOps_cons (op_ldde ty46 rfl rfl (by assumption) rfl) ?_
    all_goals refine awpOps_cons (op_callO fb74 (.cons rfl (Conv.of rfl) (.cons rfl (Conv.of rfl) (.nil _))) (calm_ct _ pays[k] hfine) (olsk rfl (olsk rfl ols0)) (oksk (by first | exact obOk_cell | exact obOk_arr | exact obOkW rfl | exact obOkW0 | exact obOkN | exact obOkS rfl | exact obOkNs | exact obOkS0 | trivial) (oksk (by first | exact obOk_cell | exact obOk_arr | exact obOkW rfl | exact obOkW0 | exact obOkN | exact obOkS rfl | exact obOkNs | exact obOkS0 | trivial) oks0)) (oksk (by first | exact obOk_cell | exact obOk_arr | exact obOkW rfl | exact obOkW0 | exact obOkN | exact obOkS rfl | exact obOkNs | exact obOkS0 | trivial) (oksk (by first | exact obOk_cell | exact obOk_arr | exact obOkW rfl | exact obOkW0 | exact obOkN | exact obOkS rfl | exact obOkNs | exact obOkS0 | trivial) oks0)) rfl (argOb rfl rfl rfl (argOk' rfl rfl argO0)) (fun o ho => by cases ho) rfl) ?_
    all_goals refine awpOps_nil ?_
    all_goals first | refine awp_seq (awp_region (id := 8) ?_) | refine awp_seq (awp_seq (awp_region (id := 8) ?_)) | refine awp_region (id := 8) ?_ | refine awp_seq (awp_seq (awp_seq (awp_region (id := 8) ?_)))
    all_goals refine awpOps_cons (op_add rfl rfl rfl (by omega)) ?_
    all_goals first | refine awpOps_cons (op_mv rfl (Conv.of rfl) rfl) ?_ | refine awpOps_cons (op_mvl rfl rfl rfl rfl) ?_ | refine awpOps_cons (op_mvo rfl rfl rfl rfl) ?_
    all_goals refine awpOps_nil ?_
    repeat first | refine nx_seq ?_ | refine nx_block ?_
    exact ⟨n - 1, _, by omega, ⟨k + 1, by omega, rfl⟩, Le.mk rfl (tlb rfl rfl rfl (tlb rfl rfl rfl (tle rfl (rfl) rfl (tle rfl (rfl) rfl (tle rfl (rfl) rfl tln))))) (olk (by first | rfl | (rw [foldl_at calmF _ hx]; rfl)) (by first | exact obOk_cell | exact obOk_arr | exact obOkW rfl | exact obOkW0 | exact obOkN | exact obOkS rfl | exact obOkNs | exact obOkS0 | trivial) (olk (by first | rfl | (rw [foldl_at calmF _ hx]; rfl)) (by first | exact obOk_cell | exact obOk_arr | exact obOkW rfl | exact obOkW0 | exact obOkN | exact obOkS rfl | exact obOkNs | exact obOkS0 | trivial) (olk rfl (by first | exact obOk_cell | exact obOk_arr | exact obOkW rfl | exact obOkW0 | exact obOkN | exact obOkS rfl | exact obOkNs | exact obOkS0 | trivial) oln))) noS⟩
  · refine awp_exit ?_
    repeat refine ex_seq ?_
    refine ex_block ?_
    have hk : pays.length ≤ k := by simpa using h
    have hp2 : (pays.take k).foldl calmF w = pays.foldl calmF w := by rw [take_end hk]
    rw [hp2] at hfine ⊢
    all_goals first | refine awp_seq (awp_region (id := 9) ?_) | refine awp_seq (awp_seq (awp_region (id := 9) ?_)) | refine awp_region (id := 9) ?_ | refine awp_seq (awp_seq (awp_seq (awp_region (id := 9) ?_)))
    all_goals first | refine awpOps_cons (op_ld ty29_WrldA rfl rfl rfl) ?_ | refine awpOps_cons (op_ldr ty29_WrldA rfl rfl) ?_ | refine awpOps_cons (op_lde ty29_WrldA rfl rfl (by assumption) rfl) ?_ | refine awpOps_cons (op_ldl ty29_WrldA rfl rfl rfl) ?_ | refine awpOps_cons (op_ldd ty29_WrldA rfl rfl rfl) ?_ | refine awpOps_cons (op_ldde ty29_WrldA rfl rfl (by assumption) rfl) ?_
    refine awpOps_callO [(1, .arr (pays.foldl calmF w).nodes)] rfl fb49 (.cons rfl (Conv.of rfl) (.nil _)) (copiedA_w _ hfine) (olsk rfl ols0) (oksk obOk_arr oks0) (argOb rfl rfl rfl argO0) rfl ?_
    rintro r h' ⟨rfl, rfl⟩
    refine ⟨[(1, .arr (pays.foldl calmF w).nodes), (2, .arr (pays.foldl calmF w).nodes)], rfl, fun o ho => ?_, fun o ho h1 => ?_, oksk obOk_arr (oksk obOk_arr oks0), fun o ho => ?_, ?_⟩
    · have : o = 1 := by simpa [keys, lk0] using ho
      subst this; rfl
    · by_cases e : o = 1
      · subst e; cases h1
      · have : o = 2 := by simpa [keys, lk0, e] using ho
        subst this; rfl
    · have : o = 2 := by simpa using (show o ∈ [2] from ho)
      subst this; rfl
    all_goals first | refine awpOps_cons (op_st ty29_WrldA rfl rfl (Conv.of rfl) rfl) ?_ | refine awpOps_cons (op_ste ty29_WrldA rfl rfl (Conv.of rfl) rfl (by assumption)) ?_ | refine awpOps_cons (op_stm ty29_WrldA rfl rfl rfl) ?_ | refine awpOps_cons (op_stme ty29_WrldA rfl rfl rfl (by assumption)) ?_
    all_goals refine awpOps_nil ?_
    refine awp_ret ?_
    repeat first | refine rt_seq ?_ | refine rt_block ?_
    refine ⟨_, _, res1 (ol := [(2, .arr (pays.foldl calmF w).nodes)]) (.rc ty29_WrldA rfl rfl) (fun o ho => ?_) (olk rfl obOk_arr oln) noS, rfl, rfl⟩
    have : o = 2 := by simpa using (show o ∈ [2] from ho)
    subst this; rfl
theorem worldCalm_ct (w : Wrld) (pays : List Pay) : CtP Tryz.prog 35 [.v w, .v pays] (.v (worldCalmR w pays)) := by
  unfold worldCalmR
  cases h : worldOk w && decide (pays.length ≤ 30) with
  | false => exact worldCalmBad_ct w pays h
  | true =>
    simp only [Bool.and_eq_true, decide_eq_true_eq] at h
    exact Ct.frz (worldCalmA_ct w pays h.1 h.2) (frz_one (big4 (calmFold_fine _ (worldOk_iff.1 h.1).fx.fine).four))
theorem playR_small (bad : Int) (evs : List Evt) : Small (playR bad evs).1 := by
  unfold playR
  split
  · rename_i hh
    simp only [Bool.and_eq_true] at hh
    exact (Inv.play hh.1 evs).small
  · exact small_zero
set_option maxHeartbeats 1000000 in
theorem lwRoom_ct (w : Wrld) (k : Nat) (hk : k ≤ 100) (hs : Small w) : CtP Tryz.prog 34 [.v w, .v (k : Int)] (.v (roomB w k)) := by
  obtain ⟨e1, e2, e3⟩ := hs
  refine Ct.intro Tryz.func34 rfl rfl ?_
  all_goals first | refine awp_seq (awp_region (id := 0) ?_) | refine awp_seq (awp_seq (awp_region (id := 0) ?_)) | refine awp_region (id := 0) ?_ | refine awp_seq (awp_seq (awp_seq (awp_region (id := 0) ?_)))
  all_goals first | refine awpOps_cons (op_box (o := 0) ty29 rfl (Conv.of rfl) rfl rfl) ?_ | refine awpOps_cons (op_boxm (o := 0) ty29 rfl rfl rfl rfl) ?_
  all_goals refine awpOps_cons (op_as rfl (Conv.of rfl) rfl) ?_
  all_goals refine awpOps_nil ?_
  first | refine awp_seq (awp_seq (awp_seq (awp_seq_to (s' := mkSt 37 [(1, .v (k : Int)), (2, .box 0 (IsLens.whole Wrld)), (19, .v (decide (30 < w.epoch + (k : Int)) || decide (80 ≤ (w.log.length : Int) + 4 * (k : Int))))] [(0, .cell w)]) ?_ ?_))) | refine awp_seq (awp_seq (awp_seq_to (s' := mkSt 37 [(1, .v (k : Int)), (2, .box 0 (IsLens.whole Wrld)), (19, .v (decide (30 < w.epoch + (k : Int)) || decide (80 ≤ (w.log.length : Int) + 4 * (k : Int))))] [(0, .cell w)]) ?_ ?_)) | refine awp_seq (awp_seq_to (s' := mkSt 37 [(1, .v (k : Int)), (2, .box 0 (IsLens.whole Wrld)), (19, .v (decide (30 < w.epoch + (k : Int)) || decide (80 ≤ (w.log.length : Int) + 4 * (k : Int))))] [(0, .cell w)]) ?_ ?_) | refine awp_seq_to (s' := mkSt 37 [(1, .v (k : Int)), (2, .box 0 (IsLens.whole Wrld)), (19, .v (decide (30 < w.epoch + (k : Int)) || decide (80 ≤ (w.log.length : Int) + 4 * (k : Int))))] [(0, .cell w)]) ?_ ?_ | refine awp_toB (s' := mkSt 37 [(1, .v (k : Int)), (2, .box 0 (IsLens.whole Wrld)), (19, .v (decide (30 < w.epoch + (k : Int)) || decide (80 ≤ (w.log.length : Int) + 4 * (k : Int))))] [(0, .cell w)]) ?_ ?_ | refine awp_to (s' := mkSt 37 [(1, .v (k : Int)), (2, .box 0 (IsLens.whole Wrld)), (19, .v (decide (30 < w.epoch + (k : Int)) || decide (80 ≤ (w.log.length : Int) + 4 * (k : Int))))] [(0, .cell w)]) ?_ ?_
  · all_goals first | refine awp_seq (awp_region (id := 1) ?_) | refine awp_seq (awp_seq (awp_region (id := 1) ?_)) | refine awp_region (id := 1) ?_ | refine awp_seq (awp_seq (awp_seq (awp_region (id := 1) ?_)))
    all_goals first | refine awpOps_cons (op_fab f29_0 rfl rfl) ?_ | refine awpOps_cons (op_far f29_0 rfl rfl) ?_ | refine awpOps_cons (op_fae f29_0 rfl rfl) ?_
    all_goals first | refine awpOps_cons (op_ld ty3 rfl rfl rfl) ?_ | refine awpOps_cons (op_ldr ty3 rfl rfl) ?_ | refine awpOps_cons (op_lde ty3 rfl rfl (by assumption) rfl) ?_ | refine awpOps_cons (op_ldl ty3 rfl rfl rfl) ?_ | refine awpOps_cons (op_ldd ty3 rfl rfl rfl) ?_ | refine awpOps_cons (op_ldde ty3 rfl rfl (by assumption) rfl) ?_
    all_goals first | refine awpOps_cons (op_mv rfl (Conv.of rfl) rfl) ?_ | refine awpOps_cons (op_mvl rfl rfl rfl rfl) ?_ | refine awpOps_cons (op_mvo rfl rfl rfl rfl) ?_
    all_goals refine awpOps_cons (op_add rfl rfl rfl (by omega)) ?_
    all_goals refine awpOps_cons (op_gtr rfl rfl rfl) ?_
    all_goals first | refine awpOps_cons (op_mv rfl (Conv.of rfl) rfl) ?_ | refine awpOps_cons (op_mvl rfl rfl rfl rfl) ?_ | refine awpOps_cons (op_mvo rfl rfl rfl rfl) ?_
    all_goals first | refine g_lit (t := 11) (b := true) rfl ?_ | refine g_lit (t := 11) (b := false) rfl ?_ | refine g_ulit (t := 11) rfl ?_ | refine g_split (t := 11) rfl (fun h => ?_) (fun h => ?_)
    all_goals first | refine awpOps_cons (g_off rfl rfl rfl rfl rfl) ?_ | refine awpOps_cons (g_und rfl rfl rfl) ?_ | refine awpOps_cons (g_on rfl rfl rfl (op_fab f29_2 rfl rfl)) ?_ | refine awpOps_cons (g_on rfl rfl rfl (op_far f29_2 rfl rfl)) ?_ | refine awpOps_cons (g_on rfl rfl rfl (op_fae f29_2 rfl rfl)) ?_
    all_goals first | refine awpOps_cons (g_off rfl rfl rfl rfl rfl) ?_ | refine awpOps_cons (g_und rfl rfl rfl) ?_ | refine awpOps_cons (g_on rfl rfl rfl (op_ld ty27 rfl rfl rfl)) ?_ | refine awpOps_cons (g_on rfl rfl rfl (op_ldr ty27 rfl rfl)) ?_ | refine awpOps_cons (g_on rfl rfl rfl (op_lde ty27 rfl rfl (by assumption) rfl)) ?_ | refine awpOps_cons (g_on rfl rfl rfl (op_ldl ty27 rfl rfl rfl)) ?_ | refine awpOps_cons (g_on rfl rfl rfl (op_ldd ty27 rfl rfl rfl)) ?_ | refine awpOps_cons (g_on rfl rfl rfl (op_ldde ty27 rfl rfl (by assumption) rfl)) ?_
    all_goals first | refine awpOps_cons (g_off rfl rfl rfl rfl rfl) ?_ | refine awpOps_cons (g_und rfl rfl rfl) ?_ | refine awpOps_cons (g_on rfl rfl rfl (op_len sl27 rfl rfl)) ?_ | refine awpOps_cons (g_on rfl rfl rfl (op_lenA sl27 rfl rfl rfl)) ?_
    all_goals first | refine awpOps_cons (g_off rfl rfl rfl rfl rfl) ?_ | refine awpOps_cons (g_und rfl rfl rfl) ?_ | refine awpOps_cons (g_on rfl rfl rfl (op_mv rfl (Conv.of rfl) rfl)) ?_ | refine awpOps_cons (g_on rfl rfl rfl (op_mvl rfl rfl rfl rfl)) ?_ | refine awpOps_cons (g_on rfl rfl rfl (op_mvo rfl rfl rfl rfl)) ?_
    all_goals first | refine awpOps_cons (g_off rfl rfl rfl rfl rfl) ?_ | refine awpOps_cons (g_und rfl rfl rfl) ?_ | refine awpOps_cons (g_on rfl rfl rfl (op_mul rfl rfl rfl (by omega))) ?_
    all_goals first | refine awpOps_cons (g_off rfl rfl rfl rfl rfl) ?_ | refine awpOps_cons (g_und rfl rfl rfl) ?_ | refine awpOps_cons (g_on rfl rfl rfl (op_add rfl rfl rfl (by omega))) ?_
    all_goals first | refine awpOps_cons (g_off rfl rfl rfl rfl rfl) ?_ | refine awpOps_cons (g_und rfl rfl rfl) ?_ | refine awpOps_cons (g_on rfl rfl rfl (op_geq rfl rfl rfl)) ?_
    all_goals refine awpOps_cons (op_pick rfl rfl rfl rfl) ?_
    all_goals refine awpOps_nil ?_
    all_goals exact Le.mk rfl (tle rfl (rfl) rfl (tlb rfl rfl rfl (tle rfl (by first | rfl | (show AV.v _ = AV.v _; simp_all; try (intro; omega))) rfl tln))) (olk rfl (by first | exact obOk_cell | exact obOk_arr | exact obOkW rfl | exact obOkW0 | exact obOkN | exact obOkS rfl | exact obOkNs | exact obOkS0 | trivial) oln) noS
  first | refine awp_seq (awp_cond rfl (fun h => ?_) (fun h => ?_)) | refine awp_seq (awp_seq (awp_cond rfl (fun h => ?_) (fun h => ?_))) | refine awp_cond rfl (fun h => ?_) (fun h => ?_) | refine awp_seq (awp_seq (awp_seq (awp_cond rfl (fun h => ?_) (fun h => ?_))))
  · all_goals first | refine awp_seq (awp_region (id := 2) ?_) | refine awp_seq (awp_seq (awp_region (id := 2) ?_)) | refine awp_region (id := 2) ?_ | refine awp_seq (awp_seq (awp_seq (awp_region (id := 2) ?_)))
    all_goals refine awpOps_cons (op_as rfl (Conv.of rfl) rfl) ?_
    all_goals refine awpOps_nil ?_
    refine awp_ret ?_
    repeat first | refine rt_seq ?_ | refine rt_block ?_
    refine finP (.v rfl (Conv.of rfl)) rfl ?_
    rw [roomB_no1 h]; rfl
  refine awp_skip ?_
  all_goals first | refine awp_seq (awp_region (id := 3) ?_) | refine awp_seq (awp_seq (awp_region (id := 3) ?_)) | refine awp_region (id := 3) ?_ | refine awp_seq (awp_seq (awp_seq (awp_region (id := 3) ?_)))
  all_goals refine awpOps_cons (op_as rfl (Conv.of rfl) rfl) ?_
  all_goals refine awpOps_nil ?_
  first | refine awp_seq (awp_block ?_) | refine awp_seq (awp_seq (awp_block ?_)) | refine awp_block ?_ | refine awp_seq (awp_seq (awp_seq (awp_block ?_)))
  first | refine awp_seq (awp_loop' (fun n_ s => ∃ (i : Nat), ∃ (hn : n_ + i = w.log.length), ∃ (ha : ∀ j < i, ∀ v, w.log[j]? = some v → (v.chain.length : Int) + (k : Int) ≤ 16), s = mkSt 37 [(1, .v (k : Int)), (2, .box 0 (IsLens.whole Wrld)), (5, .v (i : Int))] [(0, .cell w)]) (w.log.length) ⟨0, by omega, (fun j hj => absurd hj (by omega)), rfl⟩ (Le.mk rfl (tle rfl (rfl) rfl (tlb rfl rfl rfl (tle rfl (rfl) rfl tln))) (olk rfl (by first | exact obOk_cell | exact obOk_arr | exact obOkW rfl | exact obOkW0 | exact obOkN | exact obOkS rfl | exact obOkNs | exact obOkS0 | trivial) oln) noS) ?_) | refine awp_seq (awp_seq (awp_loop' (fun n_ s => ∃ (i : Nat), ∃ (hn : n_ + i = w.log.length), ∃ (ha : ∀ j < i, ∀ v, w.log[j]? = some v → (v.chain.length : Int) + (k : Int) ≤ 16), s = mkSt 37 [(1, .v (k : Int)), (2, .box 0 (IsLens.whole Wrld)), (5, .v (i : Int))] [(0, .cell w)]) (w.log.length) ⟨0, by omega, (fun j hj => absurd hj (by omega)), rfl⟩ (Le.mk rfl (tle rfl (rfl) rfl (tlb rfl rfl rfl (tle rfl (rfl) rfl tln))) (olk rfl (by first | exact obOk_cell | exact obOk_arr | exact obOkW rfl | exact obOkW0 | exact obOkN | exact obOkS rfl | exact obOkNs | exact obOkS0 | trivial) oln) noS) ?_)) | refine awp_loop' (fun n_ s => ∃ (i : Nat), ∃ (hn : n_ + i = w.log.length), ∃ (ha : ∀ j < i, ∀ v, w.log[j]? = some v → (v.chain.length : Int) + (k : Int) ≤ 16), s = mkSt 37 [(1, .v (k : Int)), (2, .box 0 (IsLens.whole Wrld)), (5, .v (i : Int))] [(0, .cell w)]) (w.log.length) ⟨0, by omega, (fun j hj => absurd hj (by omega)), rfl⟩ (Le.mk rfl (tle rfl (rfl) rfl (tlb rfl rfl rfl (tle rfl (rfl) rfl tln))) (olk rfl (by first | exact obOk_cell | exact obOk_arr | exact obOkW rfl | exact obOkW0 | exact obOkN | exact obOkS rfl | exact obOkNs | exact obOkS0 | trivial) oln) noS) ?_ | refine awp_seq (awp_seq (awp_seq (awp_loop' (fun n_ s => ∃ (i : Nat), ∃ (hn : n_ + i = w.log.length), ∃ (ha : ∀ j < i, ∀ v, w.log[j]? = some v → (v.chain.length : Int) + (k : Int) ≤ 16), s = mkSt 37 [(1, .v (k : Int)), (2, .box 0 (IsLens.whole Wrld)), (5, .v (i : Int))] [(0, .cell w)]) (w.log.length) ⟨0, by omega, (fun j hj => absurd hj (by omega)), rfl⟩ (Le.mk rfl (tle rfl (rfl) rfl (tlb rfl rfl rfl (tle rfl (rfl) rfl tln))) (olk rfl (by first | exact obOk_cell | exact obOk_arr | exact obOkW rfl | exact obOkW0 | exact obOkN | exact obOkS rfl | exact obOkNs | exact obOkS0 | trivial) oln) noS) ?_)))
  rintro n_ s ⟨i, hn, ha, rfl⟩
  all_goals first | refine awp_seq (awp_region (id := 4) ?_) | refine awp_seq (awp_seq (awp_region (id := 4) ?_)) | refine awp_region (id := 4) ?_ | refine awp_seq (awp_seq (awp_seq (awp_region (id := 4) ?_)))
  all_goals first | refine awpOps_cons (op_mv rfl (Conv.of rfl) rfl) ?_ | refine awpOps_cons (op_mvl rfl rfl rfl rfl) ?_ | refine awpOps_cons (op_mvo rfl rfl rfl rfl) ?_
  all_goals first | refine awpOps_cons (op_fab f29_2 rfl rfl) ?_ | refine awpOps_cons (op_far f29_2 rfl rfl) ?_ | refine awpOps_cons (op_fae f29_2 rfl rfl) ?_
  all_goals first | refine awpOps_cons (op_ld ty27 rfl rfl rfl) ?_ | refine awpOps_cons (op_ldr ty27 rfl rfl) ?_ | refine awpOps_cons (op_lde ty27 rfl rfl (by assumption) rfl) ?_ | refine awpOps_cons (op_ldl ty27 rfl rfl rfl) ?_ | refine awpOps_cons (op_ldd ty27 rfl rfl rfl) ?_ | refine awpOps_cons (op_ldde ty27 rfl rfl (by assumption) rfl) ?_
  all_goals first | refine awpOps_cons (op_len sl27 rfl rfl) ?_ | refine awpOps_cons (op_lenA sl27 rfl rfl rfl) ?_
  all_goals refine awpOps_cons (op_lss rfl rfl rfl) ?_
  all_goals refine awpOps_nil ?_
  first | refine awp_seq (awp_cond rfl (fun h2 => ?_) (fun h2 => ?_)) | refine awp_seq (awp_seq (awp_cond rfl (fun h2 => ?_) (fun h2 => ?_))) | refine awp_cond rfl (fun h2 => ?_) (fun h2 => ?_) | refine awp_seq (awp_seq (awp_seq (awp_cond rfl (fun h2 => ?_) (fun h2 => ?_))))
  · have hlt : i < w.log.length := by simpa using h2
    have hx : w.log[i]? = some w.log[i] := List.getElem?_eq_getElem hlt
    have hc := e3 _ (List.getElem_mem hlt)
    generalize w.log[i] = v at hx hc
    refine awp_skip ?_
    first | refine awp_seq (awp_block ?_) | refine awp_seq (awp_seq (awp_block ?_)) | refine awp_block ?_ | refine awp_seq (awp_seq (awp_seq (awp_block ?_)))
    all_goals first | refine awp_seq (awp_region (id := 6) ?_) | refine awp_seq (awp_seq (awp_region (id := 6) ?_)) | refine awp_region (id := 6) ?_ | refine awp_seq (awp_seq (awp_seq (awp_region (id := 6) ?_)))
    all_goals first | refine awpOps_cons (op_fab f29_2 rfl rfl) ?_ | refine awpOps_cons (op_far f29_2 rfl rfl) ?_ | refine awpOps_cons (op_fae f29_2 rfl rfl) ?_
    all_goals first | refine awpOps_cons (op_ld ty27 rfl rfl rfl) ?_ | refine awpOps_cons (op_ldr ty27 rfl rfl) ?_ | refine awpOps_cons (op_lde ty27 rfl rfl (by assumption) rfl) ?_ | refine awpOps_cons (op_ldl ty27 rfl rfl rfl) ?_ | refine awpOps_cons (op_ldd ty27 rfl rfl rfl) ?_ | refine awpOps_cons (op_ldde ty27 rfl rfl (by assumption) rfl) ?_
    all_goals first | refine awpOps_cons (op_mv rfl (Conv.of rfl) rfl) ?_ | refine awpOps_cons (op_mvl rfl rfl rfl rfl) ?_ | refine awpOps_cons (op_mvo rfl rfl rfl rfl) ?_
    all_goals first | refine awpOps_cons (op_ix sl27 rfl rfl rfl (by omega) hx) ?_ | refine awpOps_cons (op_ixA sl27 rfl rfl rfl rfl (by omega)) ?_
    all_goals first | refine awpOps_cons (op_fab f48_1 rfl rfl) ?_ | refine awpOps_cons (op_far f48_1 rfl rfl) ?_ | refine awpOps_cons (op_fae f48_1 rfl rfl) ?_
    all_goals first | refine awpOps_cons (op_ld ty35 rfl rfl rfl) ?_ | refine awpOps_cons (op_ldr ty35 rfl rfl) ?_ | refine awpOps_cons (op_lde ty35 rfl rfl (by assumption) rfl) ?_ | refine awpOps_cons (op_ldl ty35 rfl rfl rfl) ?_ | refine awpOps_cons (op_ldd ty35 rfl rfl rfl) ?_ | refine awpOps_cons (op_ldde ty35 rfl rfl (by assumption) rfl) ?_
    all_goals first | refine awpOps_cons (op_len sl35 rfl rfl) ?_ | refine awpOps_cons (op_lenA sl35 rfl rfl rfl) ?_
    all_goals first | refine awpOps_cons (op_mv rfl (Conv.of rfl) rfl) ?_ | refine awpOps_cons (op_mvl rfl rfl rfl rfl) ?_ | refine awpOps_cons (op_mvo rfl rfl rfl rfl) ?_
    all_goals refine awpOps_cons (op_add rfl rfl rfl (by omega)) ?_
    all_goals refine awpOps_cons (op_gtr rfl rfl rfl) ?_
    all_goals refine awpOps_nil ?_
    first | refine awp_seq (awp_cond rfl (fun h3 => ?_) (fun h3 => ?_)) | refine awp_seq (awp_seq (awp_cond rfl (fun h3 => ?_) (fun h3 => ?_))) | refine awp_cond rfl (fun h3 => ?_) (fun h3 => ?_) | refine awp_seq (awp_seq (awp_seq (awp_cond rfl (fun h3 => ?_) (fun h3 => ?_))))
    · all_goals first | refine awp_seq (awp_region (id := 7) ?_) | refine awp_seq (awp_seq (awp_region (id := 7) ?_)) | refine awp_region (id := 7) ?_ | refine awp_seq (awp_seq (awp_seq (awp_region (id := 7) ?_)))
      all_goals refine awpOps_cons (op_as rfl (Conv.of rfl) rfl) ?_
      all_goals refine awpOps_nil ?_
      refine awp_ret ?_
      repeat first | refine rt_seq ?_ | refine rt_block ?_
      refine finP (.v rfl (Conv.of rfl)) rfl ?_
      rw [roomB_no2 hx (by simpa using h3)]; rfl
    · refine awp_skip ?_
      all_goals first | refine awp_seq (awp_region (id := 5) ?_) | refine awp_seq (awp_seq (awp_region (id := 5) ?_)) | refine awp_region (id := 5) ?_ | refine awp_seq (awp_seq (awp_seq (awp_region (id := 5) ?_)))
      all_goals first | refine awpOps_cons (op_mv rfl (Conv.of rfl) rfl) ?_ | refine awpOps_cons (op_mvl rfl rfl rfl rfl) ?_ | refine awpOps_cons (op_mvo rfl rfl rfl rfl) ?_
      all_goals refine awpOps_cons (op_add rfl rfl rfl (by omega)) ?_
      all_goals first | refine awpOps_cons (op_as rfl (Conv.of rfl) rfl) ?_ | refine awpOps_cons (op_asl rfl rfl rfl rfl) ?_ | refine awpOps_cons (op_aso rfl rfl rfl rfl) ?_
      all_goals refine awpOps_nil ?_
      have ha' : ∀ j < i + 1, ∀ v, w.log[j]? = some v → (v.chain.length : Int) + (k : Int) ≤ 16 := fun j hj u hu => by
        rcases Nat.lt_or_ge j i with h4 | h4
        · exact ha j h4 u hu
        · have hji : j = i := by omega
          subst hji
          rw [hx] at hu
          injection hu with hu
          subst hu
          simpa using h3
      repeat first | refine nx_seq ?_ | refine nx_block ?_
      exact ⟨n_ - 1, _, by omega, ⟨i + 1, by omega, ha', rfl⟩, Le.mk rfl (tle rfl (rfl) rfl (tlb rfl rfl rfl (tle rfl (rfl) rfl tln))) (olk rfl (by first | exact obOk_cell | exact obOk_arr | exact obOkW rfl | exact obOkW0 | exact obOkN | exact obOkS rfl | exact obOkNs | exact obOkS0 | trivial) oln) noS⟩
  · refine awp_exit ?_
    repeat refine ex_seq ?_
    refine ex_block ?_
    have hge : w.log.length ≤ i := by simpa using h2
    all_goals first | refine awp_seq (awp_region (id := 8) ?_) | refine awp_seq (awp_seq (awp_region (id := 8) ?_)) | refine awp_region (id := 8) ?_ | refine awp_seq (awp_seq (awp_seq (awp_region (id := 8) ?_)))
    all_goals refine awpOps_cons (op_as rfl (Conv.of rfl) rfl) ?_
    all_goals refine awpOps_nil ?_
    refine awp_ret ?_
    repeat first | refine rt_seq ?_ | refine rt_block ?_
    refine finP (.v rfl (Conv.of rfl)) rfl ?_
    rw [roomB_yes h (fun j hj => ha j (by omega))]; rfl
theorem lwRoom8_ct (w : Wrld) (hs : Small w) : CtP Tryz.prog 34 [.v w, .v (8 : Int)] (.v (roomB w 8)) := lwRoom_ct w 8 (by omega) hs
theorem lwRoom1_ct (w : Wrld) (hs : Small w) : CtP Tryz.prog 34 [.v w, .v (1 : Int)] (.v (roomB w 1)) := lwRoom_ct w 1 (by omega) hs
end Go.Proofs.YtompnmkpgffhkaaGreat

/- In three quiet epochs of leaders that do not lie more becomes final. -/
set_option linter.unusedVariables false
set_option linter.unusedSimpArgs false
namespace Go.Wt
/-! ### What is voted for in an epoch whose leader does not lie -/
theorem tryF_lead {n : Nod} : ∀ {l : List Vote}, (tryF n l).2.2 = true → Vote.mk (leader n.epoch) (tryF n l).2.1.chain ∈ l
  | [], h => by cases h
  | u :: r, h => by
    simp only [tryF] at h ⊢
    split at h
    · rename_i hf
      rw [if_pos hf, voteF_ch h]
      simp only [fits, Bool.and_eq_true, decide_eq_true_eq] at hf
      rw [← hf.1.1.1]; exact List.mem_cons_self
    · rename_i hf; rw [if_neg hf]; exact List.mem_cons_of_mem _ (tryF_lead h)
theorem hear_lead {n : Nod} {v : Vote} (h : (hearF n v).2.2 = true) : Vote.mk (leader n.epoch) (hearF n v).2.1.chain ∈ (seeF n v).seen := by
  unfold hearF at h ⊢
  split at h
  · rename_i h1
    rw [if_pos h1]
    split at h
    · rename_i h2
      rw [if_pos h2]
      have := tryF_lead h
      rw [(seeF_epoch n v).1] at this
      exact this
    · cases h
  · cases h
theorem seeF_mem {n : Nod} {v u : Vote} (h : u ∈ (seeF n v).seen) : u ∈ n.seen ∨ u = v := by
  unfold seeF at h
  split at h
  · exact .inl h
  · rcases List.mem_append.1 h with h | h
    · exact .inl h
    · simp at h; exact .inr h
/-- What is brought makes one send only what its leader has sent. -/
theorem bring_lead {w : Wrld} (h : Inv w) (a id : Int) : (wbringF w a id).log = w.log ∨ ∃ v, (wbringF w a id).log = w.log ++ [v] ∧ Vote.mk (leader w.epoch) v.chain ∈ w.log := by
  unfold wbringF
  split
  · rename_i hh
    simp only [honestB, Bool.and_eq_true, Bool.not_eq_true', decide_eq_false_iff_not, decide_eq_true_eq] at hh
    have hid : 1 ≤ id ∧ id ≤ 4 := by simpa [within] using hh.1.1.1
    split
    · rename_i n v hn hv
      have hi := node_id h hid hn
      have hN := h.nodes _ n hn
      rcases putF_log w (id - 1).toNat (hearF n v) with e | ⟨hx, e⟩
      · exact .inl e
      · refine .inr ⟨_, e, ?_⟩
        have := hear_lead hx
        rw [hN.ep] at this
        rcases seeF_mem this with hm | hm
        · exact hN.sub (by rw [hi]; exact hh.1.1.2) _ hm
        · rw [hm]; exact List.mem_of_getElem? hv
    · exact .inl rfl
  · exact .inl rfl
theorem leadv {L0 : List Vote} {e bad : Int} {w : Wrld} (h : Ep L0 e bad w) (hl : leader e ≠ bad) (hold : ∀ v ∈ L0, v.by_ = leader e → lastEp v.chain ≠ e) {v : Vote} (hv : v ∈ w.log) (hb : v.by_ ≠ bad) (he : lastEp v.chain = e) : v ∉ L0 → Vote.mk (leader e) v.chain ∈ w.log := fun _ => by
  obtain ⟨i, hi⟩ := List.mem_iff_getElem?.1 hv
  have := h.inv.ord i v hi (by rw [h.bd]; exact hb)
  rw [he] at this
  exact List.mem_of_mem_take this
/-- While the leader has sent nothing, nothing is sent. -/
theorem quiet_bring {L0 : List Vote} {e bad : Int} {w : Wrld} (h : Ep L0 e bad w) (hold : ∀ v ∈ L0, v.by_ = leader e → lastEp v.chain ≠ e) (hq : w.log = L0) {a id : Int} : (wbringF w a id).log = L0 := by
  rcases bring_lead h.inv a id with e1 | ⟨v, e1, h1⟩
  · rw [e1, hq]
  · have h' := h.bring a id
    obtain ⟨N, hN, hv⟩ := h'.new
    rw [e1, hq] at hN
    have : N = [v] := (List.append_cancel_left hN).symm
    have h2 := hv v (by rw [this]; simp)
    rw [h.ep, hq] at h1
    exact absurd h2.2 (hold (Vote.mk (leader e) v.chain) h1 rfl)
theorem quiet_b4 {L0 : List Vote} {e bad : Int} {w : Wrld} (h : Ep L0 e bad w) (hold : ∀ v ∈ L0, v.by_ = leader e → lastEp v.chain ≠ e) (hq : w.log = L0) {a : Int} : (b4 w a).log = L0 :=
  quiet_bring (((h.bring a 1).bring a 2).bring a 3) hold (quiet_bring ((h.bring a 1).bring a 2) hold (quiet_bring (h.bring a 1) hold (quiet_bring h hold hq)))
theorem quiet_spr {L0 : List Vote} {e bad : Int} (hold : ∀ v ∈ L0, v.by_ = leader e → lastEp v.chain ≠ e) : ∀ (n a : Nat) {w : Wrld}, Ep L0 e bad w → w.log = L0 → (sprF n a w).log = L0
  | 0, a, w, h, hq => hq
  | n + 1, a, w, h, hq => by
    by_cases ha : a < w.log.length
    · rw [sprF_go ha]; exact quiet_spr hold n (a + 1) (h.b4 a) (quiet_b4 h hold hq)
    · rw [sprF_stop ha]; exact hq
/-! ### Who has voted -/
/-- Who says it has voted in this epoch has sent a vote of this epoch. -/
def Vd (w : Wrld) : Prop := ∀ (k : Nat) (n : Nod), w.nodes[k]? = some n → (k : Int) + 1 ≠ w.bad → n.voted = w.epoch → ∃ v ∈ w.log, v.by_ = (k : Int) + 1 ∧ lastEp v.chain = w.epoch
theorem Vd.put {w : Wrld} {k : Nat} {n m : Nod} {c : List Itm} (h : Vd w) (hI : Inv w) (hn : w.nodes[k]? = some n) (hm : m.voted = n.voted) (hid : m.id = n.id) (hme : m.epoch = w.epoch) (hl : w.log.length < 80) (x : Nod × Vote × Bool) (hx : x = (m, .zero, false) ∨ (x = voteF m c ∧ lastEp c = w.epoch)) : Vd (putF w k x) := fun j a hj hb hv => by
  have hid' := (hI.nodes k n hn).id
  have hk := (List.getElem?_eq_some_iff.1 hn).1
  rw [(putF_eb _ _ _).1] at hv ⊢
  rw [(putF_eb _ _ _).2] at hb
  rw [put_nodes'] at hj
  have hgrow : ∀ v ∈ w.log, v ∈ (putF w k x).log := fun v hv => by
    rcases putF_log w k x with e | ⟨_, e⟩
    · rw [e]; exact hv
    · rw [e]; exact List.mem_append_left _ hv
  by_cases e : j = k
  · subst e
    rw [List.getElem?_set_self hk] at hj
    injection hj with hj
    rcases hx with hx | ⟨hx, hc⟩
    · rw [hx] at hj; subst hj
      obtain ⟨v, h1, h2⟩ := h j n hn hb (by rw [← hm]; exact hv)
      exact ⟨v, hgrow v h1, h2⟩
    · by_cases hs : m.seen.length < 80
      · rw [voteF_yes hs] at hx
        refine ⟨⟨m.id, c⟩, ?_, by rw [hid, hid'], hc⟩
        rw [hx]
        simp only [putF, if_true, sendF]
        split
        · exact List.mem_append_right _ (by simp)
        · rename_i hh
          simp only [hl, decide_true, Bool.and_true, Bool.not_eq_true', decide_eq_false_iff_not, Decidable.not_not] at hh
          exact hh
      · rw [voteF_no hs] at hx
        rw [hx] at hj; subst hj
        obtain ⟨v, h1, h2⟩ := h j n hn hb (by rw [← hm]; exact hv)
        exact ⟨v, hgrow v h1, h2⟩
  · rw [List.getElem?_set_ne (Ne.symm e)] at hj
    obtain ⟨v, h1, h2⟩ := h j a hj hb hv
    exact ⟨v, hgrow v h1, h2⟩
theorem seeF_voted (n : Nod) (v : Vote) : (seeF n v).voted = n.voted := by unfold seeF; split <;> rfl
theorem hear_cases {n : Nod} {v : Vote} (hn : nodeOk n = true) : ∃ m c, (m = n ∨ (m = seeF n v ∧ voteOk v = true ∧ v.by_ ≠ n.id ∧ n.seen.length < 80)) ∧ (hearF n v = (m, .zero, false) ∨ (hearF n v = voteF m c ∧ lastEp c = n.epoch ∧ m = seeF n v ∧ mayN n = true)) := by
  unfold hearF
  split
  · rename_i hc
    simp only [Bool.and_eq_true, Bool.not_eq_true', decide_eq_false_iff_not, decide_eq_true_eq] at hc
    have hmo := seeF_nok hn hc.1.1 hc.1.2 hc.2
    split
    · rename_i hmay
      have hmay' : mayN n = true := by
        simp only [mayN] at hmay ⊢
        rw [(seeF_epoch n v).1, seeF_voted] at hmay; exact hmay
      rcases try_cases (seeF n v) hmay (votesOk_mem (nodeOk_iff.1 hmo).1.2.2.2.2) _ (fun _ h => h) with e | ⟨c, hc', e⟩
      · exact ⟨seeF n v, [], .inr ⟨rfl, hc.1.1, hc.1.2, hc.2⟩, .inl e⟩
      · exact ⟨seeF n v, c, .inr ⟨rfl, hc.1.1, hc.1.2, hc.2⟩, .inr ⟨e, by rw [hc'.last, (seeF_epoch n v).1], rfl, hmay'⟩⟩
    · exact ⟨seeF n v, [], .inr ⟨rfl, hc.1.1, hc.1.2, hc.2⟩, .inl rfl⟩
  · exact ⟨n, [], .inl rfl, .inl rfl⟩
theorem Vd.bring {w : Wrld} (h : Vd w) (hI : Inv w) (a id : Int) : Vd (wbringF w a id) := by
  unfold wbringF
  split
  · rename_i hh
    simp only [honestB, Bool.and_eq_true, Bool.not_eq_true', decide_eq_false_iff_not, decide_eq_true_eq] at hh
    split
    · rename_i n v hn hv
      have hN := hI.nodes _ n hn
      obtain ⟨m, c, hm, hx⟩ := hear_cases (v := v) (hI.ok.nodes n (List.mem_of_getElem? hn))
      have hm' : m.voted = n.voted ∧ m.id = n.id ∧ m.epoch = w.epoch := by
        rcases hm with rfl | ⟨rfl, _⟩
        · exact ⟨rfl, rfl, hN.ep⟩
        · exact ⟨seeF_voted n v, (seeF_epoch n v).2.1, by rw [(seeF_epoch n v).1, hN.ep]⟩
      refine h.put (c := c) hI hn hm'.1 hm'.2.1 hm'.2.2 hh.1.2 _ ?_
      rcases hx with hx | ⟨hx, hc, _⟩
      · exact .inl hx
      · exact .inr ⟨hx, by rw [hc, hN.ep]⟩
    · exact h
  · exact h
theorem Vd.propose {w : Wrld} (h : Vd w) (hI : Inv w) (id : Int) (p : Pay) : Vd (wproposeF w id p) := by
  unfold wproposeF
  split
  · rename_i hh
    simp only [honestB, Bool.and_eq_true, Bool.not_eq_true', decide_eq_false_iff_not, decide_eq_true_eq] at hh
    split
    · rename_i n hn
      have hN := hI.nodes _ n hn
      rcases propose_cases n p with e | ⟨c, hc, e⟩
      · exact h.put (c := []) hI hn rfl rfl hN.ep hh.1.2 _ (.inl e)
      · exact h.put (c := c) hI hn rfl rfl hN.ep hh.1.2 _ (.inr ⟨e, by rw [hc.last, hN.ep]⟩)
    · exact h
  · exact h
theorem Vd.b4 {w : Wrld} (h : Vd w) (hI : Inv w) (a : Int) : Vd (b4 w a) := (((h.bring hI a 1).bring (hI.bring a 1) a 2).bring ((hI.bring a 1).bring a 2) a 3).bring (((hI.bring a 1).bring a 2).bring a 3) a 4
theorem Inv.b4 {w : Wrld} (hI : Inv w) (a : Int) : Inv (b4 w a) := (((hI.bring a 1).bring a 2).bring a 3).bring a 4
theorem Vd.spr : ∀ (n a : Nat) {w : Wrld}, Vd w → Inv w → Vd (sprF n a w)
  | 0, a, w, h, hI => h
  | n + 1, a, w, h, hI => by
    by_cases ha : a < w.log.length
    · rw [sprF_go ha]; exact Vd.spr n (a + 1) (h.b4 hI a) (hI.b4 a)
    · rw [sprF_stop ha]; exact h
theorem Vd.tick {w : Wrld} (h : Inv w) (h30 : w.epoch + 1 ≤ 30) : Vd (tickF w) := fun k n hn hb hv => by
  exfalso
  have he : (tickF w).epoch = w.epoch + 1 := by show min (w.epoch + 1) 30 = _; omega
  obtain ⟨m, hm⟩ := node_at h (k := k) (by have := h.tick.ok.four; have := (List.getElem?_eq_some_iff.1 hn).1; omega)
  have hn' : (tickF w).nodes[k]? = some (enterF m (min (w.epoch + 1) 30)) := by
    show (w.nodes.map _)[k]? = _
    rw [List.getElem?_map, hm]; rfl
  rw [hn] at hn'
  injection hn' with hn'
  have hN := h.nodes k m hm
  have ht := tick_epoch h.ok.ep hN.ep
  have hvo := (nodeOk_iff.1 (h.ok.nodes m (List.mem_of_getElem? hm))).1.2.2.1
  rw [hn', ht.2.2.2, he] at hv
  have := hN.ep
  omega
end Go.Wt

/- An epoch of a leader that does not lie makes one chain longest. -/
set_option linter.unusedVariables false
set_option linter.unusedSimpArgs false
namespace Go.Wt
theorem chainFrom_snoc : ∀ (c : List Itm) (e : Int) (x : Itm), chainFrom e (c ++ [x]) = true ↔ chainFrom e c = true ∧ within x.epoch 1 30 = true ∧ payOk x.pay = true ∧ (if c = [] then e else lastEp c) < x.epoch
  | [], e, x => by simp [chainFrom, and_assoc]
  | y :: c, e, x => by
    simp only [List.cons_append, chainFrom, chainFrom_snoc c y.epoch x, Bool.and_eq_true, decide_eq_true_eq, reduceCtorEq, if_false]
    have : (if c = [] then y.epoch else lastEp c) = lastEp (y :: c) := by
      cases c with
      | nil => simp [lastEp]
      | cons z c => simp [lastEp]
    rw [this]
    constructor
    · rintro ⟨⟨⟨a, b⟩, c⟩, d, e⟩; exact ⟨⟨⟨⟨a, b⟩, c⟩, d⟩, e⟩
    · rintro ⟨⟨⟨⟨a, b⟩, c⟩, d⟩, e⟩; exact ⟨⟨⟨a, b⟩, c⟩, d, e⟩
/-- Who does not lie has sent nothing of a later epoch. -/
theorem old_last {w : Wrld} (h : Inv w) {v : Vote} (hv : v ∈ w.log) (hb : v.by_ ≠ w.bad) : lastEp v.chain ≤ w.epoch := by
  obtain ⟨k, n, hn, h1, h2, h3, h4⟩ := h.mine hv hb
  obtain ⟨⟨_, _, h5, _⟩, h6⟩ := nodeOk_iff.1 h4
  have := h6 v h2 h1.symm
  have := h3.ep
  omega
theorem voters_nodup (l : List Vote) (c : List Itm) : (voters l c).Nodup := (List.filter_sublist).nodup (by decide)
theorem voters_other {l : List Vote} {c : List Itm} (x y : Int) (h : 3 ≤ (voters l c).length) : ∃ n, n ≠ x ∧ n ≠ y ∧ Vote.mk n c ∈ l := by
  by_cases hh : ∃ n ∈ voters l c, n ≠ x ∧ n ≠ y
  · obtain ⟨n, hn, h1, h2⟩ := hh
    exact ⟨n, h1, h2, (voters_mem.1 hn).2⟩
  · have := nodup_len (voters l c) [x, y] (voters_nodup l c) fun n hn => by
      simp only [List.mem_cons, List.not_mem_nil, or_false]
      by_cases h1 : n = x
      · exact .inl h1
      · by_cases h2 : n = y
        · exact .inr h2
        · exact absurd ⟨n, hn, h1, h2⟩ hh
    simp at this
    omega
theorem voters_three {l : List Vote} {c : List Itm} (bad : Int) (h : ∀ k : Nat, k < 4 → (k : Int) + 1 ≠ bad → Vote.mk ((k : Int) + 1) c ∈ l) : 3 ≤ (voters l c).length := by
  have h1 := h 0 (by omega)
  have h2 := h 1 (by omega)
  have h3 := h 2 (by omega)
  have h4 := h 3 (by omega)
  simp only [Int.ofNat_eq_natCast, Int.natCast_zero, Int.zero_add] at h1
  have e2 : ((1 : Nat) : Int) + 1 = 2 := by decide
  have e3 : ((2 : Nat) : Int) + 1 = 3 := by decide
  have e4 : ((3 : Nat) : Int) + 1 = 4 := by decide
  have e1 : ((0 : Nat) : Int) + 1 = 1 := by decide
  rw [e2] at h2; rw [e3] at h3; rw [e4] at h4
  have hm : ∀ n : Int, (n = 1 ∨ n = 2 ∨ n = 3 ∨ n = 4) → n ≠ bad → Vote.mk n c ∈ l := fun n hn hb => by
    rcases hn with rfl | rfl | rfl | rfl
    · exact h 0 (by omega) (by rw [e1]; exact hb)
    · exact h2 hb
    · exact h3 hb
    · exact h4 hb
  have key : ∀ L : List Int, L.Nodup → (∀ n ∈ L, (n = 1 ∨ n = 2 ∨ n = 3 ∨ n = 4) ∧ n ≠ bad) → L.length ≤ (voters l c).length := fun L hL hx => nodup_len L _ hL fun n hn => voters_mem.2 ⟨(hx n hn).1, hm n (hx n hn).1 (hx n hn).2⟩
  by_cases b1 : bad = 1
  · exact key [2, 3, 4] (by decide) (fun n hn => by simp at hn; omega)
  · by_cases b2 : bad = 2
    · exact key [1, 3, 4] (by decide) (fun n hn => by simp at hn; omega)
    · by_cases b3 : bad = 3
      · exact key [1, 2, 4] (by decide) (fun n hn => by simp at hn; omega)
      · exact key [1, 2, 3] (by decide) (fun n hn => by simp at hn; omega)
/-- All that was sent in an epoch of a leader that does not lie is for one chain. -/
theorem allc {L0 : List Vote} {e bad : Int} {w : Wrld} {c : List Itm} (h : Ep L0 e bad w) (hl : leader e ≠ bad) (hc : Vote.mk (leader e) c ∈ w.log) (he : lastEp c = e) {v : Vote} (hv : v ∈ w.log) : v ∈ L0 ∨ v.chain = c := by
  by_cases h0 : v ∈ L0
  · exact .inl h0
  · obtain ⟨N, hN, hn⟩ := h.new
    have hvN : v ∈ N := by
      rw [hN] at hv
      rcases List.mem_append.1 hv with hv | hv
      · exact absurd hv h0
      · exact hv
    obtain ⟨hb, hvl⟩ := hn v hvN
    obtain ⟨i, hi⟩ := List.mem_iff_getElem?.1 hv
    have := h.inv.ord i v hi (by rw [h.bd]; exact hb)
    rw [hvl] at this
    have := h.inv.safe.one _ (List.mem_of_mem_take this) _ hc rfl (by rw [h.bd]; exact hl) (by rw [hvl, he])
    injection this with _ this
    exact .inr this
/-- With votes for one chain more, what is sure was sure, or has this one in it. -/
theorem sure_old {l L0 : List Vote} {c d : List Itm} (h : ∀ v ∈ l, v ∈ L0 ∨ v.chain = c) (hs : sure l d = true) (hn : ∀ j, 0 < j → j ≤ d.length → d.take j ≠ c) : sure L0 d = true := by
  rw [sure_iff] at hs ⊢
  intro j h1 h2
  refine Nat.le_trans (hs j h1 h2) (filter_len_mono (fun n hv => ?_) _)
  simp only [decide_eq_true_eq] at hv ⊢
  rcases h _ hv with h3 | h3
  · exact h3
  · exact absurd h3 (hn j h1 h2)
structure Top (w : Wrld) (c : List Itm) : Prop where
  sure : sure w.log c = true
  top : ∀ d, Wt.sure w.log d = true → d = c ∨ d.length < c.length
/-- Room for so many epochs. -/
structure RoomP (k : Nat) (w : Wrld) : Prop where
  ep : w.epoch + k ≤ 30
  log : w.log.length + 4 * k < 80
  len : ∀ v ∈ w.log, v.chain.length + k ≤ 16
theorem lastEp_lt {d : List Itm} (hd : chainOk d = true) {j : Nat} (hj : j < d.length) (h0 : 0 < j) : lastEp (d.take j) < lastEp (d.take (j + 1)) := by
  have h1 := chainOk_take hd (j + 1)
  have hx : d[j]? = some d[j] := List.getElem?_eq_getElem hj
  rw [take_at hx] at h1 ⊢
  simp only [chainOk, Bool.and_eq_true] at h1
  have := ((chainFrom_snoc _ _ _).1 h1.1).2.2.2
  rw [if_neg (by intro e; have := congrArg List.length e; rw [List.length_take] at this; simp only [List.length_nil] at this; omega)] at this
  rw [lastEp_snoc]; exact this
/-- A quiet epoch leaves room. -/
theorem RoomP.ep' {w w' : Wrld} {k : Nat} (hk : k ≤ 15) (hr : RoomP (k + 1) w) (h : Ep w.log (w.epoch + 1) w.bad w') : RoomP k w' := by
  have h4 := h.four
  refine ⟨by rw [h.ep]; have := hr.ep; omega, by have := hr.log; omega, fun v hv => ?_⟩
  obtain ⟨N, hN, hn⟩ := h.new
  have hv' := hv
  rw [hN] at hv'
  rcases List.mem_append.1 hv' with hv' | hv'
  · have := hr.len v hv'; omega
  · obtain ⟨hb, hl⟩ := hn v hv'
    have hvo := votesOk_mem h.inv.ok.log v hv
    have hpos := voteOk_pos hvo
    have hs := h.inv.behind hv (by rw [h.bd]; exact hb)
    by_cases h1 : v.chain.length = 1
    · have := hr.ep
      have h5 := chainOk_len (voteOk_chain hvo)
      omega
    · have hlen : (v.chain.take (v.chain.length - 1)).length = v.chain.length - 1 := by rw [List.length_take]; omega
      have h3 := sure_self hs (by omega)
      obtain ⟨n, hnb, hm⟩ := quorum1 w.bad h3
      have hlt := lastEp_lt (voteOk_chain hvo) (j := v.chain.length - 1) (by omega) (by omega)
      rw [show v.chain.length - 1 + 1 = v.chain.length by omega, List.take_length, hl] at hlt
      rw [hN] at hm
      rcases List.mem_append.1 hm with hm | hm
      · have := hr.len _ hm
        simp only [hlen] at this
        omega
      · have := (hn _ hm).2
        simp only at this
        omega
/-! ### What the leader's proposal does -/
/-- This node has voted for it, or has seen nothing else than what there was. -/
def Un (L0 : List Vote) (c : List Itm) (w : Wrld) (k : Nat) : Prop := Vote.mk ((k : Int) + 1) c ∈ w.log ∨ ∃ n, w.nodes[k]? = some n ∧ ∀ v, v ∈ n.seen ↔ v ∈ L0
structure Pr (L0 : List Vote) (e bad : Int) (t : List Itm) (p : Pay) (w : Wrld) : Prop where
  ep : Ep L0 e bad w
  vd : Vd w
  lead : leader e ≠ bad
  e1 : 1 ≤ e
  room : L0.length + 4 < 80
  old : ∀ v ∈ L0, v.by_ ≠ bad → lastEp v.chain < e
  has : w.log[L0.length]? = some ⟨leader e, t ++ [⟨e, p⟩]⟩
  ts : sure L0 t = true
  tm : ∀ d, sure L0 d = true → d.length ≤ t.length
theorem Pr.mem {L0 : List Vote} {e bad : Int} {t : List Itm} {p : Pay} {w : Wrld} (h : Pr L0 e bad t p w) : Vote.mk (leader e) (t ++ [⟨e, p⟩]) ∈ w.log := List.mem_of_getElem? h.has
theorem Pr.all {L0 : List Vote} {e bad : Int} {t : List Itm} {p : Pay} {w : Wrld} (h : Pr L0 e bad t p w) {v : Vote} (hv : v ∈ w.log) : v ∈ L0 ∨ v.chain = t ++ [⟨e, p⟩] := allc h.ep h.lead h.mem (lastEp_snoc _ _) hv
theorem Pr.bring {L0 : List Vote} {e bad : Int} {t : List Itm} {p : Pay} {w : Wrld} (h : Pr L0 e bad t p w) (a id : Int) : Pr L0 e bad t p (wbringF w a id) :=
  ⟨h.ep.bring a id, h.vd.bring h.ep.inv a id, h.lead, h.e1, h.room, h.old, (Sent.bring h.ep.inv a id).pre.at h.has, h.ts, h.tm⟩
theorem tryF_some {n : Nod} : ∀ {l : List Vote} {u : Vote}, u ∈ l → fits n u = true → ∃ u' : Vote, lastEp u'.chain = n.epoch ∧ tryF n l = voteF n u'.chain
  | x :: r, u, hu, hf => by
    by_cases hx : fits n x = true
    · refine ⟨x, ?_, by simp only [tryF]; rw [if_pos hx]⟩
      simp only [fits, Bool.and_eq_true, decide_eq_true_eq] at hx
      exact hx.1.1.2
    · rcases List.mem_cons.1 hu with e | hu
      · subst e; exact absurd hf hx
      · obtain ⟨u', h1, h2⟩ := tryF_some hu hf
        exact ⟨u', h1, by simp only [tryF]; rw [if_neg hx]; exact h2⟩
theorem put_vote {w : Wrld} {k : Nat} {m : Nod} {c : List Itm} (hs : m.seen.length < 80) (hl : w.log.length < 80) : Vote.mk m.id c ∈ (putF w k (voteF m c)).log := by
  rw [voteF_yes hs]
  simp only [putF, if_true, sendF]
  split
  · exact List.mem_append_right _ (by simp)
  · rename_i hh
    simp only [hl, decide_true, Bool.and_true, Bool.not_eq_true', decide_eq_false_iff_not, Decidable.not_not] at hh
    exact hh
theorem Pr.bringU {L0 : List Vote} {e bad : Int} {t : List Itm} {p : Pay} {w : Wrld} (h : Pr L0 e bad t p w) {k a : Nat} {v : Vote} {id : Int} (hk : k < 4) (hb : (k : Int) + 1 ≠ bad) (hL : (k : Int) + 1 ≠ leader e) (hu : Un L0 (t ++ [⟨e, p⟩]) w k) (ha : w.log[a]? = some v) (hv : v ∈ L0 ∨ v = ⟨leader e, t ++ [⟨e, p⟩]⟩) :
    Un L0 (t ++ [⟨e, p⟩]) (wbringF w a id) k ∧ (id = (k : Int) + 1 → v = ⟨leader e, t ++ [⟨e, p⟩]⟩ → Vote.mk ((k : Int) + 1) (t ++ [⟨e, p⟩]) ∈ (wbringF w a id).log) := by
  have h' := h.bring a id
  have hpre := (Sent.bring h.ep.inv a id).pre
  have hlog := h.ep.four
  have hroom := h.room
  by_cases hin : Vote.mk ((k : Int) + 1) (t ++ [⟨e, p⟩]) ∈ w.log
  · have : Vote.mk ((k : Int) + 1) (t ++ [⟨e, p⟩]) ∈ (wbringF w a id).log := by
      obtain ⟨N, hN⟩ := hpre
      rw [hN]; exact List.mem_append_left _ hin
    exact ⟨.inl this, fun _ _ => this⟩
  · rcases hu with hu | ⟨n, hn, hseen⟩
    · exact absurd hu hin
    · -- a vote of this node of this epoch is for the chain
      have hown : ∀ {w' : Wrld} {c' : List Itm}, Pr L0 e bad t p w' → Vote.mk ((k : Int) + 1) c' ∈ w'.log → lastEp c' = e → Vote.mk ((k : Int) + 1) (t ++ [⟨e, p⟩]) ∈ w'.log := fun {w'} {c'} hp hm hl => by
        rcases hp.all hm with h1 | h1
        · have := hp.old _ h1 hb
          simp only at this
          omega
        · simp only at h1; rw [← h1]; exact hm
      have hN := h.ep.inv.nodes k n hn
      have hno := h.ep.inv.ok.nodes n (List.mem_of_getElem? hn)
      have hnl : n.seen.length < 80 := by have := seen_le h.ep.inv hn (by rw [h.ep.bd]; exact hb); omega
      have hvot : n.voted ≠ e := fun hv => by
        obtain ⟨u, h1, h2, h3⟩ := h.vd k n hn (by rw [h.ep.bd]; exact hb) (by rw [h.ep.ep]; exact hv)
        rw [h.ep.ep] at h3
        obtain ⟨ub, uc⟩ := u
        simp only at h2 h3
        subst h2
        exact hin (hown h h1 h3)
      by_cases hid : id = (k : Int) + 1
      · subst hid
        have hk' : ((k : Int) + 1 - 1).toNat = k := by omega
        have hal := (List.getElem?_eq_some_iff.1 ha).1
        have heq : wbringF w a ((k : Int) + 1) = putF w k (hearF n v) := by
          unfold wbringF
          rw [if_pos (by simp only [honestB, within, Bool.and_eq_true, decide_eq_true_eq, Bool.not_eq_true', decide_eq_false_iff_not, h.ep.bd]; omega), hk', hn]
          simp only [Int.toNat_natCast, ha]
        rw [heq] at h' ⊢
        have hkl := (List.getElem?_eq_some_iff.1 hn).1
        have hstay : hearF n v = (n, .zero, false) → Un L0 (t ++ [⟨e, p⟩]) (putF w k (hearF n v)) k := fun e' => by
          rw [e']
          exact .inr ⟨n, by rw [put_nodes', List.getElem?_set_self hkl], hseen⟩
        by_cases hvL : v = ⟨leader e, t ++ [⟨e, p⟩]⟩
        · -- it votes now
          have hby : v.by_ ≠ n.id := by rw [hvL, hN.id]; exact fun e' => hL e'.symm
          have hvo := votesOk_mem h.ep.inv.ok.log v (List.mem_of_getElem? ha)
          have hvn : v ∉ n.seen := fun hm => by
            have := h.old v ((hseen v).1 hm) (by rw [hvL]; exact h.lead)
            rw [hvL, lastEp_snoc] at this
            simp at this
          have hsee : seeF n v = { n with seen := n.seen ++ [v] } := by unfold seeF; rw [if_neg (by simpa using hvn)]
          have hmay : mayN (seeF n v) = true := by
            simp only [mayN, (seeF_epoch n v).1, seeF_voted, hN.ep, h.ep.ep, Bool.and_eq_true, decide_eq_true_eq, bne_iff_ne]
            exact ⟨by have := h.e1; omega, hvot⟩
          have hmem : ∀ u, u ∈ (seeF n v).seen ↔ u ∈ L0 ∨ u = v := fun u => by
            rw [hsee]
            simp only [List.mem_append, List.mem_singleton, hseen]
          have hsub : ∀ u ∈ L0, u ∈ (seeF n v).seen := fun u hu => (hmem u).2 (.inl hu)
          have htip : (tipOf (seeF n v).seen).length = t.length := by
            refine Nat.le_antisymm ?_ (tip_max (sure_mono hsub h.ts))
            refine h.tm _ (sure_old (c := t ++ [⟨e, p⟩]) (fun u hu => ?_) (tip_sure (seeF n v).seen) fun j hj hjl hjc => ?_)
            · rcases (hmem u).1 hu with hu | hu
              · exact .inl hu
              · rw [hu, hvL]; exact .inr rfl
            · have h3 := sure_iff.1 (tip_sure (seeF n v).seen) j hj hjl
              rw [hjc] at h3
              obtain ⟨m, hm1, hm2, hm3⟩ := voters_other (leader e) bad h3
              rcases (hmem _).1 hm3 with h4 | h4
              · have := h.old _ h4 hm2
                simp only [lastEp_snoc] at this
                omega
              · rw [hvL] at h4
                injection h4 with h4
                exact hm1 h4
          have hfit : fits (seeF n v) v = true := by
            simp only [fits, (seeF_epoch n v).1, hN.ep, h.ep.ep, htip, Bool.and_eq_true, decide_eq_true_eq]
            rw [hvL]
            refine ⟨⟨⟨rfl, lastEp_snoc _ _⟩, by simp⟩, ?_⟩
            have : (t ++ [Itm.mk e p]).take ((t ++ [Itm.mk e p]).length - 1) = t := by simp
            simp only [this]
            rw [← hvL]
            exact sure_mono hsub h.ts
          obtain ⟨u', h5, h6⟩ := tryF_some ((hmem v).2 (.inr rfl)) hfit
          have hhear : hearF n v = voteF (seeF n v) u'.chain := by
            unfold hearF
            rw [if_pos (by simp [hvo, hby, hnl]), if_pos hmay, h6]
          have hsl : (seeF n v).seen.length < 80 := by
            have := nodup_len (seeF n v).seen w.log (votesOk_iff.1 (nodeOk_iff.1 (seeF_nok hno hvo hby hnl)).1.2.2.2.2).2 fun u hu => by
              rcases (hmem u).1 hu with hu | hu
              · obtain ⟨N, hN', _⟩ := h.ep.new
                rw [hN']; exact List.mem_append_left _ hu
              · rw [hu]; exact List.mem_of_getElem? ha
            omega
          have hin' := put_vote (w := w) (k := k) (m := seeF n v) (c := u'.chain) hsl (by omega)
          rw [← hhear, (seeF_epoch n v).2.1, hN.id] at hin'
          have := hown h' hin' (by rw [h5, (seeF_epoch n v).1, hN.ep, h.ep.ep])
          exact ⟨.inl this, fun _ _ => this⟩
        · have hv0 : v ∈ L0 := hv.resolve_right hvL
          refine ⟨?_, fun _ e' => absurd e' hvL⟩
          obtain ⟨m, c', hm, hx⟩ := hear_cases (v := v) hno
          have hsee : seeF n v = n := by unfold seeF; rw [if_pos (by simpa using (hseen v).2 hv0)]
          have hm' : m = n := by
            rcases hm with h1 | ⟨h1, _⟩
            · exact h1
            · rw [h1, hsee]
          rw [hm'] at hx
          rcases hx with hx | ⟨hx, hc', _, _⟩
          · exact hstay hx
          · refine .inl (hown h' (c' := c') ?_ (by rw [hc', hN.ep, h.ep.ep]))
            have := put_vote (w := w) (k := k) (m := n) (c := c') hnl (by omega)
            rw [← hx, hN.id] at this
            exact this
      · -- another one is brought it
        refine ⟨.inr ⟨n, ?_, hseen⟩, fun e' => absurd e' hid⟩
        unfold wbringF
        split
        · rename_i hh
          simp only [honestB, Bool.and_eq_true, within, decide_eq_true_eq] at hh
          split
          · rw [put_nodes', List.getElem?_set_ne (by omega)]; exact hn
          · exact hn
        · exact hn
end Go.Wt

/- Eight quiet epochs: more becomes final, by all. -/
set_option linter.unusedVariables false
set_option linter.unusedSimpArgs false
namespace Go.Wt
theorem LogPre.mem {w w' : Wrld} (h : LogPre w w') {v : Vote} (hv : v ∈ w.log) : v ∈ w'.log := by
  obtain ⟨N, h⟩ := h
  rw [h]; exact List.mem_append_left _ hv
theorem spr_pre {L0 : List Vote} {e bad : Int} : ∀ (n a : Nat) {w : Wrld}, Ep L0 e bad w → LogPre w (sprF n a w)
  | 0, a, w, h => LogPre.refl w
  | n + 1, a, w, h => by
    by_cases ha : a < w.log.length
    · rw [sprF_go ha]; exact (b4_pre h a).trans (spr_pre n (a + 1) (h.b4 a))
    · rw [sprF_stop ha]; exact LogPre.refl w
section
variable {L0 : List Vote} {e bad : Int} {t : List Itm} {p : Pay}
/-- All that do not lie, but the leader. -/
def UnAll (L0 : List Vote) (c : List Itm) (e bad : Int) (w : Wrld) : Prop := ∀ k : Nat, k < 4 → (k : Int) + 1 ≠ bad → (k : Int) + 1 ≠ leader e → Un L0 c w k
theorem Pr.b4 {w : Wrld} (h : Pr L0 e bad t p w) (a : Int) : Pr L0 e bad t p (b4 w a) := (((h.bring a 1).bring a 2).bring a 3).bring a 4
theorem Pr.bringAll {w : Wrld} (h : Pr L0 e bad t p w) {a : Nat} {v : Vote} {id : Int} (hu : UnAll L0 (t ++ [⟨e, p⟩]) e bad w) (ha : w.log[a]? = some v) (hv : v ∈ L0 ∨ v = ⟨leader e, t ++ [⟨e, p⟩]⟩) : UnAll L0 (t ++ [⟨e, p⟩]) e bad (wbringF w a id) :=
  fun k hk hb hL => (h.bringU hk hb hL (hu k hk hb hL) ha hv).1
theorem Pr.b4U {w : Wrld} (h : Pr L0 e bad t p w) {a : Nat} {v : Vote} (hu : UnAll L0 (t ++ [⟨e, p⟩]) e bad w) (ha : w.log[a]? = some v) (hv : v ∈ L0 ∨ v = ⟨leader e, t ++ [⟨e, p⟩]⟩) :
    UnAll L0 (t ++ [⟨e, p⟩]) e bad (Wt.b4 w a) ∧ (v = ⟨leader e, t ++ [⟨e, p⟩]⟩ → ∀ k : Nat, k < 4 → (k : Int) + 1 ≠ bad → Vote.mk ((k : Int) + 1) (t ++ [⟨e, p⟩]) ∈ (Wt.b4 w a).log) := by
  have p1 := h.bring a 1
  have p2 := p1.bring a 2
  have p3 := p2.bring a 3
  have p4 := p3.bring a 4
  have a1 := (Sent.bring h.ep.inv a 1).pre.at ha
  have a2 := (Sent.bring p1.ep.inv a 2).pre.at a1
  have a3 := (Sent.bring p2.ep.inv a 3).pre.at a2
  have l2 := (Sent.bring p1.ep.inv a 2).pre
  have l3 := (Sent.bring p2.ep.inv a 3).pre
  have l4 := (Sent.bring p3.ep.inv a 4).pre
  have u1 := h.bringAll (id := 1) hu ha hv
  have u2 := p1.bringAll (id := 2) u1 a1 hv
  have u3 := p2.bringAll (id := 3) u2 a2 hv
  have u4 := p3.bringAll (id := 4) u3 a3 hv
  refine ⟨u4, fun hvL k hk hb => ?_⟩
  by_cases hL : (k : Int) + 1 = leader e
  · rw [hL]; exact p4.mem
  · have hcase : k = 0 ∨ k = 1 ∨ k = 2 ∨ k = 3 := by omega
    rcases hcase with rfl | rfl | rfl | rfl
    · exact (l2.trans (l3.trans l4)).mem ((h.bringU (k := 0) (id := 1) hk hb hL (hu 0 hk hb hL) ha hv).2 rfl hvL)
    · exact (l3.trans l4).mem ((p1.bringU (k := 1) (id := 2) hk hb hL (u1 1 hk hb hL) a1 hv).2 rfl hvL)
    · exact l4.mem ((p2.bringU (k := 2) (id := 3) hk hb hL (u2 2 hk hb hL) a2 hv).2 rfl hvL)
    · exact (p3.bringU (k := 3) (id := 4) hk hb hL (u3 3 hk hb hL) a3 hv).2 rfl hvL
theorem Pr.spr : ∀ (n a : Nat) {w : Wrld}, 80 ≤ n + a → a ≤ L0.length → Pr L0 e bad t p w → UnAll L0 (t ++ [⟨e, p⟩]) e bad w → ∀ k : Nat, k < 4 → (k : Int) + 1 ≠ bad → Vote.mk ((k : Int) + 1) (t ++ [⟨e, p⟩]) ∈ (sprF n a w).log
  | 0, a, w, hf, hal, h, hu => by have := h.room; omega
  | n + 1, a, w, hf, hal, h, hu => fun k hk hb => by
    have hlen := (List.getElem?_eq_some_iff.1 h.has).1
    have ha : a < w.log.length := by omega
    rw [sprF_go ha]
    by_cases e' : a = L0.length
    · have := (h.b4U (a := a) (v := ⟨leader e, t ++ [⟨e, p⟩]⟩) hu (by rw [e']; exact h.has) (.inr rfl)).2 rfl k hk hb
      exact (spr_pre n (a + 1) (h.b4 a).ep).mem this
    · obtain ⟨N, hN, _⟩ := h.ep.new
      have hx : w.log[a]? = some L0[a] := by rw [hN, List.getElem?_append_left (by omega)]; exact List.getElem?_eq_getElem (by omega)
      have := (h.b4U (a := a) hu hx (.inl (List.getElem_mem (by omega)))).1
      exact Pr.spr n (a + 1) (by omega) (by omega) (h.b4 a) this k hk hb
end
theorem leader_bd {e : Int} (h1 : 1 ≤ e) (h30 : e ≤ 30) : 1 ≤ leader e ∧ leader e ≤ 4 := by
  unfold leader
  rw [if_pos (by simp [within]; omega)]
  have h2 := Int.tmod_nonneg 4 (show 0 ≤ e - 1 by omega)
  have h3 := Int.tmod_lt_of_pos (e - 1) (show (0 : Int) < 4 by omega)
  omega
theorem sure_iff_of {l L : List Vote} (h : ∀ v, v ∈ l ↔ v ∈ L) (d : List Itm) : sure l d = true ↔ sure L d = true := ⟨sure_mono fun v hv => (h v).1 hv, sure_mono fun v hv => (h v).2 hv⟩
/-- A quiet epoch of a leader that does not lie. -/
theorem calm_top {w : Wrld} {p : Pay} (h : Inv w) (hp : payOk p = true) (hr : RoomP 1 w) (hl : leader (w.epoch + 1) ≠ w.bad) :
    ∃ t, sure w.log t = true ∧ (∀ d, sure w.log d = true → d.length ≤ t.length) ∧ Top (calmF w p) (t ++ [⟨w.epoch + 1, p⟩]) := by
  have h30 : w.epoch + 1 ≤ 30 := by have := hr.ep; omega
  have hL : w.log.length + 4 < 80 := by have := hr.log; omega
  have hep0 := h.ok.ep
  have h1 := Ep.tick h h30
  have hold : ∀ v ∈ w.log, v.by_ ≠ w.bad → lastEp v.chain < w.epoch + 1 := fun v hv hb => by have := old_last h hv hb; omega
  have hold' : ∀ v ∈ w.log, v.by_ = leader (w.epoch + 1) → lastEp v.chain ≠ w.epoch + 1 := fun v hv hb => by
    have := hold v hv (by rw [hb]; exact hl)
    omega
  obtain ⟨h2, c2, g2, l2⟩ := Ep.spread hL h1
  have q2 : (spreadF (tickF w)).log = w.log := quiet_spr hold' 100 0 h1 rfl
  have v2 : Vd (spreadF (tickF w)) := Vd.spr 100 0 (Vd.tick h h30) h1.inv
  have hcalm : calmF w p = spreadF (wproposeF (spreadF (tickF w)) (leader (spreadF (tickF w)).epoch) p) := rfl
  rw [hcalm, h2.ep]
  generalize spreadF (tickF w) = x at h2 c2 g2 l2 q2 v2 ⊢
  have hld := leader_bd (e := w.epoch + 1) (by omega) h30
  -- the leader
  obtain ⟨n, hn⟩ := node_at h2.inv (k := (leader (w.epoch + 1) - 1).toNat) (by omega)
  have hkid : (((leader (w.epoch + 1) - 1).toNat : Nat) : Int) + 1 = leader (w.epoch + 1) := by omega
  have hN := h2.inv.nodes _ n hn
  have hnid : n.id = leader (w.epoch + 1) := hN.id.trans hkid
  have hseen : ∀ v, v ∈ n.seen ↔ v ∈ w.log := fun v => by
    obtain ⟨a1, a2, _⟩ := had_all h2.inv c2 hn (by rw [hkid, h2.bd]; exact hl)
    rw [q2] at a1 a2
    exact ⟨a2 v, a1 v⟩
  have hnl : n.seen.length < 80 := by
    have := seen_le h2.inv hn (by rw [hkid, h2.bd]; exact hl)
    rw [q2] at this; omega
  have hvot : ∀ (k : Nat) (m : Nod), x.nodes[k]? = some m → (k : Int) + 1 ≠ w.bad → m.voted ≠ w.epoch + 1 := fun k m hm hb hv => by
    obtain ⟨u, h1, h2', h3⟩ := v2 k m hm (by rw [h2.bd]; exact hb) (by rw [h2.ep]; exact hv)
    rw [q2] at h1
    rw [h2.ep] at h3
    have := hold u h1 (by rw [h2']; exact hb)
    omega
  have hts := (sure_iff_of hseen _).1 (tip_sure n.seen)
  have htm : ∀ d, sure w.log d = true → d.length ≤ (tipOf n.seen).length := fun d hd => tip_max ((sure_iff_of hseen d).2 hd)
  generalize ht : tipOf n.seen = t at hts htm
  refine ⟨t, hts, htm, ?_⟩
  have hokl : ∀ v ∈ w.log, voteOk v = true := votesOk_mem h.ok.log
  have htok := sure_chainOk hokl hts
  have htl : t.length + 1 ≤ 16 := by
    by_cases h0 : t.length = 0
    · omega
    · obtain ⟨u, hu, huc⟩ := voters_some (l := w.log) (c := t) (by have := sure_self hts (by omega); omega)
      have := hr.len u hu
      rw [huc] at this; omega
  have hcok : chainOk (t ++ [⟨w.epoch + 1, p⟩]) = true := by
    simp only [chainOk, Bool.and_eq_true, decide_eq_true_eq] at htok ⊢
    refine ⟨(chainFrom_snoc _ _ _).2 ⟨htok.1, by simp only [within, Bool.and_eq_true, decide_eq_true_eq]; omega, hp, ?_⟩, by simp only [List.length_append, List.length_singleton]; omega⟩
    by_cases h0 : t = []
    · rw [if_pos h0]; show (0 : Int) < w.epoch + 1; omega
    · rw [if_neg h0]
      have := h.epoch hts (List.length_pos_iff.2 h0)
      show lastEp t < w.epoch + 1
      omega
  have hmay : mayN n = true := by
    simp only [mayN, Bool.and_eq_true, decide_eq_true_eq, bne_iff_ne, hN.ep, h2.ep]
    exact ⟨by omega, hvot _ n hn (by rw [hkid]; exact hl)⟩
  have hprop : proposeF n p = voteF n (t ++ [⟨w.epoch + 1, p⟩]) := by
    unfold proposeF
    rw [hN.ep, h2.ep, ht, if_pos (by simp only [hmay, hcok, hnid, decide_true, Bool.and_self])]
  have hw3 : wproposeF x (leader (w.epoch + 1)) p = putF x (leader (w.epoch + 1) - 1).toNat (voteF n (t ++ [⟨w.epoch + 1, p⟩])) := by
    unfold wproposeF
    rw [if_pos (by simp only [honestB, within, hp, Bool.and_eq_true, decide_eq_true_eq, Bool.not_eq_true', decide_eq_false_iff_not, h2.bd, q2, Bool.and_true]; omega), hn]
    simp only [hprop]
  have h3 := h2.propose (leader (w.epoch + 1)) p
  have v3 := v2.propose h2.inv (leader (w.epoch + 1)) p
  have hnew : Vote.mk (leader (w.epoch + 1)) (t ++ [⟨w.epoch + 1, p⟩]) ∉ w.log := fun hm => by
    have := hold _ hm hl
    simp only [lastEp_snoc] at this
    omega
  have hlog3 : (wproposeF x (leader (w.epoch + 1)) p).log = w.log ++ [⟨leader (w.epoch + 1), t ++ [⟨w.epoch + 1, p⟩]⟩] := by
    rw [hw3, voteF_yes hnl]
    simp only [putF, if_true, sendF, hnid, q2]
    rw [if_pos (by simp only [hnew, decide_false, Bool.not_false, Bool.true_and, decide_eq_true_eq]; omega)]
  have hP : Pr w.log (w.epoch + 1) w.bad t p (wproposeF x (leader (w.epoch + 1)) p) := ⟨h3, v3, hl, by omega, hL, hold, by rw [hlog3]; simp, hts, htm⟩
  have hU : UnAll w.log (t ++ [⟨w.epoch + 1, p⟩]) (w.epoch + 1) w.bad (wproposeF x (leader (w.epoch + 1)) p) := fun k hk hb hL' => by
    obtain ⟨m, hm⟩ := node_at h2.inv hk
    refine .inr ⟨m, by rw [hw3, put_nodes', List.getElem?_set_ne (by omega)]; exact hm, fun v => ?_⟩
    obtain ⟨a1, a2, _⟩ := had_all h2.inv c2 hm (by rw [h2.bd]; exact hb)
    rw [q2] at a1 a2
    exact ⟨a2 v, a1 v⟩
  have hall := Pr.spr 100 0 (by omega) (by omega) hP hU
  obtain ⟨h4, _, _, l4⟩ := Ep.spread hL h3
  have hs4 : spreadF (wproposeF x (leader (w.epoch + 1)) p) = sprF 100 0 (wproposeF x (leader (w.epoch + 1)) p) := rfl
  rw [← hs4] at hall
  generalize spreadF (wproposeF x (leader (w.epoch + 1)) p) = y at hall h4 l4 ⊢
  have hsub : ∀ v ∈ w.log, v ∈ y.log := fun v hv => l4.mem (by rw [hlog3]; exact List.mem_append_left _ hv)
  have hm : Vote.mk (leader (w.epoch + 1)) (t ++ [⟨w.epoch + 1, p⟩]) ∈ y.log := l4.mem hP.mem
  have hcl : (t ++ [Itm.mk (w.epoch + 1) p]).length = t.length + 1 := by simp
  have htk : (t ++ [Itm.mk (w.epoch + 1) p]).take ((t ++ [Itm.mk (w.epoch + 1) p]).length - 1) = t := by simp
  refine ⟨(sure_snoc (by omega)).2 ⟨by rw [htk]; exact sure_mono hsub hts, voters_three w.bad hall⟩, fun d hd => ?_⟩
  have hac := fun v (hv : v ∈ y.log) => allc h4 hl hm (lastEp_snoc _ _) hv
  by_cases hj : ∃ j, 0 < j ∧ j ≤ d.length ∧ d.take j = t ++ [⟨w.epoch + 1, p⟩]
  · obtain ⟨j, hj0, hjl, hje⟩ := hj
    by_cases he : j = d.length
    · subst he; rw [List.take_length] at hje; exact .inl hje
    · exfalso
      have hdo := sure_chainOk (votesOk_mem h4.inv.ok.log) hd
      have hlt := lastEp_lt hdo (j := j) (by omega) hj0
      rw [hje, lastEp_snoc] at hlt
      obtain ⟨m, hmb, hmm⟩ := quorum1 w.bad (sure_iff.1 hd (j + 1) (by omega) (by omega))
      rcases hac _ hmm with h5 | h5
      · have := hold _ h5 hmb
        simp only at this hlt
        omega
      · have := congrArg List.length h5
        rw [List.length_take, hcl] at this
        have := congrArg List.length hje
        rw [List.length_take, hcl] at this
        omega
  · refine .inr ?_
    have := htm d (sure_old hac hd fun j h1 h2 h3 => hj ⟨j, h1, h2, h3⟩)
    omega
/-! ### Eight of them -/
theorem calm_inv {w : Wrld} (h : Inv w) (p : Pay) : Inv (calmF w p) := by
  have key : ∀ (n a : Nat) {w : Wrld}, Inv w → Inv (sprF n a w) := fun n => by
    induction n with
    | zero => exact fun a w h => h
    | succ n ih =>
      intro a w h
      by_cases ha : a < w.log.length
      · rw [sprF_go ha]; exact ih (a + 1) (h.b4 a)
      · rw [sprF_stop ha]; exact h
  exact key 100 0 ((key 100 0 h.tick).propose _ p)
theorem calmN_inv (p : Pay) : ∀ (n : Nat) {w : Wrld}, Inv w → Inv ((List.replicate n p).foldl calmF w)
  | 0, w, h => h
  | n + 1, w, h => calmN_inv p n (calm_inv h p)
theorem calm_fold_inv : ∀ (l : List Pay) {w : Wrld}, Inv w → Inv (l.foldl calmF w)
  | [], w, h => h
  | p :: l, w, h => calm_fold_inv l (calm_inv h p)
/-- What n quiet epochs do. -/
structure After (k : Nat) (w x : Wrld) : Prop where
  inv : Inv x
  ep : x.epoch = w.epoch + k
  bd : x.bad = w.bad
  sub : ∀ v ∈ w.log, v ∈ x.log
theorem calm_step {w : Wrld} {p : Pay} {k : Nat} (hk : k ≤ 15) (h : Inv w) (hr : RoomP (k + 1) w) : After 1 w (calmF w p) ∧ RoomP k (calmF w p) ∧ Had (calmF w p).log.length (calmF w p) := by
  obtain ⟨h1, h2, h3, h4⟩ := Ep.calm p h (by have := hr.ep; omega) (by have := hr.log; omega)
  exact ⟨⟨h1.inv, h1.ep, h1.bd, fun v hv => h4.mem hv⟩, RoomP.ep' hk hr h1, h2⟩
theorem calm_steps {p : Pay} : ∀ (n : Nat) {k : Nat} {w : Wrld}, n + k ≤ 16 → Inv w → RoomP (n + k) w → After n w ((List.replicate n p).foldl calmF w) ∧ RoomP k ((List.replicate n p).foldl calmF w) ∧ (0 < n → Had ((List.replicate n p).foldl calmF w).log.length ((List.replicate n p).foldl calmF w))
  | 0, k, w, hk, h, hr => ⟨⟨h, by simp, rfl, fun _ h => h⟩, by simpa using hr, fun h => absurd h (by omega)⟩
  | n + 1, k, w, hk, h, hr => by
    obtain ⟨a1, r1, d1⟩ := calm_step (p := p) (k := n + k) (by omega) h (by rw [show n + k + 1 = n + 1 + k by omega]; exact hr)
    obtain ⟨a2, r2, d2⟩ := calm_steps (p := p) n (k := k) (by omega) a1.inv r1
    refine ⟨⟨a2.inv, by rw [List.replicate_succ, List.foldl_cons, a2.ep, a1.ep]; simp only [Int.natCast_add, Int.natCast_one, Int.cast_ofNat_Int]; omega, by rw [List.replicate_succ, List.foldl_cons, a2.bd, a1.bd], fun v hv => a2.sub v (a1.sub v hv)⟩, r2, fun _ => ?_⟩
    rw [List.replicate_succ, List.foldl_cons]
    by_cases h0 : n = 0
    · subst h0; exact d1
    · exact d2 (by omega)
/-- Three epochs of leaders that do not lie, one behind the other. -/
theorem calm_three {w : Wrld} {p : Pay} (h : Inv w) (hp : payOk p = true) (hr : RoomP 3 w) (h1 : leader (w.epoch + 1) ≠ w.bad) (h2 : leader (w.epoch + 2) ≠ w.bad) (h3 : leader (w.epoch + 3) ≠ w.bad) :
    ∃ t, sure (calmF (calmF (calmF w p) p) p).log (((t ++ [⟨w.epoch + 1, p⟩]) ++ [⟨w.epoch + 2, p⟩]) ++ [⟨w.epoch + 3, p⟩]) = true := by
  obtain ⟨a1, r1, _⟩ := calm_step (p := p) (k := 2) (by omega) h hr
  obtain ⟨a2, r2, _⟩ := calm_step (p := p) (k := 1) (by omega) a1.inv r1
  have e1 : (calmF w p).epoch + 1 = w.epoch + 2 := by rw [a1.ep]; omega
  have e2 : (calmF (calmF w p) p).epoch + 1 = w.epoch + 3 := by rw [a2.ep, a1.ep]; omega
  obtain ⟨t, t1, t2, t3⟩ := calm_top h hp ⟨by have := hr.ep; omega, by have := hr.log; omega, fun v hv => by have := hr.len v hv; omega⟩ h1
  obtain ⟨u, u1, u2, u3⟩ := calm_top a1.inv hp ⟨by have := r1.ep; omega, by have := r1.log; omega, fun v hv => by have := r1.len v hv; omega⟩ (by rw [e1, a1.bd]; exact h2)
  obtain ⟨x, x1, x2, x3⟩ := calm_top a2.inv hp ⟨by have := r2.ep; omega, by have := r2.log; omega, fun v hv => by have := r2.len v hv; omega⟩ (by rw [e2, a2.bd, a1.bd]; exact h3)
  have hu : u = t ++ [⟨w.epoch + 1, p⟩] := by
    rcases t3.top u u1 with e | e
    · exact e
    · have := u2 _ t3.sure; omega
  rw [e1, hu] at u3
  have hx : x = t ++ [⟨w.epoch + 1, p⟩] ++ [⟨w.epoch + 2, p⟩] := by
    rcases u3.top x x1 with e | e
    · exact e
    · have := x2 _ u3.sure; omega
  rw [e2, hx] at x3
  exact ⟨t, x3.sure⟩
/-- Among eight epochs there are three of leaders that do not lie. -/
theorem lead_three {e bad : Int} (h0 : 0 ≤ e) (h22 : e ≤ 22) : ∃ j : Nat, j ≤ 5 ∧ leader (e + j + 1) ≠ bad ∧ leader (e + j + 2) ≠ bad ∧ leader (e + j + 3) ≠ bad := by
  have hl : ∀ x : Int, 1 ≤ x → x ≤ 30 → leader x = (x - 1).tmod 4 + 1 := fun x h1 h2 => by
    unfold leader
    rw [if_pos (by simp only [within, Bool.and_eq_true, decide_eq_true_eq]; omega)]
  have ht : ∀ x : Int, 1 ≤ x → x ≤ 30 → leader x = (x - 1) % 4 + 1 := fun x h1 h2 => by
    rw [hl x h1 h2, Int.tmod_eq_emod_of_nonneg (by omega)]
  have key : ∀ j : Nat, j ≤ 5 → (e + j) % 4 + 1 ≠ bad → (e + j + 1) % 4 + 1 ≠ bad → (e + j + 2) % 4 + 1 ≠ bad → leader (e + j + 1) ≠ bad ∧ leader (e + j + 2) ≠ bad ∧ leader (e + j + 3) ≠ bad := fun j hj a b c => by
    rw [ht _ (by omega) (by omega), ht _ (by omega) (by omega), ht _ (by omega) (by omega)]
    refine ⟨?_, ?_, ?_⟩ <;> intro h <;> omega
  by_cases c0 : (e + 0) % 4 + 1 ≠ bad ∧ (e + 0 + 1) % 4 + 1 ≠ bad ∧ (e + 0 + 2) % 4 + 1 ≠ bad
  · exact ⟨0, by omega, key 0 (by omega) c0.1 c0.2.1 c0.2.2⟩
  · by_cases c1 : (e + 1) % 4 + 1 ≠ bad ∧ (e + 1 + 1) % 4 + 1 ≠ bad ∧ (e + 1 + 2) % 4 + 1 ≠ bad
    · exact ⟨1, by omega, key 1 (by omega) c1.1 c1.2.1 c1.2.2⟩
    · by_cases c2 : (e + 2) % 4 + 1 ≠ bad ∧ (e + 2 + 1) % 4 + 1 ≠ bad ∧ (e + 2 + 2) % 4 + 1 ≠ bad
      · exact ⟨2, by omega, key 2 (by omega) c2.1 c2.2.1 c2.2.2⟩
      · exact ⟨3, by omega, key 3 (by omega) (by show (e + 3) % 4 + 1 ≠ bad; omega) (by show (e + 3 + 1) % 4 + 1 ≠ bad; omega) (by show (e + 3 + 2) % 4 + 1 ≠ bad; omega)⟩
theorem replicate_split {α : Type} (a : α) (n m : Nat) : List.replicate (n + m) a = List.replicate n a ++ List.replicate m a := (List.replicate_append_replicate).symm
/-- Behind eight quiet epochs: all hold the same for final, more than before, and a payment of these epochs is in it. -/
theorem calm_m {w x : Wrld} {p : Pay} {m : Nat} (hm8 : m = 8) (h : Inv w) (hp : payOk p = true) (hr : RoomP 8 w) (hx8 : x = (List.replicate m p).foldl calmF w) :
    After 8 w x ∧ ∃ f : List Itm, (∀ (k : Nat) (n : Nod), x.nodes[k]? = some n → (k : Int) + 1 ≠ w.bad → finalOf n.seen = f) ∧
      (∀ (k : Nat) (n : Nod), w.nodes[k]? = some n → (k : Int) + 1 ≠ w.bad → (finalOf n.seen).length < f.length) ∧ ∃ i ∈ f, w.epoch < i.epoch ∧ i.pay = p := by
  have hep0 := h.ok.ep
  obtain ⟨a8, _, d8⟩ := calm_steps (p := p) m (k := 0) (by omega) h (by rw [show m + 0 = 8 by omega]; exact hr)
  have hd := d8 (by omega)
  rw [← hx8] at a8 hd
  rw [hm8] at a8
  refine ⟨a8, finalOf x.log, ?_⟩
  have hep := hr.ep
  obtain ⟨j, hj, l1, l2, l3⟩ := lead_three (e := w.epoch) (bad := w.bad) hep0.1 (by omega)
  obtain ⟨aj, rj, _⟩ := calm_steps (p := p) j (k := 8 - j) (by omega) h (by rw [show j + (8 - j) = 8 by omega]; exact hr)
  have hy : x = (List.replicate (5 - j) p).foldl calmF (calmF (calmF (calmF ((List.replicate j p).foldl calmF w) p) p) p) := by
    rw [hx8, show m = j + (3 + (5 - j)) by omega, replicate_split, List.foldl_append, replicate_split, List.foldl_append]
    simp only [List.replicate_succ, List.replicate_zero, List.foldl_cons, List.foldl_nil]
  generalize hyw : (List.replicate j p).foldl calmF w = y at aj rj hy
  have ry : RoomP 3 y := ⟨by have := rj.ep; omega, by have := rj.log; omega, fun v hv => by have := rj.len v hv; omega⟩
  obtain ⟨t, ht⟩ := calm_three aj.inv hp ry (by rw [aj.ep, aj.bd]; exact l1) (by rw [aj.ep, aj.bd]; exact l2) (by rw [aj.ep, aj.bd]; exact l3)
  obtain ⟨b1, q1, _⟩ := calm_step (p := p) (k := 7 - j) (by omega) aj.inv (by rw [show 7 - j + 1 = 8 - j by omega]; exact rj)
  obtain ⟨b2, q2, _⟩ := calm_step (p := p) (k := 6 - j) (by omega) b1.inv (by rw [show 6 - j + 1 = 7 - j by omega]; exact q1)
  obtain ⟨b3, q3, _⟩ := calm_step (p := p) (k := 5 - j) (by omega) b2.inv (by rw [show 5 - j + 1 = 6 - j by omega]; exact q2)
  obtain ⟨b4, _, _⟩ := calm_steps (p := p) (5 - j) (k := 0) (by omega) b3.inv q3
  rw [← hy] at b4
  have hs := sure_mono b4.sub ht
  have htr : Trip (((t ++ [⟨y.epoch + 1, p⟩]) ++ [⟨y.epoch + 2, p⟩]) ++ [⟨y.epoch + 3, p⟩]) (t.length + 2) := by
    refine ⟨by omega, ⟨y.epoch + 1, p⟩, ⟨y.epoch + 2, p⟩, ⟨y.epoch + 3, p⟩, ?_, ?_, ?_, by show y.epoch + 1 + 1 = y.epoch + 2; omega, by show y.epoch + 2 + 1 = y.epoch + 3; omega⟩
    · rw [show t.length + 2 - 2 = t.length by omega]; simp
    · rw [show t.length + 2 - 1 = t.length + 1 by omega, List.append_assoc, List.append_assoc, List.getElem?_append_right (by omega)]; simp
    · rw [List.append_assoc, List.append_assoc, List.getElem?_append_right (by omega)]; simp
  have hfl := Int.le_trans (finLen_max htr) (shown_max hs)
  have hfin := final_len x.log
  have hshl := finLen_le (shownOf x.log)
  have hag := a8.inv.safe.agree hs (shown_sure x.log) htr (by have := hshl.2; omega)
  have hftake : (finalOf x.log).take (t.length + 2) = (t ++ [⟨y.epoch + 1, p⟩]) ++ [⟨y.epoch + 2, p⟩] := by
    unfold finalOf
    rw [List.take_take, Nat.min_eq_left (by omega), ← hag]
    rw [List.take_append_of_le_length (by simp), List.take_of_length_le (by simp)]
  have hget : (finalOf x.log)[t.length]? = some ⟨y.epoch + 1, p⟩ := by
    have : ((finalOf x.log).take (t.length + 2))[t.length]? = ((t ++ [⟨y.epoch + 1, p⟩]) ++ [⟨y.epoch + 2, p⟩])[t.length]? := by rw [hftake]
    rw [List.getElem?_take, if_pos (by omega)] at this
    rw [this, List.append_assoc, List.getElem?_append_right (by omega)]
    simp
  refine ⟨fun k n hn hb => ?_, fun k n hn hb => ?_, ⟨_, List.mem_of_getElem? hget, by show w.epoch < y.epoch + 1; rw [aj.ep]; omega, rfl⟩⟩
  · obtain ⟨h1, h2, _⟩ := had_all a8.inv hd hn (by rw [a8.bd]; exact hb)
    have p1 := a8.inv.safe.more h2 (fun v hv => hv)
    have p2 := a8.inv.safe.more h1 h2
    have := p1.length_le
    exact List.IsPrefix.eq_of_length p1 (Nat.le_antisymm p1.length_le p2.length_le)
  · rcases Nat.lt_or_ge (finalOf n.seen).length (finalOf x.log).length with hlt | hge
    · exact hlt
    · exfalso
      have hN := h.nodes k n hn
      have hsub := hN.sub (by rw [hN.id]; exact hb)
      have hpre := a8.inv.safe.begin (l1 := x.log) (l2 := n.seen) (fun v hv => hv) (fun v hv => a8.sub v (hsub v hv)) hge
      obtain ⟨r, hr'⟩ := hpre
      have hg : (finalOf n.seen)[t.length]? = some ⟨y.epoch + 1, p⟩ := by
        rw [← hr', List.getElem?_append_left (List.getElem?_eq_some_iff.1 hget).1]; exact hget
      have hsg : sure w.log ((finalOf n.seen).take (t.length + 1)) = true := sure_take (sure_mono hsub (by unfold finalOf; exact sure_take (shown_sure _) _)) _
      have hgl := (List.getElem?_eq_some_iff.1 hg).1
      have := h.epoch hsg (by rw [List.length_take]; omega)
      rw [lastEp_take hg] at this
      simp only [aj.ep] at this
      omega
end Go.Wt
namespace Go.Wt
theorem roomB_room {w : Wrld} {k : Nat} (h : roomB w k = true) : RoomP k w := by
  simp only [roomB, Bool.and_eq_true, List.all_eq_true, decide_eq_true_eq] at h
  exact ⟨by omega, by omega, fun v hv => by have := h.2 v hv; omega⟩
end Go.Wt
namespace Go.Wt
abbrev calmP : Pay := ⟨1, 2, 1⟩
/-- The first that does not lie. -/
def firstI (b : Int) : Int := if b = 1 then 1 else 0
theorem firstI_bd (b : Int) : 0 ≤ firstI b ∧ firstI b ≤ 1 := by unfold firstI; split <;> omega
theorem firstI_ne (b : Int) : firstI b + 1 ≠ b := by unfold firstI; split <;> omega
/-- Whether a payment of a later epoch is among the first. -/
def foundF (e : Int) (p : Pay) (f : List Itm) (k : Nat) : Bool := (f.take k).any fun i => decide (e < i.epoch) && decide (i.pay = p)
theorem foundF_step (e : Int) (p : Pay) {f : List Itm} {k : Nat} {u : Itm} (h : f[k]? = some u) : foundF e p f (k + 1) = (foundF e p f k || (decide (e < u.epoch) && decide (u.pay = p))) := by
  unfold foundF
  rw [take_at h, List.any_append]
  simp
theorem foundF_all {e : Int} {p : Pay} {f : List Itm} {y : Itm} (hy : y ∈ f) (he : e < y.epoch) (hp : y.pay = p) : foundF e p f f.length = true := by
  unfold foundF
  rw [List.take_length, List.any_eq_true]
  exact ⟨y, hy, by simp [he, hp]⟩
end Go.Wt

/- Certificates. -/
set_option linter.unusedVariables false
set_option linter.unusedSimpArgs false
namespace Go.Wt
/-- The chain of one of the lists. -/
def preC (c : List Itm) (k : Nat) : List Itm := c.take (c.length - 2 + k)
def votersOkFrom (p : Int) : List Int → Bool
  | [] => true
  | x :: r => within x 1 4 && decide (p < x) && votersOkFrom x r
def votersOk (l : List Int) : Bool := votersOkFrom 0 l && decide (3 ≤ l.length)
def certOk (c : Cert) : Bool := chainOk c.chain && decide (3 ≤ c.chain.length) && decide (finLen c.chain = (c.chain.length : Int) - 1) && decide (c.by_.length = 3) && c.by_.all votersOk
def certFinal (c : Cert) : List Itm := if certOk c then c.chain.take (c.chain.length - 1) else []
def votesAt (c : List Itm) : Nat → List (List Int) → List Vote
  | _, [] => []
  | k, l :: r => l.map (fun n => Vote.mk n (preC c k)) ++ votesAt c (k + 1) r
def certVotes (c : Cert) : List Vote := if certOk c then votesAt c.chain 0 c.by_ else []
def certC (l : List Vote) (c : List Itm) (n : Nat) : Cert := ⟨c.take (n + 1), [voters l (c.take (n - 1)), voters l (c.take n), voters l (c.take (n + 1))]⟩
def certOf (l : List Vote) : Cert × Bool := if votesOk l && decide (finLen (shownOf l) ≠ 0) then (certC l (shownOf l) (finLen (shownOf l)).toNat, true) else (.zero, false)
def worldShown (w : Wrld) (c : Cert) : Bool := worldOk w && certOk c && (certVotes c).all (shownB w)
theorem voters_up (l : List Vote) (c : List Itm) : votersOkFrom 0 (voters l c) = true := by
  unfold voters
  simp only [List.filter_cons, List.filter_nil]
  split <;> split <;> split <;> split <;> decide
theorem finLen_take {c : List Itm} {n : Nat} (h : Trip c n) : finLen (c.take (n + 1)) = n := by
  have hlt := h.lt
  have ht : Trip (c.take (n + 1)) n := by
    obtain ⟨h2, x, y, z, a, b, d, e⟩ := h
    refine ⟨h2, x, y, z, ?_, ?_, ?_, e⟩ <;> rw [List.getElem?_take, if_pos (by omega)] <;> assumption
  have h1 := finLen_max ht
  rcases finLen_spec (c.take (n + 1)) with h0 | h0
  · omega
  · have := h0.lt
    rw [List.length_take] at this
    omega
theorem certOf_ok {l : List Vote} (h : (certOf l).2 = true) : votesOk l = true ∧ certOk (certOf l).1 = true ∧ certFinal (certOf l).1 = finalOf l ∧ ∀ v ∈ certVotes (certOf l).1, v ∈ l := by
  unfold certOf at h ⊢
  split at h
  · rename_i hh
    rw [if_pos hh]
    simp only [Bool.and_eq_true, decide_eq_true_eq] at hh
    obtain ⟨hv, hn⟩ := hh
    rcases finLen_spec (shownOf l) with h0 | ht
    · exact absurd h0 hn
    · have hs := shown_sure l
      have hl := finLen_le (shownOf l)
      have hfe : finalOf l = (shownOf l).take (finLen (shownOf l)).toNat := rfl
      generalize hnn : (finLen (shownOf l)).toNat = n at ht hfe
      generalize shownOf l = c at hs ht hfe hl hnn
      have h2 := ht.1
      have hlt := ht.lt
      have hlen : (c.take (n + 1)).length = n + 1 := by rw [List.length_take]; omega
      have q := fun j (h1 : 0 < j) (h2 : j ≤ c.length) => sure_iff.1 hs j h1 h2
      have hok : certOk (certC l c n) = true := by
        simp only [certOk, certC, hlen, finLen_take ht, Bool.and_eq_true, decide_eq_true_eq, List.all_cons, List.all_nil, votersOk, voters_up, Bool.true_and, and_true, Bool.and_true, List.length_cons, List.length_nil]
        have a1 := chainOk_take (sure_chainOk (votesOk_mem hv) hs) (n + 1)
        have a2 := q (n - 1) (by omega) (by omega)
        have a3 := q n (by omega) (by omega)
        have a4 := q (n + 1) (by omega) (by omega)
        simp only [a1, a2, a3, a4, true_and, and_true]
        omega
      have hp : ∀ k, preC (c.take (n + 1)) k = c.take (min (n - 1 + k) (n + 1)) := fun k => by
        unfold preC
        rw [hlen, List.take_take]
        rw [show n + 1 - 2 = n - 1 by omega]
      refine ⟨hv, hok, ?_, fun v hv' => ?_⟩
      · unfold certFinal
        rw [if_pos hok, hfe]
        simp only [certC, hlen]
        rw [List.take_take]
        congr 1
        try omega
      · unfold certVotes at hv'
        rw [if_pos hok] at hv'
        simp only [certC, votesAt, List.append_nil, List.mem_append, List.mem_map, hp] at hv'
        rcases hv' with ⟨m, hm, rfl⟩ | ⟨m, hm, rfl⟩ | ⟨m, hm, rfl⟩
        · rw [show min (n - 1 + 0) (n + 1) = n - 1 by omega]; exact (voters_mem.1 hm).2
        · rw [show min (n - 1 + (0 + 1)) (n + 1) = n by omega]; exact (voters_mem.1 hm).2
        · rw [show min (n - 1 + (0 + 1 + 1)) (n + 1) = n + 1 by omega]; exact (voters_mem.1 hm).2
  · cases h
theorem certOf_no {l : List Vote} (hv : votesOk l = true) (h : (certOf l).2 = false) : (finalOf l).length = 0 := by
  unfold certOf at h
  split at h
  · cases h
  · rename_i hh
    simp only [hv, Bool.true_and, decide_eq_true_eq, Decidable.not_not] at hh
    have := final_len l
    omega
theorem certOf_yes {l : List Vote} (hv : votesOk l = true) (h : 0 < (finalOf l).length) : (certOf l).2 = true := by
  cases hc : (certOf l).2 with
  | true => rfl
  | false => have := certOf_no hv hc; omega
theorem worldShown_of {w : Wrld} (hI : Inv w) {l : List Vote} (hl : ∀ v ∈ l, v.by_ = w.bad ∨ v ∈ w.log) (h : (certOf l).2 = true) : worldShown w (certOf l).1 = true := by
  obtain ⟨_, h1, _, h2⟩ := certOf_ok h
  simp only [worldShown, hI.worldOk, h1, Bool.true_and, List.all_eq_true]
  intro v hv
  simp only [shownB, Bool.or_eq_true, decide_eq_true_eq]
  exact hl v (h2 v hv)
/-- Votes of the bad one change nothing for those that do not lie. -/
theorem Safe.bad {bad : Int} {L L' : List Vote} (h : Safe bad L) (hl : ∀ v ∈ L', v ∈ L ∨ v.by_ = bad) : Safe bad L' :=
  ⟨fun u hu v hv e hb he => h.one u ((hl u hu).resolve_right hb) v ((hl v hv).resolve_right (by rw [← e]; exact hb)) e hb he,
   fun u hu v hv e hb he => h.long u ((hl u hu).resolve_right hb) v ((hl v hv).resolve_right (by rw [← e]; exact hb)) e hb he⟩
end Go.Wt

/- A part of a row that is written in place; a copy of one number into it. -/
set_option linter.unusedVariables false
set_option linter.unusedSimpArgs false
namespace Go.Wt
open Go
/-- A part of the row that is object `o`, from the element at `off` on, `n` long. -/
structure SRef where
  o : Nat
  off : Nat
  n : Nat
instance : Enc SRef where
  size := 1
  agg := false
  size_pos := by decide
  agg_size := fun _ => rfl
  rd := fun G _ _ r cs => ∃ b m c c', cs = [.slice (some ⟨b, r.off, none⟩) r.n c] ∧ G.hdr r.o = some (.slice (some ⟨b, 0, none⟩) m c') ∧ r.n ≤ c
  refs := fun r => [r.o]
  dis := fun r => r
  len := fun ⟨_, _, _, _, h, _⟩ => by rw [h]; rfl
  one := fun ⟨_, _, _, _, h, _⟩ c hc => by rw [h] at hc; simp at hc; rw [hc]; rfl
  mono := fun _ _ hm ⟨b, m, c, c', h1, h2, h3⟩ => ⟨b, m, c, c', h1, hm _ (by simp) _ h2, h3⟩
  mono_dis := fun _ hm ⟨b, m, c, c', h1, h2, h3⟩ => ⟨b, m, c, c', h1, hm _ (by simp) _ h2, h3⟩
instance : Disl SRef := ⟨fun _ => rfl⟩
theorem RelV.sref {G w ω u} {r : SRef} (h : RelV G w ω (.v r) u) : ∃ b m c c', u = .slice (some ⟨b, r.off, none⟩) r.n c ∧ G.hdr r.o = some (.slice (some ⟨b, 0, none⟩) m c') ∧ r.n ≤ c := by
  obtain ⟨cs, ⟨b, m, c, c', h1, h2, h4⟩, h3⟩ := h
  exact ⟨b, m, c, c', by rw [h3, h1]; rfl, h2, h4⟩
variable {P : Program} {S : Nat → Prop} {ops : Array Oper} {st : St}
variable {d : Nat} {T pos aft} {x y z : Operand}
theorem op_slA {E bytes t : TypeId} {o : Nat} {xs : List Int} {l : Int} (sl : SlOk P t E bytes Int) (hx : st.ev x = some (.v (NRef.ref o))) (hy : st.ev y = some (.v l)) (ho : st.ob o = .arr xs) (hn : Nat.blt d st.n = true) (hb : 0 ≤ l ∧ l.toNat < xs.length) :
    OpOk P S ops ⟨some d, .slice t x (some y) none none, T, pos, aft, none⟩ (opT x ++ opT y) [o] [(d, some (.v (SRef.mk o l.toNat (xs.length - l.toNat))))] [] st :=
  OpOk.value rfl rfl (by simpa using hn) fun st1 hag G w a hr => by
    obtain ⟨ad, n, c, h1, h2⟩ := RelV.ref (hr.at hag hx fun t ht => by simp [ht])
    have e2 := RelV.int (hr.at hag hy fun t ht => by simp [ht])
    have hob := hr.objs o
    rw [hag.ob o (by simp), ho] at hob
    obtain ⟨b, cap, cs, e, k1, k2', k3', _⟩ := hob
    have k0 := k1
    rw [h2] at k1
    injection k1 with k1
    injection k1 with k1 k2 k3
    subst k1 k2 k3
    obtain ⟨q1, q2⟩ := sl.elem
    refine ⟨sliced (some ⟨b, 0, none⟩) l.toNat xs.length c (Enc.size Int), ?_, [_], ⟨b, xs.length, c - l.toNat, c, ?_, k0, by show xs.length - l.toNat ≤ c - l.toNat; omega⟩, by simp [Enc.val, Enc.agg]; rfl⟩
    · simp only [execOp, h1, e2, Option.map_none, Option.map_some, Sem.run_bind, run_sliceAt_slice _ _ _ _ _ _ q1, run_slice_l w t _ xs.length c q1 .i64 l hb.1 (by omega), q2, sl.el.size, Result.andThen_ok, Sem.run_pure]
    · simp only [sliced]
      rw [if_neg (by omega)]
      simp [Addr.add, Enc.size]
      try (intro; omega)
theorem op_slAh {E bytes t : TypeId} {o : Nat} {xs : List Int} {h : Int} (sl : SlOk P t E bytes Int) (hx : st.ev x = some (.v (NRef.ref o))) (hy : st.ev z = some (.v h)) (ho : st.ob o = .arr xs) (hn : Nat.blt d st.n = true) (hb : 0 ≤ h ∧ h.toNat ≤ xs.length) :
    OpOk P S ops ⟨some d, .slice t x none (some z) none, T, pos, aft, none⟩ (opT x ++ opT z) [o] [(d, some (.v (SRef.mk o 0 h.toNat)))] [] st :=
  OpOk.value rfl rfl (by simpa using hn) fun st1 hag G w a hr => by
    obtain ⟨ad, n, c, h1, h2⟩ := RelV.ref (hr.at hag hx fun t ht => by simp [ht])
    have e2 := RelV.int (hr.at hag hy fun t ht => by simp [ht])
    have hob := hr.objs o
    rw [hag.ob o (by simp), ho] at hob
    obtain ⟨b, cap, cs, e, k1, k2', k3', _⟩ := hob
    have k0 := k1
    rw [h2] at k1
    injection k1 with k1
    injection k1 with k1 k2 k3
    subst k1 k2 k3
    obtain ⟨q1, q2⟩ := sl.elem
    refine ⟨sliced (some ⟨b, 0, none⟩) 0 h.toNat c (Enc.size Int), ?_, [_], ⟨b, xs.length, c, c, ?_, k0, by show h.toNat ≤ c; omega⟩, by simp [Enc.val, Enc.agg]; rfl⟩
    · simp only [execOp, h1, e2, Option.map_none, Option.map_some, Sem.run_bind, run_sliceAt_slice _ _ _ _ _ _ q1, run_slice_h w t _ xs.length c q1 .i64 h hb.1 (by omega), q2, sl.el.size, Result.andThen_ok, Sem.run_pure]
    · simp only [sliced]
      split <;> simp [Addr.add]
/-- The first number of what is copied from. -/
def Fst (st : St) (y : Operand) (rt ro : List Nat) (n : Nat) (v : Int) : Prop := ∀ st1, Agree rt ro st st1 → ∀ G w a, RelSt G w a st1 → ∃ ad c, a.eval y = .slice (some ad) n c ∧ w.cell? ad = some (.int .i64 v)
/-- Where is copied to. -/
def Dst (st : St) (x : Operand) (rt ro : List Nat) (o k n : Nat) : Prop := ∀ st1, Agree rt ro st st1 → ∀ G w a, RelSt G w a st1 → ∃ b c m c', a.eval x = .slice (some ⟨b, k, none⟩) n c ∧ G.hdr o = some (.slice (some ⟨b, 0, none⟩) m c')
theorem fst_list {rt ro : List Nat} {v : Int} {l : List Int} {av : AV} [hs : Src Int av (v :: l)] (hx : st.ev y = some av) (hsub : ∀ t ∈ opT y, t ∈ rt) : Fst st y rt ro (l.length + 1) v := fun st1 hag G w a hr => by
  obtain ⟨ad, cap, h1, h2, h3⟩ := hs.rel (hr.at hag hx hsub)
  rcases h3 with h3 | ⟨b, off, e, _, h4⟩
  · cases h3
  · obtain ⟨c, hc, hm⟩ := h4 0 v rfl
    have hc' : c = [.int .i64 v] := hc
    subst hc'
    have := (hm 0 _ rfl).2
    refine ⟨⟨b, off, none⟩, cap, by rw [h1, e]; rfl, ?_⟩
    simpa [cl] using this
theorem fst_sref {rt ro : List Nat} {v : Int} {o n : Nat} {xs : List Int} (hx : st.ev y = some (.v (SRef.mk o 0 n))) (hsub : ∀ t ∈ opT y, t ∈ rt) (ho : st.ob o = .arr xs) (hoin : o ∈ ro) (hv : xs[0]? = some v) : Fst st y rt ro n v := fun st1 hag G w a hr => by
  obtain ⟨b, m, c, c', h1, h2, _⟩ := RelV.sref (hr.at hag hx hsub)
  have hob := hr.objs o
  rw [hag.ob o hoin, ho] at hob
  obtain ⟨b', cap, cs, e, k1, k2, k3, k4, k5, k6⟩ := hob
  have k0 := k1
  rw [h2] at k1
  injection k1 with k1
  injection k1 with k1 _ _
  injection k1 with k1
  injection k1 with k1 _ _
  subst k1
  obtain ⟨ce, r1, r2⟩ := k5 0 v hv
  have hce : ce = [.int .i64 v] := r1
  subst hce
  have := r2 0 _ rfl
  refine ⟨⟨b, 0, none⟩, c, h1, ?_⟩
  simp only [Nat.zero_mul, Nat.add_zero] at this
  rw [← cl_row k2 0] at this
  exact this
theorem dst_ref {rt ro : List Nat} {o : Nat} {α : Type} [Enc α] {xs : List α} (hx : st.ev x = some (.v (NRef.ref o))) (hsub : ∀ t ∈ opT x, t ∈ rt) (ho : st.ob o = .arr xs) (hoin : o ∈ ro) : Dst st x rt ro o 0 xs.length := fun st1 hag G w a hr => by
  obtain ⟨ad, n, c, h1, h2⟩ := RelV.ref (hr.at hag hx hsub)
  have hob := hr.objs o
  rw [hag.ob o hoin, ho] at hob
  obtain ⟨b', cap, cs, e, k1, k2, k3, k4, k5, k6⟩ := hob
  have k0 := k1
  rw [h2] at k1
  injection k1 with k1
  injection k1 with e1 e2 e3
  subst e1 e2 e3
  exact ⟨b', c, _, _, h1, k0⟩
theorem dst_sref {rt ro : List Nat} {o k n : Nat} (hx : st.ev x = some (.v (SRef.mk o k n))) (hsub : ∀ t ∈ opT x, t ∈ rt) : Dst st x rt ro o k n := fun st1 hag G w a hr => by
  obtain ⟨b, m, c, c', h1, h2, _⟩ := RelV.sref (hr.at hag hx hsub)
  exact ⟨b, c, m, c', h1, h2⟩
theorem op_copy1 {t t2 E bytes : TypeId} {o k n m : Nat} {v : Int} {xs : List Int} (sl : SlOk P t E bytes Int) (hD : Dst st x (opT x ++ opT y) [o] o k n) (hF : Fst st y (opT x ++ opT y) [o] m v) (ho : st.ob o = .arr xs) (hk : k < xs.length) (h1 : Nat.min m n = 1) (hn : Nat.blt d st.n = true) :
    OpOk P S ops ⟨some d, .call { callee := .builtin .copy, args := #[x, y], argTypes := #[t, t2] }, T, pos, aft, none⟩ (opT x ++ opT y) [o] [(d, some (.v (1 : Int)))] [(o, .arr (xs.set k v))] st := by
  intro st1 hag G w a hr K Q hK
  unfold stepO
  rw [if_pos (by simp [Region.wanted])]
  refine .inl ?_
  have hd' : d < st1.n := by rw [hag.n]; simpa using hn
  obtain ⟨b, c, m', c', u1, u2⟩ := hD st1 hag G w a hr
  obtain ⟨ad, cy, v1, v2⟩ := hF st1 hag G w a hr
  have hob := hr.objs o
  rw [hag.ob o (by simp), ho] at hob
  obtain ⟨b', cap, cs, te, m1, m2, m3, m4, m5, m6⟩ := hob
  have m0 := m1
  rw [u2] at m0
  injection m0 with m0
  injection m0 with e1 _ _
  injection e1 with e1
  injection e1 with e1 _ _
  subst e1
  obtain ⟨q1, q2⟩ := sl.elem
  have hcl : k < cs.length := by simp [Enc.size] at m4; omega
  have hfc := run_firstCells_some (P := P) w 1 1 ad m cy [.int .i64 v] rfl (fun j u hj => by
    have : j = 0 := by have := (List.getElem?_eq_some_iff.1 hj).1; simp at this; exact this
    subst this
    simp at hj
    subst hj
    simpa [Addr.add] using v2)
  have hst := run_storeCells_at (P := P) b k te [.int .i64 v] 0 cs.toArray w m2 (by simp; omega) (fun u hu => by simp at hu; subst hu; rfl)
  let cs' := cs.take k ++ [.int .i64 v] ++ cs.drop (k + 1)
  have hw : Wr G w o b cs cs' te := ⟨m2, m6, by simp [cs']; omega, by omega⟩
  have hst' : (storeCells ⟨b, k, none⟩ [.int .i64 v]).run P w = .ok () (w.setRow b cs'.toArray) := by
    simpa [cs'] using hst
  have hlen : (Builtin.lenOf (.slice (some ad) m cy)).run P w = .ok m w := by simp [Builtin.lenOf]
  have hcopy : (Builtin.copy_ #[t, t2] T #[.slice (some ⟨b, k, none⟩) n c, .slice (some ad) m cy]).run P w = .ok (goInt 1) (w.setRow b cs'.toArray) := by
    have hsz := sl.el.size w
    have h11 : Nat.min m n = 1 := h1
    simp only [Builtin.copy_, List.getElem?_toArray, List.getElem?_cons_zero, List.getElem?_cons_succ, Sem.run_bind, run_underlying q1, Result.andThen_ok, hlen, q2, hsz, h11]
    rw [show Enc.size Int = 1 from rfl, hfc]
    simp only [Result.andThen_ok, Sem.run_bind, hst', Sem.run_pure]
    rfl
  have hexec : (execOp a.eval ⟨some d, .call { callee := .builtin .copy, args := #[x, y], argTypes := #[t, t2] }, T, pos, aft, none⟩).run P w = .ok (.value (goInt 1)) (w.setRow b cs'.toArray) := by
    simp only [execOp, resolve, invoke, builtin, List.map_toArray, List.map_cons, List.map_nil, Sem.run_bind, Sem.run_pure, Result.andThen_ok, u1, v1, hcopy]
  unfold Oper.wp
  rw [hexec]
  simp only [Oper.upon]
  refine hK _ _ G ?_ (hw.keep S)
  have hrow : RelO G (w.setRow b cs'.toArray) o (.arr (xs.set k v)) := by
    refine ⟨b, cap, cs', te, by simpa using m1, setRow_heap _ _ _ _ _ _ m2, by simpa using m3, by rw [hw.len]; exact m4, fun i u hi => ?_, fun i hi => m6 i (by rw [hw.len] at hi; exact hi)⟩
    refine ⟨[.int .i64 u], rfl, fun j q hj => ?_⟩
    have : j = 0 := by have := (List.getElem?_eq_some_iff.1 hj).1; simp at this; exact this
    subst this
    simp at hj
    subst hj
    simp only [show Enc.size Int = 1 from rfl, Nat.mul_one, Nat.add_zero, cs']
    by_cases hik : i = k
    · subst hik
      rw [List.getElem?_set_self hk] at hi
      injection hi with hi
      subst hi
      rw [List.append_assoc, List.getElem?_append_right (by simp; omega)]
      simp [Nat.min_eq_left (Nat.le_of_lt hcl)]
    · rw [List.getElem?_set_ne (Ne.symm hik)] at hi
      obtain ⟨ce, r1, r2⟩ := m5 i u hi
      have hce : ce = [.int .i64 u] := r1
      subst hce
      have := r2 0 _ rfl
      simp only [show Enc.size Int = 1 from rfl, Nat.mul_one, Nat.add_zero] at this
      rw [← this]
      rcases Nat.lt_or_ge i k with h | h
      · rw [List.append_assoc, List.getElem?_append_left (by simp; omega), List.getElem?_take, if_pos h]
      · rw [List.getElem?_append_right (by simp; omega), List.getElem?_drop]
        congr 1
        simp
        omega
  have := (hr.write hw hrow).put (d := d) (av := some (.v (1 : Int))) hd' (relInt _ _ _ _)
  exact this
end Go.Wt
namespace Go.Wt
open Go
variable {P : Program} {S : Nat → Prop} {ops : Array Oper} {st : St}
variable {d : Nat} {T t' : TypeId} {pos : String} {aft : Array Edge} {x y z : Operand}
/-- A new row of noughts, as a named object. -/
theorem op_mkA {o : Nat} {t E : TypeId} {bytes : Nat} {n : Int} (sl : SlOk P t E bytes Int) (hz : ZeroOk P E (0 : Int)) (hx : st.ev x = some (.v n)) (h0 : 0 ≤ n) (hb : (bytes : Int) * n ≤ 281474976710656) (hn63 : n ≤ 9223372036854775807) (ho : st.ob o = .free) (hn : Nat.blt d st.n = true) :
    OpOk P S ops ⟨some d, .makeSlice t x x, T, pos, aft, none⟩ (opT x ++ opT x) [o] [(d, some (.v (NRef.ref o)))] [(o, .arr (List.replicate n.toNat (0 : Int)))] st := by
  intro st1 hg G w a hr K Q hK
  unfold stepO
  rw [if_pos (by simp [Region.wanted])]
  refine .inl ?_
  obtain ⟨hu, i, hi, hby, hsz⟩ := sl.spec
  obtain ⟨i', zcs, k1, k2, k3⟩ := hz.ok
  rw [hi] at k1
  injection k1 with k1
  subst k1
  have hzc : zcs = [.int .i64 0] := k3 G w ω0
  subst hzc
  have e1 := RelV.int (hr.at hg hx fun t ht => by simp [ht])
  have hrun := run_make (P := P) w t E i _ hu hi k2 .i64 .i64 n n h0 (Int.le_refl _) (by rw [hby]; exact hb) hn63
  have hcells : madeCells (Enc.val Int [.int .i64 0]).cells (n.toNat * i.size) = (List.replicate n.toNat (Value.int .i64 0)).toArray := by
    have : (Enc.val Int [.int .i64 0]).cells = #[Value.int .i64 0] := rfl
    rw [this, ← toList_madeCells_one, hsz]
    simp [Enc.size]
  rw [hcells] at hrun
  have hexec : (execOp a.eval ⟨some d, .makeSlice t x x, T, pos, aft, none⟩).run P w = .ok (.value (.slice (some ⟨w.heap.size, 0, none⟩) n.toNat n.toNat)) (w.alloc (.cells (List.replicate n.toNat (Value.int .i64 0)).toArray E)) := by
    simp only [execOp, e1, Sem.run_bind, hrun, Result.andThen_ok, Sem.run_pure]
  unfold Oper.wp
  rw [hexec]
  simp only [Oper.upon]
  have hrow : Rows G w (List.replicate n.toNat (0 : Int)) (List.replicate n.toNat (Value.int .i64 0)) := by
    refine ⟨by simp [Enc.size], fun j u hj => ⟨[.int .i64 u], rfl, fun q v hq => ?_⟩⟩
    have : q = 0 := by have := (List.getElem?_eq_some_iff.1 hq).1; simp at this; exact this
    subst this
    simp at hq
    subst hq
    have hj' := List.getElem?_eq_some_iff.1 hj
    obtain ⟨hl, he⟩ := hj'
    simp at hl he
    subst he
    simp [Enc.size, hl]
  obtain ⟨G', h1, h2, h3⟩ := hr.newarr (o := o) (e := E) (cap := n.toNat) (by rw [hg.ob o (by simp), ho]) hrow (by simp) (by simp [Enc.size])
  refine hK _ _ G' ?_ (h2 S)
  rw [← St.upd_upd]
  simp only [List.length_replicate] at h3
  exact h1.put (av := some _) (by show d < st1.n; rw [hg.n]; simpa using hn) ⟨_, ⟨_, _, _, rfl, h3⟩, rfl⟩
/-! ### Numbers without a sign -/
structure UN where
  n : Int
instance : Enc UN := scalarEnc (fun n => .int .u64 n.n) (fun _ => rfl)
instance : Plain UN := ⟨fun _ => rfl, fun _ => rfl⟩
theorem RelV.un {G w ω u} {n : UN} (h : RelV G w ω (.v n) u) : u = .int .u64 n.n := by obtain ⟨cs, h1, h2⟩ := h; rw [h2, show cs = [.int .u64 n.n] from h1]; rfl
theorem relUN (G w ω) (n : UN) : RelV G w ω (.v n) (.int .u64 n.n) := ⟨[.int .u64 n.n], rfl, rfl⟩
theorem wrap_u64 {m : Int} (h : 0 ≤ m ∧ m < 18446744073709551616) : IntKind.u64.wrap m = m := by
  simp [IntKind.wrap, IntKind.signed, IntKind.bits]
  omega
theorem op_cvU {s t : TypeId} {m : Int} (hx : st.ev x = some (.v m)) (hn : Nat.blt d st.n = true) (hs : (P.underlying s).isSome = true) (ht : P.underlying t = some (.int .u64)) (hm : 0 ≤ m ∧ m < 18446744073709551616) :
    OpOk P S ops ⟨some d, .convert s t x, T, pos, aft, none⟩ (opT x) [] [(d, some (.v (UN.mk m)))] [] st :=
  OpOk.value rfl rfl (by simpa using hn) fun st1 hag G w a hr => ⟨.int .u64 m, by
    have e1 := RelV.int (hr.at hag hx fun t ht => ht)
    obtain ⟨ds, hds⟩ := Option.isSome_iff_exists.1 hs
    simp only [execOp, e1, convert, Sem.run_bind, run_underlying hds, run_underlying ht, Result.andThen_ok]
    cases ds <;> simp [Conv.intToInt, wrap_u64 hm], relUN _ _ _ _⟩
theorem op_cvI {s t : TypeId} {m : UN} (hx : st.ev x = some (.v m)) (hn : Nat.blt d st.n = true) (hs : (P.underlying s).isSome = true) (ht : P.underlying t = some (.int .i64)) (hm : 0 ≤ m.n ∧ m.n < 9223372036854775808) :
    OpOk P S ops ⟨some d, .convert s t x, T, pos, aft, none⟩ (opT x) [] [(d, some (.v m.n))] [] st :=
  OpOk.value rfl rfl (by simpa using hn) fun st1 hag G w a hr => ⟨.int .i64 m.n, by
    have e1 := RelV.un (hr.at hag hx fun t ht => ht)
    obtain ⟨ds, hds⟩ := Option.isSome_iff_exists.1 hs
    have hb : IntKind.i64.wrap m.n = m.n := wrap_in (by omega)
    simp only [execOp, e1, convert, Sem.run_bind, run_underlying hds, run_underlying ht, Result.andThen_ok]
    cases ds <;> simp [Conv.intToInt, hb], relInt _ _ _ _⟩
theorem op_cvUU {s t : TypeId} {m : UN} (hx : st.ev x = some (.v m)) (hn : Nat.blt d st.n = true) (hs : (P.underlying s).isSome = true) (ht : P.underlying t = some (.int .u64)) (hm : 0 ≤ m.n ∧ m.n < 18446744073709551616) :
    OpOk P S ops ⟨some d, .convert s t x, T, pos, aft, none⟩ (opT x) [] [(d, some (.v m))] [] st :=
  OpOk.value rfl rfl (by simpa using hn) fun st1 hag G w a hr => ⟨.int .u64 m.n, by
    have e1 := RelV.un (hr.at hag hx fun t ht => ht)
    obtain ⟨ds, hds⟩ := Option.isSome_iff_exists.1 hs
    simp only [execOp, e1, convert, Sem.run_bind, run_underlying hds, run_underlying ht, Result.andThen_ok]
    cases ds <;> simp [Conv.intToInt, wrap_u64 hm], relUN _ _ _ _⟩
theorem un_bin {t : TypeId} {op : BinOp} {av : AV} {u : Value} {m n : UN} (hx : st.ev x = some (.v m)) (hy : st.ev y = some (.v n)) (hn : Nat.blt d st.n = true)
    (h1 : ∀ w : World, (binOp op t (.int .u64 m.n) (.int .u64 n.n)).run P w = .ok u w) (h3 : ∀ G w ω, RelV G w ω av u) :
    OpOk P S ops ⟨some d, .binOp op t x y t', T, pos, aft, none⟩ (opT x ++ opT y) [] [(d, some av)] [] st :=
  bin_value hn fun st1 hag G w a hr => by
    have e1 := RelV.un (hr.at hag hx fun t ht => by simp [ht])
    have e2 := RelV.un (hr.at hag hy fun t ht => by simp [ht])
    refine ⟨u, by rw [e1, e2]; exact h1 w, by rw [e1, eqGuard_at_int]; rfl, h3 _ _ _⟩
/-- With a constant. -/
theorem un_binc {t : TypeId} {op : BinOp} {av : AV} {u c : Value} {m : UN} (hx : st.ev x = some (.v m)) (hn : Nat.blt d st.n = true)
    (h1 : ∀ w : World, (binOp op t (.int .u64 m.n) c).run P w = .ok u w) (h3 : ∀ G w ω, RelV G w ω av u) :
    OpOk P S ops ⟨some d, .binOp op t x (.const c) t', T, pos, aft, none⟩ (opT x) [] [(d, some av)] [] st :=
  bin_value hn fun st1 hag G w a hr => by
    have e1 := RelV.un (hr.at hag hx fun t ht => by simp [ht])
    refine ⟨u, by rw [e1]; exact h1 w, by rw [e1, eqGuard_at_int]; rfl, h3 _ _ _⟩
end Go.Wt
namespace Go.Wt
open Go
variable {P : Program} {S : Nat → Prop} {ops : Array Oper} {st : St} {d : Nat} {T : TypeId} {pos : String} {aft : Array Edge}
theorem op_asU {n : Int} (hn : Nat.blt d st.n = true) : OpOk P S ops ⟨some d, .assign (.const (.int .u64 n)), T, pos, aft, none⟩ [] [] [(d, some (.v (UN.mk n)))] [] st :=
  OpOk.value rfl rfl (by simpa using hn) fun st1 hag G w a hr => ⟨.int .u64 n, rfl, relUN _ _ _ _⟩
end Go.Wt
namespace Go.Wt
open Go
variable {P : Program} {S : Nat → Prop} {ops : Array Oper} {st : St}
variable {d : Nat} {T : TypeId} {pos : String} {aft : Array Edge} {x y z u : Operand}
theorem op_slAhm {E bytes t : TypeId} {o : Nat} {xs : List Int} {h : Int} (sl : SlOk P t E bytes Int) (hx : st.ev x = some (.v (NRef.ref o))) (hy : st.ev z = some (.v h)) (hu : st.ev u = some (.v h)) (ho : st.ob o = .arr xs) (hn : Nat.blt d st.n = true) (hb : h = xs.length) :
    OpOk P S ops ⟨some d, .slice t x none (some z) (some u), T, pos, aft, none⟩ (opT x ++ opT z ++ opT u) [o] [(d, some (.v (SRef.mk o 0 xs.length)))] [] st :=
  OpOk.value rfl rfl (by simpa using hn) fun st1 hag G w a hr => by
    obtain ⟨ad, n, c, h1, h2⟩ := RelV.ref (hr.at hag hx fun t ht => by simp [ht])
    have e2 := RelV.int (hr.at hag hy fun t ht => by simp [ht])
    have e4 := RelV.int (hr.at hag hu fun t ht => by simp [ht])
    have hob := hr.objs o
    rw [hag.ob o (by simp), ho] at hob
    obtain ⟨b, cap, cs, e, k1, k2', k3', _⟩ := hob
    have k0 := k1
    rw [h2] at k1
    injection k1 with k1
    injection k1 with k1 k2 k3
    subst k1 k2 k3
    obtain ⟨q1, q2⟩ := sl.elem
    refine ⟨sliced (some ⟨b, 0, none⟩) 0 h.toNat h.toNat (Enc.size Int), ?_, [_], ⟨b, xs.length, h.toNat, c, ?_, k0, by show xs.length ≤ h.toNat; omega⟩, by simp [Enc.val, Enc.agg]; rfl⟩
    · simp only [execOp, h1, e2, e4, Option.map_none, Option.map_some, Sem.run_bind, run_sliceAt_slice _ _ _ _ _ _ q1, run_slice_hm w t _ xs.length c q1 .i64 .i64 h h (by omega) (by omega) (by omega), q2, sl.el.size, Result.andThen_ok, Sem.run_pure]
    · have hh : h.toNat = xs.length := by omega
      simp only [sliced, hh]
      split <;> simp [Addr.add]
theorem op_ixS {E bytes t : TypeId} {o n : Nat} {i : Int} (sl : SlOk P t E bytes Int) (hx : st.ev x = some (.v (SRef.mk o 0 n))) (hy : st.ev y = some (.v i)) (hn : Nat.blt d st.n = true)
    (h0 : 0 ≤ i ∧ i < (n : Int)) : OpOk P S ops ⟨some d, .indexAddr t x y, T, pos, aft, none⟩ (opT x ++ opT y) [] [(d, some (.elm o i.toNat (IsLens.whole Int)))] [] st :=
  OpOk.value rfl rfl (by simpa using hn) fun st1 hag G w a hr => by
    obtain ⟨b, m, c, c', h1, h2, _⟩ := RelV.sref (hr.at hag hx fun t ht => by simp [ht])
    have e2 := RelV.int (hr.at hag hy fun t ht => by simp [ht])
    refine ⟨.pointer (some ⟨b, i.toNat * Enc.size Int, none⟩), ?_, b, _, _, h2, by simp⟩
    have hsz := sl.el.size w
    simp only [execOp, Instr.indexAt, Sem.run_bind, h1, e2, asIntOf, Sem.run_pure, Result.andThen_ok, run_underlying sl.spec.1]
    simp [h0, hsz, add_lit]
/-- A row that is handed out for good. -/
theorem frz_sref {o : Nat} {xs : List Int} (hB : xs.length ≤ big) : ∀ (G : Gh) (wd : Go.World) (u : Value), RelV G wd (.ret, []) (.v (SRef.mk o 0 xs.length)) u → (∀ k, RelO G wd k (Go.Wt.obs [(o, .arr xs)] k)) →
    ∃ G', RelV G' wd (.ret, []) (.v xs) u ∧ (∀ o, RelO G' wd o .free) ∧ ∀ S, (∀ o, ¬ S o) → Keep S G wd G' wd := by
  intro G wd u h ho
  obtain ⟨b, m, c, c', h1, h2, h3⟩ := RelV.sref h
  obtain ⟨b', n, k1, k2, k3, k4, k5⟩ := frz_elems (by have := ho o; simpa [obs, lk0, orr] using this) hB
  have k0 := k1
  rw [h2] at k1
  injection k1 with k1
  injection k1 with e1 _ _
  injection e1 with e1
  injection e1 with e1 _ _
  subst e1
  exact ⟨_, ⟨[u], ⟨some ⟨b, 0, none⟩, c, by rw [h1], h3, k5⟩, rfl⟩, frz_free, k3⟩
end Go.Wt
namespace Go.Wt
/-! ### Books -/
def payF (b : List Int) (p : Pay) : List Int :=
  if p.sum ≤ b.getD (p.frm - 1).toNat 0 then
    (b.set (p.frm - 1).toNat (b.getD (p.frm - 1).toNat 0 - p.sum)).set (p.to - 1).toNat ((b.set (p.frm - 1).toNat (b.getD (p.frm - 1).toNat 0 - p.sum)).getD (p.to - 1).toNat 0 + p.sum)
  else b
def bookF (c : List Itm) : List Int := c.foldl (fun b x => payF b x.pay) [9, 9, 9]
def Bk (b : List Int) : Prop := ∃ x y z : Int, b = [x, y, z] ∧ 0 ≤ x ∧ 0 ≤ y ∧ 0 ≤ z ∧ x + y + z = 27
theorem Bk.new : Bk [9, 9, 9] := ⟨9, 9, 9, rfl, by decide, by decide, by decide, by decide⟩
theorem pay_bd {p : Pay} (h : payOk p = true) : (1 ≤ p.frm ∧ p.frm ≤ 3) ∧ (1 ≤ p.to ∧ p.to ≤ 3) ∧ p.frm ≠ p.to ∧ 1 ≤ p.sum ∧ p.sum ≤ 9 := by
  simp only [payOk, within, Bool.and_eq_true, decide_eq_true_eq, bne_iff_ne] at h
  exact ⟨h.1.1.1, h.1.1.2, h.1.2, h.2⟩
theorem Bk.pay {b : List Int} {p : Pay} (h : Bk b) (hp : payOk p = true) : Bk (payF b p) := by
  obtain ⟨x, y, z, rfl, hx, hy, hz, hs⟩ := h
  obtain ⟨h1, h2, h3, h4⟩ := pay_bd hp
  obtain ⟨f, t, s⟩ := p
  simp only at h1 h2 h3 h4
  have hf : f = 1 ∨ f = 2 ∨ f = 3 := by omega
  have ht : t = 1 ∨ t = 2 ∨ t = 3 := by omega
  unfold payF
  split
  · rename_i hh
    rcases hf with rfl | rfl | rfl <;> rcases ht with rfl | rfl | rfl <;> first | (exfalso; omega) | (simp at hh ⊢; exact ⟨_, _, _, rfl, by omega, by omega, by omega, by omega⟩)
  · exact ⟨x, y, z, rfl, hx, hy, hz, hs⟩
theorem Bk.at {b : List Int} (h : Bk b) {k : Nat} (hk : k < 3) : ∃ v, b[k]? = some v ∧ b.getD k 0 = v ∧ 0 ≤ v ∧ v ≤ 27 := by
  obtain ⟨x, y, z, rfl, hx, hy, hz, hs⟩ := h
  have : k = 0 ∨ k = 1 ∨ k = 2 := by omega
  rcases this with rfl | rfl | rfl
  · exact ⟨x, rfl, rfl, hx, by omega⟩
  · exact ⟨y, rfl, rfl, hy, by omega⟩
  · exact ⟨z, rfl, rfl, hz, by omega⟩
theorem Bk.len {b : List Int} (h : Bk b) : b.length = 3 := by obtain ⟨x, y, z, rfl, _⟩ := h; rfl
theorem chainFrom_pay : ∀ (c : List Itm) (e : Int), chainFrom e c = true → ∀ x ∈ c, payOk x.pay = true
  | [], _, _, x, hx => by cases hx
  | y :: c, e, h, x, hx => by
    simp only [chainFrom, Bool.and_eq_true] at h
    rcases List.mem_cons.1 hx with rfl | hx
    · exact h.1.1.2
    · exact chainFrom_pay c _ h.2 x hx
theorem chainOk_pay {c : List Itm} (h : chainOk c = true) : ∀ x ∈ c, payOk x.pay = true := by
  simp only [chainOk, Bool.and_eq_true] at h
  exact chainFrom_pay c 0 h.1
theorem fold_bk : ∀ (l : List Itm) {b : List Int}, Bk b → (∀ x ∈ l, payOk x.pay = true) → Bk (l.foldl (fun b x => payF b x.pay) b)
  | [], _, h, _ => h
  | x :: l, _, h, hp => fold_bk l (h.pay (hp x (by simp))) fun y hy => hp y (by simp [hy])
end Go.Wt
namespace Go.Wt
def psum (b : List Int) (k : Nat) : Int := (b.take k).foldl (fun (s v : Int) => s + v) 0
theorem psum_step {b : List Int} {k : Nat} {v : Int} (h : b[k]? = some v) : psum b (k + 1) = psum b k + v := foldl_at (fun (s v : Int) => s + v) 0 h
theorem psum_bd {b : List Int} (h : Bk b) {k : Nat} (hk : k ≤ 3) : 0 ≤ psum b k ∧ psum b k ≤ 27 := by
  obtain ⟨x, y, z, rfl, hx, hy, hz, hs⟩ := h
  have : k = 0 ∨ k = 1 ∨ k = 2 ∨ k = 3 := by omega
  rcases this with rfl | rfl | rfl | rfl <;> simp [psum] <;> omega
theorem psum_all {b : List Int} (h : Bk b) : psum b 3 = 27 := by
  obtain ⟨x, y, z, rfl, hx, hy, hz, hs⟩ := h
  simp [psum]; omega
theorem book_bk {c : List Itm} (h : chainOk c = true) : Bk (bookF c) := fold_bk c Bk.new (chainOk_pay h)
end Go.Wt
